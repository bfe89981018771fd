import PyProof.Rows.All
import Wide.All
import OpenK.AllK
import Wide.FinOn
import KE.KStateDown
import Lean
import HandS.Base
import HandS.Call
import HandS.List
import HandS.Ends
import HandS.More
import HandS.Words
import HandS.WordsExc
import HandS.Defaults
import HandS.Head0
import HandS.Head1
import HandS.Head2
import HandS.Head3
import HandS.HeadEnd
import HandS.HeadHook1
import HandS.HeadHook2
import HandS.HeadHook4
import PySem.Challenge.RW_handsunread_k88_whole_unknown_ones_as_pa
import KE.SortKeyed
import HandS.ForMost
import HandS.IsInst
import HandS.TupAny
import HandS.TupLe
import HandS.Deep
import HandS.Conv
import HandS.Zip
import HandS.Gcd
import HandS.Style
import HandS.Codes
import HandS.Lambda
import KE.GoesMore
import KE.GoesEnum
import HandS.Star
import HandS.SetFor
import HandS.TupSets
import HandS.Strs
import HandS.SortKw
import HandS.Keys
import HandS.EndTab
import HandS.HeadWalk
import HandS.Flow
set_option Elab.async false
set_option linter.all false
set_option maxRecDepth 1000000
set_option maxHeartbeats 0
section -- Head
namespace KH
open PySem PySem.Spec PyProof.Rows L2
abbrev PR : Program := PySem.Challenge.pw_handsunread_k88_whole_unknown_ones_as_pa
def top (i : Nat) : Stmt := PR.main.body.getD i (.Pass ⟨0, 0, 0, 0⟩)
def dd (x : Str) (i : Nat) : He.DefD := ⟨(x, none), x, x, defArgs (top i), defBody (top i), defScope (top i), [], []⟩
def fn0 : List He.DefD := [dd "is_number" 7, dd "is_count" 8, dd "is_tuple_of" 9, dd "is_fraction" 10, dd "tupled" 11, dd "rises" 12, dd "set_of" 13, dd "is_number_set" 14, dd "sets_of" 15, dd "fraction_of" 16, dd "added" 17, dd "negative" 18, dd "lessened" 19, dd "multiplied" 20, dd "parted" 21, dd "row_added" 22, dd "row_times" 23, dd "columns_of" 24, dd "is_nothing" 25, dd "lead_of" 27, dd "lessened_by" 28, dd "reduced_rows" 29, dd "rank" 30, dd "det" 31, dd "check_places" 32, dd "is_sheet" 34, dd "unknown_of" 35, dd "with_part" 36, dd "with_numbers" 37, dd "crossed" 38]
def fn1 : List He.DefD := [dd "told_columns" 39, dd "count_at" 40, dd "count_of" 41, dd "counts_by_rows" 42, dd "greatest_of" 43, dd "greatest_rank" 44, dd "tight_by_rows" 45, dd "tight_windows" 46, dd "best_filling" 47, dd "rank_paper" 48, dd "is_filling" 49, dd "is_window" 50, dd "is_rank_paper" 51, dd "rank_without" 52, dd "rows_needed" 53, dd "needed" 54, dd "beside" 55, dd "bent_at" 56, dd "low_filling" 57, dd "_law_box" 59, dd "_law_take" 60, dd "_law_cells" 61, dd "_law_of" 62, dd "_law_lists" 63, dd "_law_same" 64, dd "_law_gcd" 65, dd "_law_fr" 66, dd "_law_less_by" 67, dd "_law_mul" 68, dd "_law_is_fr" 69]
def fn2 : List He.DefD := [dd "_law_is_row" 70, dd "_law_columns" 71, dd "_law_steps" 72, dd "_law_over_any" 73, dd "_law_struck" 74, dd "_law_rank" 75, dd "_law_lots" 76, dd "_law_holes" 77, dd "_law_cross" 78, dd "_law_is_told" 79, dd "_law_count" 80, dd "_law_tight_due" 81, dd "_law_is_filling" 82, dd "_law_is_window" 83, dd "_law_fits" 84, dd "_law_without" 85, dd "_law_most_pairs" 86, dd "_law_plain_windows" 87, dd "_law_pairs_needed" 88, dd "_law_case_right" 89, dd "_law_by_hand_right" 90, dd "law" 91]
def fn : List He.DefD := fn0 ++ fn1 ++ fn2
def fa0 : List He.Fa := [.glo "is_number", .glo "is_count", .glo "is_tuple_of", .glo "is_fraction", .glo "tupled", .glo "rises", .glo "set_of", .glo "is_number_set", .glo "sets_of", .glo "fraction_of", .glo "added", .glo "negative", .glo "lessened", .glo "multiplied", .glo "parted", .glo "row_added", .glo "row_times", .glo "columns_of", .glo "is_nothing", .glo "lead_of", .glo "lessened_by", .glo "reduced_rows", .glo "rank", .glo "det", .glo "check_places", .glo "is_sheet", .glo "unknown_of", .glo "with_part", .glo "with_numbers", .glo "crossed"]
def fa1 : List He.Fa := [.glo "told_columns", .glo "count_at", .glo "count_of", .glo "counts_by_rows", .glo "greatest_of", .glo "greatest_rank", .glo "tight_by_rows", .glo "tight_windows", .glo "best_filling", .glo "rank_paper", .glo "is_filling", .glo "is_window", .glo "is_rank_paper", .glo "rank_without", .glo "rows_needed", .glo "needed", .glo "beside", .glo "bent_at", .glo "low_filling", .glo "_law_box", .glo "_law_take", .glo "_law_cells", .glo "_law_of", .glo "_law_lists", .glo "_law_same", .glo "_law_gcd", .glo "_law_fr", .glo "_law_less_by", .glo "_law_mul", .glo "_law_is_fr"]
def fa2 : List He.Fa := [.glo "_law_is_row", .glo "_law_columns", .glo "_law_steps", .glo "_law_over_any", .glo "_law_struck", .glo "_law_rank", .glo "_law_lots", .glo "_law_holes", .glo "_law_cross", .glo "_law_is_told", .glo "_law_count", .glo "_law_tight_due", .glo "_law_is_filling", .glo "_law_is_window", .glo "_law_fits", .glo "_law_without", .glo "_law_most_pairs", .glo "_law_plain_windows", .glo "_law_pairs_needed", .glo "_law_case_right", .glo "_law_by_hand_right", .glo "law", .free "len", .free "isinstance", .free "tuple", .free "list", .free "all", .free "any", .free "zip", .free "sorted"]
def fa3 : List He.Fa := [.free "set", .free "range", .free "min", .free "max", .free "int", .free "bool", .free "str", .free "abs", .free "enumerate"]
def fa : List He.Fa := fa0 ++ fa1 ++ fa2 ++ fa3
def loose0 : List PySem.Str := ["NoNumber", "Unfit", "NONE", "ONE", "is_number", "is_count", "is_tuple_of", "is_fraction", "tupled", "rises", "set_of", "is_number_set", "sets_of", "fraction_of", "added", "negative", "lessened", "multiplied", "parted", "row_added", "row_times", "columns_of", "is_nothing", "lead_of", "lessened_by", "reduced_rows", "rank", "det", "check_places", "is_sheet"]
def loose1 : List PySem.Str := ["unknown_of", "with_part", "with_numbers", "crossed", "told_columns", "count_at", "count_of", "counts_by_rows", "greatest_of", "greatest_rank", "tight_by_rows", "tight_windows", "best_filling", "rank_paper", "is_filling", "is_window", "is_rank_paper", "rank_without", "rows_needed", "needed", "beside", "bent_at", "low_filling", "_law_box", "_law_take", "_law_cells", "_law_of", "_law_lists", "_law_same", "_law_gcd"]
def loose2 : List PySem.Str := ["_law_fr", "_law_less_by", "_law_mul", "_law_is_fr", "_law_is_row", "_law_columns", "_law_steps", "_law_over_any", "_law_struck", "_law_rank", "_law_lots", "_law_holes", "_law_cross", "_law_is_told", "_law_count", "_law_tight_due", "_law_is_filling", "_law_is_window", "_law_fits", "_law_without", "_law_most_pairs", "_law_plain_windows", "_law_pairs_needed", "_law_case_right", "_law_by_hand_right"]
def loose : List PySem.Str := loose0 ++ loose1 ++ loose2
def lawIx : Nat := 91
abbrev R : PySem.W.OpenRow := PySem.W.OpenLaw.row PySem.Challenge.rw_handsunread_k88_whole_unknown_ones_as_pa
/-! the part of the heap that is looked at: the module's names, what they are, their code -/
def asK (g : Addr → Option Obj) : List Addr :=
  let l1 := match g mainGlobals with
    | some o => He.refsO o
    | none => []
  mainGlobals :: (l1 ++ l1.flatMap fun a => match g a with
    | some o => He.refsO o
    | none => [])
def exK (K : PySem.W.Frag) : Bool := (match PySem.W.nsIn K mainGlobals "gcd" with
    | some (some (.builtin s)) => decide (s = "math.gcd")
    | _ => false) && ((He.tupB K "NONE" [.int 0, .int 1] && He.tupB K "ONE" [.int 1, .int 1]) && ((He.Fa.glo "NONE").ok K && (He.Fa.glo "ONE").ok K))
abbrev AlK : Type := (He.AlD × Bool) × Bool
def tfK : List He.Defn := [("sets_of", none)]
def obsK (g : Addr → Option Obj) (K : PySem.W.Frag) : AlK := ((He.obsD fa fn K, exK K), He.tabsB g tfK K)
def valK : AlK := ((He.valD fn, true), true)
def obsKG (g : Addr → Option Obj) : AlK := obsK g (He.frT g (asK g))
/-- what the head tells of K -/
structure Says (h : Heap) (K : PySem.W.Frag) : Prop where
  d : He.SaysD fa fn K
  ex : exK K = true
  hd : ∀ p ∈ tfK, PySem.W.codeHdIn K (He.cT K p).1 (He.cT K p).2 = true
  out : ∀ p ∈ tfK, K.lookup (He.cT K p).2 = none
  empty : ∀ p ∈ tfK, h.get? (He.cT K p).2 = some { cls := .none, data := .fields #[] }
theorem says_of {h : Heap} (e : obsKG h.get? = valK) : Says h (He.frT h.get? (asK h.get?)) := by
  have e1 : He.obsD fa fn (He.frT h.get? (asK h.get?)) = He.valD fn := congrArg (fun z : AlK => z.1.1) e
  have e2 : exK (He.frT h.get? (asK h.get?)) = true := congrArg (fun z : AlK => z.1.2) e
  have e3 : He.tabsB h.get? tfK (He.frT h.get? (asK h.get?)) = true := congrArg (fun z : AlK => z.2) e
  have key : ∀ p ∈ tfK, PySem.W.codeHdIn (He.frT h.get? (asK h.get?)) (He.cT (He.frT h.get? (asK h.get?)) p).1 (He.cT (He.frT h.get? (asK h.get?)) p).2 = true ∧ ∃ o, h.get? (He.cT (He.frT h.get? (asK h.get?)) p).2 = some o ∧ He.emptyTab o = true := fun p hp => by
    have q := List.all_eq_true.mp e3 p hp
    obtain ⟨h3, h4⟩ := Bool.and_eq_true_iff.mp q
    refine ⟨h3, ?_⟩
    cases z : h.get? (He.cT (He.frT h.get? (asK h.get?)) p).2 with
    | none => rw [z] at h4; cases h4
    | some o => rw [z] at h4; exact ⟨o, rfl, h4⟩
  refine ⟨e1, e2, fun p hp => (key p hp).1, fun p hp => ?_, fun p hp => ?_⟩
  · obtain ⟨_, o, q, z⟩ := key p hp
    exact He.frT_none q z
  · obtain ⟨_, o, q, z⟩ := key p hp
    rw [q, He.emptyTab_eq z]
abbrev hk : PySem.W.Hook where
  α := AlK
  obs := fun s => obsKG s.heap.get?
  val := fun _ => valK
  says := fun _ h => ∃ K : PySem.W.Frag, K.In h ∧ Says h K
  of := fun _ _ e => ⟨_, He.frT_in, says_of e⟩
  keeps := fun _ _ _ ⟨K, hK, c⟩ k => ⟨K, PySem.W.Frag.In.keeps hK k, ⟨c.d, c.ex, c.hd, c.out, fun p hp => k _ _ (c.empty p hp)⟩⟩
def ob (s : PySem.W.SharedT) : AlK := obsKG (HandSHeadRun.getT s)
theorem ob_eq (s : PySem.W.SharedT) : ob s = hk.obs s.abs := by
  show obsKG _ = obsKG _
  rw [show HandSHeadRun.getT s = s.abs.heap.get? from funext (HandSHeadRun.getT_eq s)]
abbrev qv : Program := PySem.W.view R.prog [0, lawIx]
theorem run (w : World) : HandSHeadRun.RunEqI R qv hk ob 4000 loose w := by
  unfold HandSHeadRun.RunEqI
  kernel_rfl
end KH
end
section -- Ev
/-! A pure evaluator over data (PyData) for a small language; no machine in sight. -/
namespace PV
open PySem
abbrev D := PyData
/-- the longest list that it makes -/
def lim : Nat := 5000
inductive Op where
  | add | sub | mul | fdiv | mod
  deriving DecidableEq
inductive Cm where
  | eq | ne | lt | le | gt | ge | in_ | notIn
  deriving DecidableEq
inductive Ty where
  | int | bool | str | list | tuple
  deriving DecidableEq
/-- built-in functions of one argument -/
inductive F1 where
  | len | all | any | min | tuple | list | lrng | abs | int
  deriving DecidableEq
inductive F2 where
  | max | gcd
  deriving DecidableEq
inductive Sk where
  | setL | plain | lam | fn (f : Nat)
  deriving DecidableEq
/-- a target: a slot, a tuple of targets -/
inductive T where
  | one (i : Nat)
  | tup (ts : List T)
inductive E where
  | var (i : Nat)
  | cN
  | cB (b : Bool)
  | cI (i : Int)
  | cS (s : Str)
  | gl (one : Bool)
  | tup (es : List E)
  | lst (es : List E)
  | star (e : E)
  | bin (o : Op) (a b : E)
  | neg (a : E)
  | not (a : E)
  | cmp (o : Cm) (a b : E)
  | isN (no : Bool) (a : E)
  | chain (a b c : E)
  | and (a b : E)
  | or (a b : E)
  | ite (c a b : E)
  | ix (a b : E)
  | sl (a : E) (lo hi : Option E)
  | call (f : Nat) (es : List E)
  | f1 (f : F1) (a : E)
  | f2 (f : F2) (a b : E)
  | isi (a : E) (t : Ty)
  | isi2 (a : E) (t u : Ty)
  | srt (k : Sk) (a : E)
  | rng1 (a : E)
  | rng2 (a b : E)
  | zip (a b : E)
  /-- o: of a list that a slot owns -/
  | enum (o : Bool) (a : E)
  | lc (elt : E) (tg : T) (it : E) (c : Option E) (ws : List (Str × Nat))
  | lc2 (elt : E) (tg : T) (it : E) (tg2 : T) (it2 : E) (c : Option E) (ws : List (Str × Nat)) (vs : List Nat)
/-- what a slot holds: nothing known, a value, a list of its own -/
inductive Cel where
  | un
  | val (d : D)
  | own (ds : List D)
abbrev Rho := List Cel
/-! ### the operators -/
def fitI (i : Int) : Bool := decide (-(2 ^ 64) < i) && decide (i < 2 ^ 64)
def small (n : Nat) : Bool := Nat.ble n lim
def okL (ds : List D) : Option D := if small ds.length then some (.list ds) else none
def okT (ds : List D) : Option D := if small ds.length then some (.tuple ds) else none
def binF : Op → D → D → Option D
  | .add, .int i, .int j => some (.int (i + j))
  | .add, .list a, .list b => okL (a ++ b)
  | .add, .tuple a, .tuple b => okT (a ++ b)
  | .sub, .int i, .int j => some (.int (i - j))
  | .mul, .int i, .int j => if fitI i || fitI j then some (.int (i * j)) else none
  | .mul, .list a, .int k => if decide (0 ≤ k) && decide (k < 5000) then okL (List.replicate k.toNat a).flatten else none
  | .fdiv, .int i, .int j => if decide (j ≠ 0) && decide (j.natAbs < 1073741824) then some (.int (i.fdiv j)) else none
  | .mod, .int i, .int j => if decide (j ≠ 0) then some (.int (i.fmod j)) else none
  | _, _, _ => none
def intsD : List D → Option (List Int)
  | [] => some []
  | .int i :: r => (intsD r).bind fun l => some (i :: l)
  | _ :: _ => none
def boolsD : List D → Option (List Bool)
  | [] => some []
  | .bool i :: r => (boolsD r).bind fun l => some (i :: l)
  | _ :: _ => none
/-- tuples of ints: the left one not before the right one -/
def geI : List Int → List Int → Bool
  | _, [] => true
  | [], _ :: _ => false
  | x :: xs, y :: ys => if x = y then geI xs ys else decide (y ≤ x)
def itemsOf : D → Option (List D)
  | .list ds => some ds
  | .tuple ds => some ds
  | _ => none
def shp (d : D) : Bool := SeqAt.shaped d
def cmpF : Cm → D → D → Option D
  | .eq, a, b => if shp a && shp b then some (.bool (PyData.eqv a b)) else none
  | .ne, a, b => if shp a && shp b then some (.bool (!PyData.eqv a b)) else none
  | .lt, .int i, .int j => some (.bool (decide (i < j)))
  | .le, .int i, .int j => some (.bool (decide (i ≤ j)))
  | .gt, .int i, .int j => some (.bool (decide (j < i)))
  | .ge, .int i, .int j => some (.bool (decide (j ≤ i)))
  | .ge, .tuple a, .tuple b => (intsD a).bind fun x => (intsD b).bind fun y => some (.bool (geI x y))
  | .in_, a, .tuple ds => if shp a && shp (.tuple ds) then some (.bool (ds.any fun z => PyData.eqv z a)) else none
  | .notIn, a, .tuple ds => if shp a && shp (.tuple ds) then some (.bool (!ds.any fun z => PyData.eqv z a)) else none
  | _, _, _ => none
def isNone : D → Bool
  | .none => true
  | _ => false
def minI : List Int → Option Int
  | [] => none
  | x :: r => some (r.foldl (fun m y => if y < m then y else m) x)
def rangeD (a b : Int) : List D := (List.range (b - a).toNat).map fun i => PyData.int (a + (i : Nat))
def okR (a b : Int) : Bool := decide (0 ≤ a) && decide (a ≤ 5000) && decide (0 ≤ b) && decide (b ≤ 5000)
def f1F : F1 → D → Option D
  | .len, .list ds => some (.int (ds.length : Nat))
  | .len, .tuple ds => some (.int (ds.length : Nat))
  | .all, .list ds => (boolsD ds).bind fun bs => some (.bool (bs.all id))
  | .any, .list ds => (boolsD ds).bind fun bs => some (.bool (bs.any id))
  | .min, .list ds => (intsD ds).bind fun ns => (minI ns).bind fun m => some (.int m)
  | .tuple, .list ds => some (.tuple ds)
  | .tuple, .tuple ds => some (.tuple ds)
  | .list, .list ds => some (.list ds)
  | .list, .tuple ds => some (.list ds)
  | .lrng, .int n => if okR 0 n then some (.list (rangeD 0 n)) else none
  | .abs, .int n => some (.int (if n < 0 then -n else n))
  | .int, .int n => some (.int n)
  | _, _ => none
def f2F : F2 → D → D → Option D
  | .max, .int i, .int j => some (.int (if j > i then j else i))
  | .gcd, .int i, .int j => some (.int ((Nat.gcd i.natAbs j.natAbs : Nat) : Int))
  | _, _, _ => none
def tyIs : D → Ty → Bool
  | .bool _, .int => true
  | .bool _, .bool => true
  | .int _, .int => true
  | .str _, .str => true
  | .list _, .list => true
  | .tuple _, .tuple => true
  | _, _ => false
def noDict : D → Bool
  | .dict _ => false
  | _ => true
def sliceF (d : D) (lo hi : Option Int) : Option D := match d with
  | .list ds => some (.list ((ds.drop (HT.sIx ds.length 0 lo)).take (HT.sIx ds.length ds.length hi - HT.sIx ds.length 0 lo)))
  | .tuple ds => some (.tuple ((ds.drop (HT.sIx ds.length 0 lo)).take (HT.sIx ds.length ds.length hi - HT.sIx ds.length 0 lo)))
  | _ => none
def ixF : D → D → Option D
  | .list ds, .int i => L2.atI ds i
  | .tuple ds, .int i => L2.atI ds i
  | _, _ => none
def intO : D → Option Int
  | .int i => some i
  | _ => none
def boolO : D → Option Bool
  | .bool b => some b
  | _ => none
/-! ### sorting -/
/-- ints; tuples of ints: by the first place that differs -/
def ltI : List Int → List Int → Bool
  | [], [] => false
  | [], _ :: _ => true
  | _ :: _, [] => false
  | x :: xs, y :: ys => if x = y then ltI xs ys else decide (x < y)
def ins {α : Type} (lt : α → α → Bool) (x : α) : List α → List α
  | [] => [x]
  | y :: r => if lt y x then y :: ins lt x r else x :: y :: r
/-- stable: from the right, each ahead of those that are not less -/
def isort {α : Type} (lt : α → α → Bool) : List α → List α
  | [] => []
  | x :: r => ins lt x (isort lt r)
def tupI : D → Option (List Int)
  | .tuple ds => intsD ds
  | _ => none
def mapO {α β : Type} (f : α → Option β) : List α → Option (List β)
  | [] => some []
  | x :: r => (f x).bind fun y => (mapO f r).bind fun ys => some (y :: ys)
def dedup {α : Type} [DecidableEq α] : List α → List α
  | [] => []
  | x :: r => if x ∈ r then dedup r else x :: dedup r
def decI (ns : List Int) : D := .tuple (ns.map PyData.int)
/-- ints by the first place that differs, with a number ahead -/
def ltK (a b : Int × List Int) : Bool := if a.1 = b.1 then ltI a.2 b.2 else decide (a.1 < b.1)
def enK (a : Int × List Int) : D := .tuple [.int a.1, decI a.2]
def few (n : Nat) : Bool := Nat.ble n 60
/-- sorted(set(ds)): ints, or tuples of two ints -/
def setS (ds : List D) : Option D :=
  match intsD ds with
  | some ns => if few ns.length then some (.list ((isort (fun a b => decide (a < b)) (dedup ns)).map PyData.int)) else none
  | none => (mapO tupI ds).bind fun ts => if few ts.length && ts.all (fun t => decide (t.length = 2) && t.all fun i => decide (0 ≤ i) && decide (i < 64)) then some (.list ((isort ltI (dedup ts)).map decI)) else none
def tup1 : D → Bool
  | .tuple (_ :: _) => true
  | _ => false
def noTup : D → Bool
  | .tuple _ => false
  | .none => false
  | _ => true
/-- they can be compared, any two of them -/
def sortOk (ds : List D) : Bool := (ds.all fun d => ds.all fun e => W.alike d e) && (ds.all tup1 || ds.all noTup) && (ds.all fun d => Nat.ble d.depth 60) && small ds.length
def lenKey : D → Option D
  | .tuple xs => some (.tuple [.int (xs.length : Nat), .tuple xs])
  | _ => none
def sortBy (ks ds : List D) : Option D := if sortOk ks then some (.list ((isort (fun a b => W.dataLt a.1 b.1) (ks.zip ds)).map (·.2))) else none
def srtF (c : Nat → List D → Option D) : Sk → D → Option D
  | .setL, .list ds => setS ds
  | .setL, .tuple ds => if (intsD ds).isSome then setS ds else none
  | .plain, .list ds => if sortOk ds then some (.list (isort W.dataLt ds)) else none
  | .lam, .list ds => (mapO lenKey ds).bind fun ks => sortBy ks ds
  | .fn f, .list ds => (mapO (fun d => c f [d]) ds).bind fun ks => sortBy ks ds
  | _, _ => none
/-! ### slots -/
def getV (ρ : Rho) (i : Nat) : Option D := match ρ[i]? with
  | some (.val d) => some d
  | _ => none
def getB (ρ : Rho) (i : Nat) : Option D := match ρ[i]? with
  | some (.val d) => some d
  | some (.own ds) => some (.list ds)
  | _ => none
def isOwn (ρ : Rho) (i : Nat) : Bool := match ρ[i]? with
  | some (.own _) => true
  | _ => false
/-- a list that a slot owns may be read where nothing keeps it -/
def bor (ρ : Rho) (e : E) (r : Option D) : Option D := match e with
  | .var i => getB ρ i
  | _ => r
def bor2 (o : Bool) (ρ : Rho) (e : E) (r : Option D) : Option D := if o then bor ρ e r else r
def setV (ρ : Rho) (i : Nat) (d : D) : Option Rho := if Nat.blt i ρ.length && !isOwn ρ i then some (ρ.set i (.val d)) else none
def wipeC (ρ : Rho) : List Nat → Rho
  | [] => ρ
  | v :: vs => (wipeC ρ vs).set v .un
mutual
def bindT : T → D → Rho → Option Rho
  | .one i, d, ρ => setV ρ i d
  | .tup ts, d, ρ => match d with
    | .tuple ds => bindTs ts ds ρ
    | _ => none
def bindTs : List T → List D → Rho → Option Rho
  | [], [], ρ => some ρ
  | t :: ts, d :: ds, ρ => (bindT t d ρ).bind fun ρ' => bindTs ts ds ρ'
  | _, _, _ => none
end
def pairs : List D → List D → List D
  | x :: xs, y :: ys => .tuple [x, y] :: pairs xs ys
  | _, _ => []
def numbered : Nat → List D → List D
  | _, [] => []
  | n, x :: xs => .tuple [.int (n : Nat), x] :: numbered (n + 1) xs
def zipF : D → D → Option D
  | .list a, .list b => some (.list (pairs a b))
  | .tuple a, .tuple b => some (.list (pairs a b))
  | _, _ => none
def one1 (r : Option D) : Option (List D) := r.bind fun d => some [d]
/-- under a test that may be left out -/
def under (t : Option (Option D)) (k : Option (List D)) : Option (List D) := match t with
  | none => k
  | some t => (t.bind boolO).bind fun b => if b then k else some []
mutual
def evE (c : Bool → Nat → List D → Option D) : E → Rho → Option D
  | .var i, ρ => getV ρ i
  | .cN, _ => some .none
  | .cB b, _ => some (.bool b)
  | .cI i, _ => some (.int i)
  | .cS s, _ => some (.str s)
  | .gl o, _ => some (.tuple [.int (if o then 1 else 0), .int 1])
  | .tup es, ρ => (evL c es ρ).bind okT
  | .lst es, ρ => (evL c es ρ).bind okL
  | .star _, _ => none
  | .bin o a b, ρ => (evE c a ρ).bind fun x => (evE c b ρ).bind fun y => binF o x y
  | .neg a, ρ => ((evE c a ρ).bind intO).bind fun i => some (.int (-i))
  | .not a, ρ => ((evE c a ρ).bind boolO).bind fun b => some (.bool !b)
  | .cmp o a b, ρ => (bor ρ a (evE c a ρ)).bind fun x => (evE c b ρ).bind fun y => cmpF o x y
  | .isN no a, ρ => (evE c a ρ).bind fun x => some (.bool (isNone x != no))
  | .chain a b d, ρ => ((evE c a ρ).bind intO).bind fun x => ((evE c b ρ).bind intO).bind fun y => if x ≤ y then ((evE c d ρ).bind intO).bind fun z => some (.bool (decide (y < z))) else some (.bool false)
  | .and a b, ρ => ((evE c a ρ).bind boolO).bind fun x => if x then evE c b ρ else some (.bool false)
  | .or a b, ρ => ((evE c a ρ).bind boolO).bind fun x => if x then some (.bool true) else evE c b ρ
  | .ite t a b, ρ => ((evE c t ρ).bind boolO).bind fun x => if x then evE c a ρ else evE c b ρ
  | .ix a b, ρ => (bor ρ a (evE c a ρ)).bind fun x => (evE c b ρ).bind fun y => ixF x y
  | .sl a lo hi, ρ => (evE c a ρ).bind fun x => (evO c lo ρ).bind fun l => (evO c hi ρ).bind fun h => sliceF x l h
  | .call f es, ρ => (evL c es ρ).bind fun ds => c false f ds
  | .f1 f a, ρ => (bor ρ a (evE c a ρ)).bind fun x => f1F f x
  | .f2 f a b, ρ => (evE c a ρ).bind fun x => (evE c b ρ).bind fun y => f2F f x y
  | .isi a t, ρ => (evE c a ρ).bind fun x => if noDict x then some (.bool (tyIs x t)) else none
  | .isi2 a t u, ρ => (evE c a ρ).bind fun x => if noDict x then some (.bool (tyIs x t || tyIs x u)) else none
  | .srt k a, ρ => (bor ρ a (evE c a ρ)).bind fun x => srtF (c true) k x
  | .rng1 a, ρ => ((evE c a ρ).bind intO).bind fun n => if okR 0 n then some (.list (rangeD 0 n)) else none
  | .rng2 a b, ρ => ((evE c a ρ).bind intO).bind fun m => ((evE c b ρ).bind intO).bind fun n => if okR m n then some (.list (rangeD m n)) else none
  | .zip a b, ρ => (evE c a ρ).bind fun x => (evE c b ρ).bind fun y => zipF x y
  | .enum o a, ρ => ((bor2 o ρ a (evE c a ρ)).bind itemsOf).bind fun ds => some (.list (numbered 0 ds))
  | .lc elt tg it q ws, ρ => ((bor ρ it (evE c it ρ)).bind itemsOf).bind fun ds =>
      (mapO (fun d => (bindT tg d (wipeC ρ (ws.map (·.2)))).bind fun ρ' => under (evQ c q ρ') (one1 (evE c elt ρ'))) ds).bind fun rs => okL rs.flatten
  | .lc2 elt tg it tg2 it2 q ws vs, ρ => ((bor ρ it (evE c it ρ)).bind itemsOf).bind fun ds =>
      (mapO (fun d => (bindT tg d (wipeC ρ (ws.map (·.2)))).bind fun ρ' => ((evE c it2 ρ').bind itemsOf).bind fun es =>
        (mapO (fun e => (bindT tg2 e (wipeC ρ' vs)).bind fun ρ'' => under (evQ c q ρ'') (one1 (evE c elt ρ''))) es).bind fun rs => some rs.flatten) ds).bind fun rs => okL rs.flatten
def evL (c : Bool → Nat → List D → Option D) : List E → Rho → Option (List D)
  | [], _ => some []
  | .star e :: es, ρ => ((evE c e ρ).bind itemsOf).bind fun xs => (evL c es ρ).bind fun ys => some (xs ++ ys)
  | e :: es, ρ => (evE c e ρ).bind fun x => (evL c es ρ).bind fun ys => some (x :: ys)
def evO (c : Bool → Nat → List D → Option D) : Option E → Rho → Option (Option Int)
  | none, _ => some none
  | some e, ρ => ((evE c e ρ).bind intO).bind fun i => some (some i)
def evQ (c : Bool → Nat → List D → Option D) : Option E → Rho → Option (Option D)
  | none, _ => none
  | some e, ρ => some (evE c e ρ)
end
/-! ### statements -/
inductive S where
  /-- target = e -/
  | asg (t : T) (e : E)
  /-- x = a new list, from now on its own -/
  | new (i : Nat) (e : E)
  /-- x, y = a, b; three -/
  | par2 (i j : Nat) (a b : E)
  | par3 (i j l : Nat) (a b c : E)
  /-- x, y = a, b; x a new list of its own -/
  | newP (i j : Nat) (a b : E)
  | aug (i : Nat) (e : E)
  | setIx (i : Nat) (k e : E)
  /-- x[a], x[b] = x[b], x[a] -/
  | swp (i : Nat) (a b : E)
  | app (i : Nat) (e : E)
  /-- y = x.pop(e) -/
  | pop (j i : Nat) (e : E)
  | ret (e : E)
  | ite (c : E) (a b : List S)
  | for_ (t : T) (it : E) (b : List S)
  | whl (c : E) (b : List S)
  | ex (e : E)
  | never
  /-- no statement: x's list is a value from now on -/
  | frz (i : Nat)
inductive Out where
  | nx (ρ : Rho)
  | ret (d : D)
def setO (ρ : Rho) (i : Nat) (d : D) : Option Rho := match d with
  | .list ds => if Nat.blt i ρ.length then some (ρ.set i (.own ds)) else none
  | _ => none
def getO (ρ : Rho) (i : Nat) : Option (List D) := match ρ[i]? with
  | some (.own ds) => some ds
  | _ => none
def nxO (r : Option Rho) : Option Out := r.bind fun ρ => some (.nx ρ)
/-- a loop over items -/
def loopO (f : D → Rho → Option Out) : List D → Rho → Option Out
  | [], ρ => some (.nx ρ)
  | x :: r, ρ => (f x ρ).bind fun o => match o with
    | .nx ρ' => loopO f r ρ'
    | .ret d => some (.ret d)
def whileO (t : Rho → Option Bool) (f : Rho → Option Out) : Nat → Rho → Option Out
  | 0, _ => none
  | n + 1, ρ => (t ρ).bind fun b => if b then (f ρ).bind fun o => (match o with
    | .nx ρ' => whileO t f n ρ'
    | .ret d => some (.ret d)) else some (.nx ρ)
def turns : Nat := 40
def idxO (d : D) (n : Nat) : Option Nat := (intO d).bind fun i => L2.ixN n i
def putIx (c : Bool → Nat → List D → Option D) (i : Nat) (k : E) (d : D) (ρ : Rho) : Option Rho := (evE c k ρ).bind fun j => (getO ρ i).bind fun ds => (idxO j ds.length).bind fun j => some (ρ.set i (.own (ds.set j d)))
mutual
def exS (c : Bool → Nat → List D → Option D) : S → Rho → Option Out
  | .asg t e, ρ => (evE c e ρ).bind fun d => nxO (bindT t d ρ)
  | .new i e, ρ => (evE c e ρ).bind fun d => nxO (setO ρ i d)
  | .par2 i j a b, ρ => (evE c a ρ).bind fun x => (evE c b ρ).bind fun y => nxO ((setV ρ i x).bind fun ρ' => setV ρ' j y)
  | .par3 i j l a b d, ρ => (evE c a ρ).bind fun x => (evE c b ρ).bind fun y => (evE c d ρ).bind fun z => nxO ((setV ρ i x).bind fun ρ' => (setV ρ' j y).bind fun ρ' => setV ρ' l z)
  | .newP i j a b, ρ => (evE c a ρ).bind fun x => (evE c b ρ).bind fun y => nxO ((setO ρ i x).bind fun ρ' => setV ρ' j y)
  | .aug i e, ρ => ((getV ρ i).bind intO).bind fun x => ((evE c e ρ).bind intO).bind fun y => nxO (setV ρ i (.int (x + y)))
  | .setIx i k e, ρ => (evE c e ρ).bind fun d => (putIx c i k d ρ).bind fun ρ' => some (.nx ρ')
  | .swp i a b, ρ => (evE c (.ix (.var i) b) ρ).bind fun x => (evE c (.ix (.var i) a) ρ).bind fun y => (putIx c i a x ρ).bind fun ρ' => (putIx c i b y ρ').bind fun ρ' => some (.nx ρ')
  | .app i e, ρ => (evE c e ρ).bind fun d => (getO ρ i).bind fun ds => if small ds.length then some (.nx (ρ.set i (.own (ds ++ [d])))) else none
  | .pop j i e, ρ => (evE c e ρ).bind fun k => (getO ρ i).bind fun ds => (idxO k ds.length).bind fun k => (ds[k]?).bind fun d => if i = j then none else if small ds.length then nxO (setV (ρ.set i (.own (ds.eraseIdx k))) j d) else none
  | .ret e, ρ => (evE c e ρ).bind fun d => some (.ret d)
  | .ite t a b, ρ => ((evE c t ρ).bind boolO).bind fun x => if x then exL c a ρ else exL c b ρ
  | .for_ t it b, ρ => ((evE c it ρ).bind itemsOf).bind fun ds => loopO (fun d ρ => (bindT t d ρ).bind fun ρ' => exL c b ρ') ds ρ
  | .whl t b, ρ => whileO (fun ρ => (evE c t ρ).bind boolO) (fun ρ => exL c b ρ) turns ρ
  | .ex e, ρ => (evE c e ρ).bind fun _ => some (.nx ρ)
  | .never, _ => none
  | .frz i, ρ => (getO ρ i).bind fun ds => some (.nx (ρ.set i (.val (.list ds))))
def exL (c : Bool → Nat → List D → Option D) : List S → Rho → Option Out
  | [], ρ => some (.nx ρ)
  | s :: r, ρ => (exS c s ρ).bind fun o => match o with
    | .nx ρ' => exL c r ρ'
    | .ret d => some (.ret d)
end
/-- one def: its slots, its parameters, its body -/
structure Df where
  n : Nat
  k : Nat
  body : List S
def startR (n : Nat) (ds : List D) : Rho := ds.map Cel.val ++ List.replicate (n - ds.length) .un
def runDf (c : Bool → Nat → List D → Option D) (d : Df) (ds : List D) : Option D :=
  if ds.length = d.k then (exL c d.body (startR d.n ds)).bind fun o => match o with
    | .ret x => some x
    | .nx _ => some .none
  else none
/-- the f-th def of a table, n calls deep at most; keys are asked for two calls deeper -/
def runF (tab : List Df) : Nat → Nat → List D → Option D
  | 0, _, _ => none
  | 1, _, _ => none
  | 2, _, _ => none
  | 3, _, _ => none
  | n + 4, f, ds => (tab[f]?).bind fun d => runDf (fun k => if k then runF tab (n + 1) else runF tab (n + 3)) d ds
end PV
end
section -- Rp
/-! Data in the heap: what a value stands for, in a part of the heap; slots. -/
namespace PV
open PySem PySem.Spec L2
open PyProof.Rows hiding St
/-! ### a part of the heap -/
def mask (F : List Addr) (H : Hp) : Hp := fun a => if a ∈ F then none else H a
theorem mask_in {F : List Addr} {H : Hp} {a : Addr} (h : a ∈ F) : mask F H a = none := if_pos h
theorem mask_out {F : List Addr} {H : Hp} {a : Addr} (h : a ∉ F) : mask F H a = H a := if_neg h
theorem mask_some {F : List Addr} {H : Hp} {a : Addr} {o : HO} (h : mask F H a = some o) : a ∉ F ∧ H a = some o := by
  unfold mask at h
  split at h
  · cases h
  · exact ⟨by assumption, h⟩
/-- a thing that is no code object's table -/
def nt : HO → Bool
  | .tbl _ => false
  | _ => true
/-- all stays but tables, which may grow -/
structure Sb (H H' : Hp) : Prop where
  at_ : ∀ b o, nt o = true → H b = some o → H' b = some o
/-- a thing stands at a, no table -/
def Hs (H : Hp) (a : Addr) : Prop := ∃ o, H a = some o ∧ nt o = true
theorem Hs.ne {H : Hp} {a : Addr} (h : Hs H a) : H a ≠ none := by
  obtain ⟨o, e, _⟩ := h
  rw [e]
  simp
theorem Hs.l {H : Hp} {a : Addr} {xs : List V} (h : H a = some (.lst xs)) : Hs H a := ⟨_, h, rfl⟩
theorem Sb.dom {H H' : Hp} (s : Sb H H') (b : Addr) (h : Hs H b) : Hs H' b := by
  obtain ⟨o, e, n⟩ := h
  exact ⟨o, s.at_ b o n e, n⟩
theorem Sb.refl (H : Hp) : Sb H H := ⟨fun _ _ _ e => e⟩
theorem Sb.trans {H H1 H2 : Hp} (a : Sb H H1) (b : Sb H1 H2) : Sb H H2 := ⟨fun c o n e => b.at_ c o n (a.at_ c o n e)⟩
theorem Sb.lst {H H' : Hp} (s : Sb H H') {a : Addr} {xs : List V} (e : H a = some (.lst xs)) : H' a = some (.lst xs) := s.at_ _ _ rfl e
theorem Sb.of {H H' : Hp} (s : Same H H') : Sb H H' := ⟨fun b o _ e => s b o e⟩
theorem mask_same (F : List Addr) (H : Hp) : Sb (mask F H) H := ⟨fun a o _ h => (mask_some h).2⟩
theorem mask_moreN {F G : List Addr} {H H' : Hp} (h : Sb H H') (hG : ∀ a ∈ G, a ∈ F ∨ ¬ Hs H a) : Sb (mask F H) (mask G H') := by
  refine ⟨fun a o n e => ?_⟩
  obtain ⟨h1, h2⟩ := mask_some e
  rw [mask_out fun hg => (hG a hg).elim h1 fun z => z ⟨o, h2, n⟩]
  exact h.at_ a o n h2
theorem mask_more {F G : List Addr} {H H' : Hp} (h : Sb H H') (hG : ∀ a ∈ G, a ∈ F ∨ H a = none) : Sb (mask F H) (mask G H') := mask_moreN h fun a ha => (hG a ha).imp id fun z w => w.ne z
theorem mask_mono {F : List Addr} {H H' : Hp} (h : Sb H H') : Sb (mask F H) (mask F H') := mask_more h fun a ha => .inl ha
theorem mask_less {F G : List Addr} {H : Hp} (hG : ∀ a ∈ G, a ∈ F) : Sb (mask F H) (mask G H) := mask_more (Sb.refl H) fun a ha => .inl (hG a ha)
theorem Sb.seqT {K : PySem.W.Frag} {H H' : Hp} {a : Addr} {xs : List V} (e : Sb H H') (h : SqT K H a xs) : SqT K H' a xs := by
  rcases h with (h | ⟨o, h⟩) | h
  · exact .inl (.inl (e.at_ _ _ rfl h))
  · exact .inl (.inr ⟨o, e.at_ _ _ rfl h⟩)
  · exact .inr h
theorem same_upd {H : Hp} {p : Addr} {o : HO} (h : H p = none) : Same H (upd H p o) := fun b x e => by
  rw [upd_ne (ne_of_none e h)]
  exact e
theorem sb_upd {H : Hp} {p : Addr} {o : HO} (h : H p = none) : Sb H (upd H p o) := Sb.of (same_upd h)
/-! ### the one table of code objects that grows: that of the def with a lambda -/
/-- the code object of sets_of, its table -/
def cL (K : PySem.W.Frag) : Addr := He.codeOf K ("sets_of", none)
def tL (K : PySem.W.Frag) : Addr := He.tabOf K (cL K)
/-- the lambda's qualified name -/
def qL : Str := PySem.Str.ofString "sets_of.<locals>.<lambda>"
def TabP (K : PySem.W.Frag) (H : Hp) : Prop := LamX.TabS H (tL K) qL
structure Sm (K : PySem.W.Frag) (H H' : Hp) : Prop where
  b : Sb H H'
  t : TabP K H → TabP K H'
section
variable {K : PySem.W.Frag} {H H1 H2 H' : Hp}
theorem Sm.refl (H : Hp) : Sm K H H := ⟨Sb.refl H, fun h => h⟩
theorem Sm.trans (a : Sm K H H1) (b : Sm K H1 H2) : Sm K H H2 := ⟨a.b.trans b.b, fun h => b.t (a.t h)⟩
theorem Sm.of (s : Same H H') : Sm K H H' := ⟨Sb.of s, fun h => LamX.TabS.ext h s⟩
theorem sm_upd {p : Addr} {o : HO} (h : H p = none) : Sm K H (upd H p o) := Sm.of (same_upd h)
theorem mm {F : List Addr} (s : Sm K H H') : Sb (mask F H) (mask F H') := mask_mono s.b
/-- the table where a list is changed -/
theorem tab_lst {p : Addr} {xs ys : List V} (h : H p = some (.lst xs)) (t : TabP K H) : TabP K (upd H p (.lst ys)) := by
  obtain ⟨ps, h1, h2, h3⟩ := t
  refine ⟨ps, by rw [upd_ne (ne_of h1 h (by intro z; cases z))]; exact h1, h2, fun pos cv hc => ?_⟩
  obtain ⟨c, e1, e2⟩ := h3 pos cv hc
  exact ⟨c, e1, by rw [upd_ne (ne_of e2 h (by unfold LamX.CodeO; intro z; cases z))]; exact e2⟩
end
/-! ### what a value stands for -/
mutual
inductive Rp (K : PySem.W.Frag) (M : Hp) : V → PyData → Prop
  | non : Rp K M .non .none
  | bl (b : Bool) : Rp K M (.bl b) (.bool b)
  | int (i : Int) : Rp K M (.int i) (.int i)
  | str (x : Str) : Rp K M (.str x) (.str x)
  | lst {a : Addr} {xs : List V} {ds : List PyData} : M a = some (.lst xs) → RpL K M xs ds → Rp K M (.ref a) (.list ds)
  | tup {a : Addr} {xs : List V} {ds : List PyData} : SqT K M a xs → RpL K M xs ds → Rp K M (.ref a) (.tuple ds)
inductive RpL (K : PySem.W.Frag) (M : Hp) : List V → List PyData → Prop
  | nil : RpL K M [] []
  | cons {v : V} {vs : List V} {d : PyData} {ds : List PyData} : Rp K M v d → RpL K M vs ds → RpL K M (v :: vs) (d :: ds)
end
section
variable {K : PySem.W.Frag} {M M' H : Hp}
mutual
theorem Rp.mono (h : Sb M M') : ∀ (d : PyData) {v : V}, Rp K M v d → Rp K M' v d
  | .none, _, r => by cases r; exact .non
  | .bool b, _, r => by cases r; exact .bl b
  | .int i, _, r => by cases r; exact .int i
  | .str x, _, r => by cases r; exact .str x
  | .list ds, _, r => by
    cases r with
    | lst e a => exact .lst (h.lst e) (RpL.mono h ds a)
  | .tuple ds, _, r => by
    cases r with
    | tup e a => exact .tup (h.seqT e) (RpL.mono h ds a)
  | .dict _, _, r => by cases r
theorem RpL.mono (h : Sb M M') : ∀ (ds : List PyData) {vs : List V}, RpL K M vs ds → RpL K M' vs ds
  | [], _, r => by cases r; exact .nil
  | d :: ds, _, r => by
    cases r with
    | cons a b => exact .cons (Rp.mono h d a) (RpL.mono h ds b)
end
mutual
theorem Rp.dp : ∀ (d : PyData) {v : V}, Rp K M v d → Dp K M v d
  | .none, _, r => by cases r; exact .non
  | .bool b, _, r => by cases r; exact .bl b
  | .int i, _, r => by cases r; exact .int i
  | .str x, _, r => by cases r; exact .str x
  | .list ds, _, r => by
    cases r with
    | lst e a => exact .lst (.inl (.inl e)) (RpL.dp ds a)
  | .tuple ds, _, r => by
    cases r with
    | tup e a => exact .tup e (RpL.dp ds a)
  | .dict _, _, r => by cases r
theorem RpL.dp : ∀ (ds : List PyData) {vs : List V}, RpL K M vs ds → DpAll K M vs ds
  | [], _, r => by cases r; exact .nil
  | d :: ds, _, r => by
    cases r with
    | cons a b => exact .cons (Rp.dp d a) (RpL.dp ds b)
end
theorem Rp.up {v : V} {d : PyData} (r : Rp K M v d) (h : Sb M M') : Rp K M' v d := Rp.mono h d r
theorem RpL.up {v : List V} {d : List PyData} (r : RpL K M v d) (h : Sb M M') : RpL K M' v d := RpL.mono h d r
theorem Rp.toD {F : List Addr} {v : V} {d : PyData} (r : Rp K (mask F H) v d) : Dp K H v d := Rp.dp d (r.up (mask_same F H))
theorem Rp.i {v : V} {i : Int} (r : Rp K M v (.int i)) : v = .int i := by cases r; rfl
theorem Rp.b {v : V} {b : Bool} (r : Rp K M v (.bool b)) : v = .bl b := by cases r; rfl
theorem Rp.s {v : V} {x : Str} (r : Rp K M v (.str x)) : v = .str x := by cases r; rfl
theorem Rp.n {v : V} (r : Rp K M v .none) : v = .non := by cases r; rfl
theorem Rp.l {v : V} {ds : List PyData} (r : Rp K M v (.list ds)) : ∃ a xs, v = .ref a ∧ M a = some (.lst xs) ∧ RpL K M xs ds := by
  cases r with
  | lst e a => exact ⟨_, _, rfl, e, a⟩
theorem Rp.t {v : V} {ds : List PyData} (r : Rp K M v (.tuple ds)) : ∃ a xs, v = .ref a ∧ SqT K M a xs ∧ RpL K M xs ds := by
  cases r with
  | tup e a => exact ⟨_, _, rfl, e, a⟩
theorem RpL.len : ∀ {vs : List V} {ds : List PyData}, RpL K M vs ds → vs.length = ds.length
  | _, _, .nil => rfl
  | _, _, .cons _ b => by rw [List.length_cons, List.length_cons, RpL.len b]
theorem RpL.get : ∀ {vs : List V} {ds : List PyData} {i : Nat} {d : PyData}, RpL K M vs ds → ds[i]? = some d → ∃ v, vs[i]? = some v ∧ Rp K M v d
  | _, _, _, _, .nil, h => by simp at h
  | _, _, 0, _, .cons a _, h => by simp at h; subst h; exact ⟨_, rfl, a⟩
  | _, _, i + 1, d, .cons _ b, h => by
    obtain ⟨v, h1, h2⟩ := RpL.get (i := i) (d := d) b (by simpa using h)
    exact ⟨v, by simpa using h1, h2⟩
theorem RpL.getV : ∀ {vs : List V} {ds : List PyData} {i : Nat} {v : V}, RpL K M vs ds → vs[i]? = some v → ∃ d, ds[i]? = some d ∧ Rp K M v d
  | _, _, _, _, .nil, h => by simp at h
  | _, _, 0, _, .cons a _, h => by simp at h; subst h; exact ⟨_, rfl, a⟩
  | _, _, i + 1, v, .cons _ b, h => by
    obtain ⟨d, h1, h2⟩ := RpL.getV (i := i) (v := v) b (by simpa using h)
    exact ⟨d, by simpa using h1, h2⟩
theorem RpL.app : ∀ {vs us : List V} {ds es : List PyData}, RpL K M vs ds → RpL K M us es → RpL K M (vs ++ us) (ds ++ es)
  | _, _, _, _, .nil, h => h
  | _, _, _, _, .cons a b, h => .cons a (RpL.app b h)
theorem RpL.drop : ∀ {vs : List V} {ds : List PyData} (n : Nat), RpL K M vs ds → RpL K M (vs.drop n) (ds.drop n)
  | _, _, 0, h => h
  | _, _, _ + 1, .nil => .nil
  | _, _, n + 1, .cons _ b => RpL.drop n b
theorem RpL.take : ∀ {vs : List V} {ds : List PyData} (n : Nat), RpL K M vs ds → RpL K M (vs.take n) (ds.take n)
  | _, _, 0, _ => .nil
  | _, _, _ + 1, .nil => .nil
  | _, _, n + 1, .cons a b => .cons a (RpL.take n b)
theorem RpL.set {v : V} {d : PyData} (r : Rp K M v d) : ∀ {vs : List V} {ds : List PyData} (n : Nat), RpL K M vs ds → RpL K M (vs.set n v) (ds.set n d)
  | _, _, _, .nil => .nil
  | _, _, 0, .cons _ b => .cons r b
  | _, _, n + 1, .cons a b => .cons a (RpL.set r n b)
theorem RpL.erase : ∀ {vs : List V} {ds : List PyData} (n : Nat), RpL K M vs ds → RpL K M (vs.eraseIdx n) (ds.eraseIdx n)
  | _, _, _, .nil => .nil
  | _, _, 0, .cons _ b => b
  | _, _, n + 1, .cons a b => .cons a (RpL.erase n b)
theorem RpL.rep {vs : List V} {ds : List PyData} (h : RpL K M vs ds) : ∀ k : Nat, RpL K M (List.replicate k vs).flatten (List.replicate k ds).flatten
  | 0 => .nil
  | k + 1 => by
    rw [List.replicate_succ, List.replicate_succ, List.flatten_cons, List.flatten_cons]
    exact h.app (RpL.rep h k)
theorem RpL.ints : ∀ {ns : List Int} {ds : List PyData} {vs : List V}, RpL K M vs ds → intsD ds = some ns → vs = ns.map V.int ∧ ds = ns.map PyData.int
  | ns, _, _, .nil, h => by simp [intsD] at h; subst h; exact ⟨rfl, rfl⟩
  | ns, _, _, .cons (d := d) (ds := ds) a b, h => by
    cases d with
    | int i =>
      simp only [intsD] at h
      obtain ⟨l, h1, h2⟩ := Option.bind_eq_some_iff.mp h
      cases h2
      obtain ⟨e1, e2⟩ := RpL.ints b h1
      rw [a.i, e1, e2]
      exact ⟨rfl, rfl⟩
    | _ => simp [intsD] at h
theorem RpL.bools : ∀ {ns : List Bool} {ds : List PyData} {vs : List V}, RpL K M vs ds → boolsD ds = some ns → vs = ns.map V.bl
  | ns, _, _, .nil, h => by simp [boolsD] at h; subst h; rfl
  | ns, _, _, .cons (d := d) (ds := ds) a b, h => by
    cases d with
    | bool i =>
      simp only [boolsD] at h
      obtain ⟨l, h1, h2⟩ := Option.bind_eq_some_iff.mp h
      cases h2
      rw [a.b, RpL.bools b h1]
      rfl
    | _ => simp [boolsD] at h
theorem rpL_ints (ns : List Int) : RpL K M (ns.map V.int) (ns.map PyData.int) := by
  induction ns with
  | nil => exact .nil
  | cons i r ih => exact .cons (.int i) ih
end
/-! ### slots -/
/-- O: the lists of their own, from the left -/
inductive Sl (K : PySem.W.Frag) (M H : Hp) : Rho → St → List Addr → Prop
  | nil : Sl K M H [] [] []
  | un {ρ : Rho} {σ : St} {O : List Addr} {x : Option V} : Sl K M H ρ σ O → Sl K M H (.un :: ρ) (x :: σ) O
  | val {ρ : Rho} {σ : St} {O : List Addr} {v : V} {d : PyData} : Rp K M v d → Sl K M H ρ σ O → Sl K M H (.val d :: ρ) (some v :: σ) O
  | own {ρ : Rho} {σ : St} {O : List Addr} {p : Addr} {vs : List V} {ds : List PyData} : H p = some (.lst vs) → RpL K M vs ds → Sl K M H ρ σ O → Sl K M H (.own ds :: ρ) (some (.ref p) :: σ) (p :: O)
section
variable {K : PySem.W.Frag} {M M' H H' : Hp} {ρ : Rho} {σ : St} {O : List Addr}
theorem Sl.len : ∀ {ρ : Rho} {σ : St} {O : List Addr}, Sl K M H ρ σ O → ρ.length = σ.length
  | _, _, _, .nil => rfl
  | _, _, _, .un h => by rw [List.length_cons, List.length_cons, Sl.len h]
  | _, _, _, .val _ h => by rw [List.length_cons, List.length_cons, Sl.len h]
  | _, _, _, .own _ _ h => by rw [List.length_cons, List.length_cons, Sl.len h]
/-- M may grow; H is kept where it matters -/
theorem Sl.step (hM : Sb M M') : ∀ {ρ : Rho} {σ : St} {O : List Addr}, (∀ p ∈ O, ∀ vs, H p = some (.lst vs) → H' p = some (.lst vs)) → Sl K M H ρ σ O → Sl K M' H' ρ σ O
  | _, _, _, _, .nil => .nil
  | _, _, _, hH, .un h => .un (Sl.step hM hH h)
  | _, _, _, hH, .val r h => .val (r.up hM) (Sl.step hM hH h)
  | _, _, _, hH, .own e r h => .own (hH _ List.mem_cons_self _ e) (r.up hM) (Sl.step hM (fun p hp => hH p (List.mem_cons_of_mem _ hp)) h)
theorem Sl.there : ∀ {ρ : Rho} {σ : St} {O : List Addr}, Sl K M H ρ σ O → ∀ p ∈ O, ∃ vs, H p = some (.lst vs)
  | _, _, _, .nil, p, hp => nomatch hp
  | _, _, _, .un h, p, hp => Sl.there h p hp
  | _, _, _, .val _ h, p, hp => Sl.there h p hp
  | _, _, _, .own e _ h, p, hp => by
    rcases List.mem_cons.mp hp with rfl | hp
    · exact ⟨_, e⟩
    · exact Sl.there h p hp
theorem Sl.getV : ∀ {ρ : Rho} {σ : St} {O : List Addr} {i : Nat} {d : PyData}, Sl K M H ρ σ O → getV ρ i = some d → ∃ v, σ[i]? = some (some v) ∧ Rp K M v d
  | _, _, _, _, _, .nil, h => by simp [PV.getV] at h
  | _, _, _, 0, _, .un _, h => by simp [PV.getV] at h
  | _, _, _, 0, _, .val r _, h => by simp [PV.getV] at h; subst h; exact ⟨_, rfl, r⟩
  | _, _, _, 0, _, .own _ _ _, h => by simp [PV.getV] at h
  | _, _, _, i + 1, d, .un h, e => by
    obtain ⟨v, h1, h2⟩ := Sl.getV (i := i) (d := d) h (by simpa [PV.getV] using e)
    exact ⟨v, by simpa using h1, h2⟩
  | _, _, _, i + 1, d, .val _ h, e => by
    obtain ⟨v, h1, h2⟩ := Sl.getV (i := i) (d := d) h (by simpa [PV.getV] using e)
    exact ⟨v, by simpa using h1, h2⟩
  | _, _, _, i + 1, d, .own _ _ h, e => by
    obtain ⟨v, h1, h2⟩ := Sl.getV (i := i) (d := d) h (by simpa [PV.getV] using e)
    exact ⟨v, by simpa using h1, h2⟩
theorem Sl.getO : ∀ {ρ : Rho} {σ : St} {O : List Addr} {i : Nat} {ds : List PyData}, Sl K M H ρ σ O → getO ρ i = some ds → ∃ p vs, σ[i]? = some (some (.ref p)) ∧ p ∈ O ∧ H p = some (.lst vs) ∧ RpL K M vs ds
  | _, _, _, _, _, .nil, h => by simp [PV.getO] at h
  | _, _, _, 0, _, .un _, h => by simp [PV.getO] at h
  | _, _, _, 0, _, .val _ _, h => by simp [PV.getO] at h
  | _, _, _, 0, _, .own e r _, h => by simp [PV.getO] at h; subst h; exact ⟨_, _, rfl, List.mem_cons_self, e, r⟩
  | _, _, _, i + 1, d, .un h, e => by
    obtain ⟨p, vs, h1, h2, h3⟩ := Sl.getO (i := i) (ds := d) h (by simpa [PV.getO] using e)
    exact ⟨p, vs, by simpa using h1, h2, h3⟩
  | _, _, _, i + 1, d, .val _ h, e => by
    obtain ⟨p, vs, h1, h2, h3⟩ := Sl.getO (i := i) (ds := d) h (by simpa [PV.getO] using e)
    exact ⟨p, vs, by simpa using h1, h2, h3⟩
  | _, _, _, i + 1, d, .own _ _ h, e => by
    obtain ⟨p, vs, h1, h2, h3⟩ := Sl.getO (i := i) (ds := d) h (by simpa [PV.getO] using e)
    exact ⟨p, vs, by simpa using h1, List.mem_cons_of_mem _ h2, h3⟩
theorem setV_ok {i : Nat} {d : PyData} {ρ' : Rho} (h : setV ρ i d = some ρ') : i < ρ.length ∧ isOwn ρ i = false ∧ ρ' = ρ.set i (.val d) := by
  unfold setV at h
  split at h
  · rename_i c
    obtain ⟨h1, h2⟩ := Bool.and_eq_true_iff.mp c
    refine ⟨Nat.blt_eq.mp h1, by simpa using h2, (Option.some.inj h).symm⟩
  · cases h
theorem Sl.setV {v : V} {d : PyData} (r : Rp K M v d) : ∀ {ρ : Rho} {σ : St} {O : List Addr} {i : Nat}, Sl K M H ρ σ O → isOwn ρ i = false → Sl K M H (ρ.set i (.val d)) (σ.set i (some v)) O
  | _, _, _, _, .nil, _ => .nil
  | _, _, _, 0, .un h, _ => .val r h
  | _, _, _, 0, .val _ h, _ => .val r h
  | _, _, _, 0, .own _ _ _, e => by simp [isOwn] at e
  | _, _, _, i + 1, .un h, e => .un (Sl.setV r (i := i) h (by simpa [isOwn] using e))
  | _, _, _, i + 1, .val a h, e => .val a (Sl.setV r (i := i) h (by simpa [isOwn] using e))
  | _, _, _, i + 1, .own a b h, e => .own a b (Sl.setV r (i := i) h (by simpa [isOwn] using e))
/-- a slot forgotten -/
theorem Sl.un1 : ∀ {ρ : Rho} {σ : St} {O : List Addr} (i : Nat), Sl K M H ρ σ O → ∃ O', Sl K M H (ρ.set i .un) (σ.set i none) O' ∧ O'.Sublist O
  | _, _, _, _, .nil => ⟨_, .nil, .slnil⟩
  | _, _, _, 0, .un h => ⟨_, .un h, .refl _⟩
  | _, _, _, 0, .val _ h => ⟨_, .un h, .refl _⟩
  | _, _, _, 0, .own _ _ h => ⟨_, .un h, List.sublist_cons_self _ _⟩
  | _, _, _, i + 1, .un h => by
    obtain ⟨O', h1, h2⟩ := Sl.un1 i h
    exact ⟨O', .un h1, h2⟩
  | _, _, _, i + 1, .val a h => by
    obtain ⟨O', h1, h2⟩ := Sl.un1 i h
    exact ⟨O', .val a h1, h2⟩
  | _, _, _, i + 1, .own a b h => by
    obtain ⟨O', h1, h2⟩ := Sl.un1 i h
    exact ⟨_ :: O', .own a b h1, h2.cons_cons _⟩
theorem Sl.wipe (h : Sl K M H ρ σ O) : ∀ vs : List Nat, ∃ O', Sl K M H (wipeC ρ vs) (L2.wipe σ vs) O' ∧ O'.Sublist O
  | [] => ⟨O, h, .refl _⟩
  | v :: vs => by
    obtain ⟨O1, h1, h2⟩ := Sl.wipe h vs
    obtain ⟨O2, h3, h4⟩ := Sl.un1 v h1
    exact ⟨O2, h3, h4.trans h2⟩
/-- an own list's content is another -/
theorem Sl.put {vs : List V} {ds : List PyData} (r : RpL K M vs ds) : ∀ {ρ : Rho} {σ : St} {O : List Addr} {i : Nat} {p : Addr} {es : List PyData}, Sl K M H ρ σ O → O.Nodup → PV.getO ρ i = some es → σ[i]? = some (some (.ref p)) →
    Sl K M (upd H p (.lst vs)) (ρ.set i (.own ds)) σ O
  | _, _, _, _, _, _, .nil, _, h, _ => by simp [PV.getO] at h
  | _, _, _, 0, _, _, .un _, _, h, _ => by simp [PV.getO] at h
  | _, _, _, 0, _, _, .val _ _, _, h, _ => by simp [PV.getO] at h
  | _, _, _, 0, p, _, .own (p := q) e _ h, nd, _, hs => by
    simp at hs
    subst hs
    refine .own upd_same r (Sl.step (Sb.refl _) (fun b hb o eb => ?_) h)
    rw [upd_ne]
    · exact eb
    · rintro rfl
      exact (List.nodup_cons.mp nd).1 hb
  | _, _, _, i + 1, p, es, .un h, nd, e, hs => .un (Sl.put r (i := i) h nd (by simpa [PV.getO] using e) (by simpa using hs))
  | _, _, _, i + 1, p, es, .val a h, nd, e, hs => .val a (Sl.put r (i := i) h nd (by simpa [PV.getO] using e) (by simpa using hs))
  | _, _, _, i + 1, p, es, .own (p := q) (O := O) a b h, nd, e, hs => by
    rename_i ρ1 σ1 _ _
    have e' : PV.getO ρ1 i = some es := by simpa [PV.getO] using e
    have hs' : σ1[i]? = some (some (.ref p)) := by simpa using hs
    obtain ⟨p', _, h1, h2, _⟩ := Sl.getO h e'
    have hp : p ∈ O := by
      rw [hs'] at h1
      cases h1
      exact h2
    refine .own ?_ b (Sl.put r (i := i) h (List.nodup_cons.mp nd).2 e' hs')
    rw [upd_ne]
    · exact a
    · rintro rfl
      exact (List.nodup_cons.mp nd).1 hp
/-- a slot gets a new list of its own -/
theorem Sl.new {vs : List V} {ds : List PyData} {p : Addr} (e : H p = some (.lst vs)) (r : RpL K M vs ds) : ∀ {ρ : Rho} {σ : St} {O : List Addr} {i : Nat}, i < ρ.length → Sl K M H ρ σ O →
    ∃ O', Sl K M H (ρ.set i (.own ds)) (σ.set i (some (.ref p))) O' ∧ (∀ q ∈ O', q = p ∨ q ∈ O) ∧ (O.Nodup → p ∉ O → O'.Nodup)
  | _, _, _, _, hl, .nil => by simp at hl
  | _, _, O, 0, _, .un h => ⟨p :: O, .own e r h, fun q hq => List.mem_cons.mp hq, fun nd hp => List.nodup_cons.mpr ⟨hp, nd⟩⟩
  | _, _, O, 0, _, .val _ h => ⟨p :: O, .own e r h, fun q hq => List.mem_cons.mp hq, fun nd hp => List.nodup_cons.mpr ⟨hp, nd⟩⟩
  | _, _, _, 0, _, .own (O := O) _ _ h => ⟨p :: O, .own e r h, fun q hq => (List.mem_cons.mp hq).imp id (List.mem_cons_of_mem _), fun nd hp => List.nodup_cons.mpr ⟨fun z => hp (List.mem_cons_of_mem _ z), (List.nodup_cons.mp nd).2⟩⟩
  | _, _, _, i + 1, hl, .un h => by
    obtain ⟨O', h1, h2, h3⟩ := Sl.new e r (i := i) (by simpa using hl) h
    exact ⟨O', .un h1, h2, h3⟩
  | _, _, _, i + 1, hl, .val a h => by
    obtain ⟨O', h1, h2, h3⟩ := Sl.new e r (i := i) (by simpa using hl) h
    exact ⟨O', .val a h1, h2, h3⟩
  | _, _, _, i + 1, hl, .own (p := q) (O := O) a b h => by
    obtain ⟨O', h1, h2, h3⟩ := Sl.new e r (i := i) (by simpa using hl) h
    refine ⟨q :: O', .own a b h1, fun z hz => ?_, fun nd hp => ?_⟩
    · rcases List.mem_cons.mp hz with rfl | hz
      · exact .inr List.mem_cons_self
      · exact (h2 z hz).imp id (List.mem_cons_of_mem _)
    · have nd' := List.nodup_cons.mp nd
      refine List.nodup_cons.mpr ⟨fun z => ?_, h3 nd'.2 fun z => hp (List.mem_cons_of_mem _ z)⟩
      rcases h2 _ z with rfl | z
      · exact hp List.mem_cons_self
      · exact nd'.1 z
/-- an own list is a value from now on -/
theorem Sl.frz {ds : List PyData} : ∀ {ρ : Rho} {σ : St} {O : List Addr} {i : Nat}, Sl K M H ρ σ O → O.Nodup → PV.getO ρ i = some ds →
    ∃ p O', O'.Sublist O ∧ p ∉ O' ∧ (∀ M' : Hp, Sb M M' → (∃ vs, H p = some (.lst vs) ∧ M' p = some (.lst vs)) → Sl K M' H (ρ.set i (.val (.list ds))) σ O') ∧ p ∈ O ∧ ∀ q ∈ O, q = p ∨ q ∈ O'
  | _, _, _, _, .nil, _, h => by simp [PV.getO] at h
  | _, _, _, 0, .un _, _, h => by simp [PV.getO] at h
  | _, _, _, 0, .val _ _, _, h => by simp [PV.getO] at h
  | _, _, _, 0, .own (p := p) (O := O) e r h, nd, he => by
    simp [PV.getO] at he
    subst he
    refine ⟨p, O, List.sublist_cons_self _ _, (List.nodup_cons.mp nd).1, fun M' hM ⟨vs, h1, h2⟩ => ?_, List.mem_cons_self, fun q hq => List.mem_cons.mp hq⟩
    rw [e] at h1
    cases h1
    exact .val (.lst h2 (r.up hM)) (Sl.step hM (fun _ _ _ e => e) h)
  | _, _, _, i + 1, .un h, nd, e => by
    obtain ⟨p, O', h1, h2, h3, h4, h5⟩ := Sl.frz (i := i) h nd (by simpa [PV.getO] using e)
    exact ⟨p, O', h1, h2, fun M' hM z => .un (h3 M' hM z), h4, h5⟩
  | _, _, _, i + 1, .val a h, nd, e => by
    obtain ⟨p, O', h1, h2, h3, h4, h5⟩ := Sl.frz (i := i) h nd (by simpa [PV.getO] using e)
    exact ⟨p, O', h1, h2, fun M' hM z => .val (a.up hM) (h3 M' hM z), h4, h5⟩
  | _, _, _, i + 1, .own (p := q) (O := O) a b h, nd, e => by
    have nd' := List.nodup_cons.mp nd
    obtain ⟨p, O', h1, h2, h3, h4, h5⟩ := Sl.frz (i := i) h nd'.2 (by simpa [PV.getO] using e)
    refine ⟨p, q :: O', h1.cons_cons _, fun z => ?_, fun M' hM z => .own a (b.up hM) (h3 M' hM z), List.mem_cons_of_mem _ h4, fun z hz => ?_⟩
    · rcases List.mem_cons.mp z with rfl | z
      · exact nd'.1 h4
      · exact h2 z
    · rcases List.mem_cons.mp hz with rfl | hz
      · exact .inr List.mem_cons_self
      · exact (h5 z hz).imp id (List.mem_cons_of_mem _)
end
end PV
end
section -- Enu
/-! enumerate(t), t a tuple: as the layer's rule for a list. -/
namespace PV
open PySem PySem.Spec L2
open PyProof.Rows hiding St
open PySem.AutoSeq1 (wpAny_loadPart')
theorem meets_enumerate_newT (l : Addr) (items : Array Value) (n : Nat) (dct : Option Addr) (sl : Array (Option Value)) :
    Meets (Builtin.«enumerate.__new__» ⟨[.type "enumerate", .ref l], []⟩) (fun _ R s => s.heap.get? l = some { cls := .type "tuple", dict := dct, data := .seq items n, slots := sl } ∧
      R (.ok (.ret (.ref (s.heap.push { cls := .type "tuple_iterator", data := .fields #[.ref l, .int 0 0] }).objs.size)))
        { s with heap := (s.heap.push { cls := .type "tuple_iterator", data := .fields #[.ref l, .int 0 0] }).push { cls := .type "enumerate", data := .fields #[.none, .bool false, .ref s.heap.objs.size, rawInt 0, .none, .none] } }) :=
  .of_wp fun prog w A R s h => by
    obtain ⟨hp, g, d, tk, os⟩ := s; obtain ⟨hl, h⟩ := h
    have hsub := sub_enumerate
    have hL : Heap.IsTuple (Shared.heap ⟨hp, g, d, tk, os⟩) l items := ⟨_, hl, rfl, n, rfl⟩
    wp_walk using wpAny_loadPart' hl
    refine wpAny_stack_any fun st => wpAny_pure ?_
    split
    · rename_i c _ _ _ _ _
      cases (c == Value.type "enumerate")
      · wp_walk using wpAny_loadPart' hl, wpAny_pyIter_tuple hL
        exact ⟨_, rfl, h⟩
      · wp_walk using wpAny_loadPart' hl, wpAny_pyIter_tuple hL
        exact ⟨_, rfl, h⟩
    · wp_walk using wpAny_loadPart' hl, wpAny_pyIter_tuple hL
      exact ⟨_, rfl, h⟩
theorem call_enumerate_tuple {prog : Program} {w : World} {A : Around} {E : Value → Shared → Prop} {s : Shared} {l : Addr} {items : Array Value} {Q : Value → Shared → Prop} (hL : s.heap.IsTuple l items)
    (h : ∀ h', IsEnum h' (s.heap.objs.size + 1) s.heap.objs.size 0 .none → h'.IsTupleIter s.heap.objs.size l 0 → h'.objs.size = s.heap.objs.size + 2 →
      (∀ b o, s.heap.get? b = some o → h'.get? b = some o) → Q (.ref (s.heap.objs.size + 1)) { s with heap := h' }) :
    wpAny (model prog w) A (call (.type "enumerate") [.ref l]) Q E s := by
  obtain ⟨⟨c, dct, dt, sl⟩, hl, hc, n, hd⟩ := hL
  replace hc : c = .type "tuple" := hc
  replace hd : dt = .seq items n := hd
  subst hc hd
  refine callType_new F.called_enumerate (by decide) (F.typeCall_enumerate_1 _) (F.newCall_enumerate_1 _) (fun obj => F.args_object_init_2 obj _) F.entry_enumerate_new
    (meets_enumerate_newT l items n dct sl) ⟨hl, ?_⟩
  have hz : (s.heap.push { cls := .type "tuple_iterator", data := .fields #[.ref l, .int 0 0] }).objs.size = s.heap.objs.size + 1 := Heap.size_push ..
  show _ ∧ _
  rw [hz]
  have he : IsEnum ((s.heap.push { cls := .type "tuple_iterator", data := .fields #[.ref l, .int 0 0] }).push
      { cls := .type "enumerate", data := .fields #[.none, .bool false, .ref s.heap.objs.size, rawInt 0, .none, .none] }) (s.heap.objs.size + 1) s.heap.objs.size 0 .none := by
    have := Heap.get?_push_size (s.heap.push { cls := .type "tuple_iterator", data := .fields #[.ref l, .int 0 0] })
      (o := { cls := .type "enumerate", data := .fields #[.none, .bool false, .ref s.heap.objs.size, rawInt 0, .none, .none] }) rfl
    rw [hz] at this; exact this
  refine ⟨⟨_, he, rfl⟩, h _ he ⟨_, Heap.get?_push_of_some _ (Heap.get?_push_size _ rfl), rfl, rfl⟩ (by rw [Heap.size_push, hz]) fun b o x => Heap.get?_push_of_some _ (Heap.get?_push_of_some _ x)⟩
def IteT (K : PySem.W.Frag) (a : Addr) : It :=
  ⟨fun i H => ∃ (xs : List V) (x : V), SqT K H a xs ∧ xs[i]? = some x, fun i H v H' => ∃ T x, v = .ref T ∧ H T = none ∧ H' = upd H T (.tup [.int (i : Nat), x]) ∧ ∀ xs, SqT K H a xs → xs[i]? = some x, fun i H => ∃ xs : List V, SqT K H a xs ∧ xs.length ≤ i⟩
theorem turn_enumT {P : Program} {w : World} {K : PySem.W.Frag} {elts : List Expr} {kk : Nat} {tpos : Pos} (a e it : Addr) (hai : a ≠ it) (hea : e ≠ a) :
    Turn P w K (.Tuple elts kk tpos) (IteT K a) [e, it] e (fun i h => (∃ old, IsEnum h e it ((i : Nat) : Int) old) ∧ h.IsTupleIter it a i ∧ e ≠ it) where
  mem := by simp
  obj := fun i h st b hb => by
    obtain ⟨⟨old, he⟩, ⟨o, ho, hc, hd⟩, _⟩ := st
    have e' : b = e ∨ b = it := by simpa using hb
    rcases e' with z | z
    · rw [z]; exact ⟨_, he, fun v q => nomatch q⟩
    · rw [z]; exact ⟨o, ho, fun v q => by rw [hd] at q; cases q⟩
  keep := fun i h h' st k => let ⟨⟨old, he⟩, hi, hne⟩ := st; ⟨⟨old, k e (by simp) _ he⟩, hi.at fun o q => k it (by simp) o q, hne⟩
  item := by
    intro X hP hw hK hc i pins s σ H E I hf st hg
    subst hP hw hK
    obtain ⟨⟨old, he⟩, hit, hne⟩ := st
    obtain ⟨xs, x, hq, hx⟩ := hg
    obtain ⟨its, rv, p, hz⟩ := I.tuple hq
    obtain ⟨u, hu, ru⟩ := rv.get hx
    have hel : e < s.heap.objs.size := Heap.lt_size he
    have hil : it < s.heap.objs.size := by obtain ⟨_, q, _⟩ := hit; exact Heap.lt_size q
    have hlt : i < its.toArray.size := by
      obtain ⟨h1, _⟩ := List.getElem?_eq_some_iff.mp hu
      simpa using h1
    have hef : e ∉ [it, a] := by
      simp only [List.mem_cons, List.not_mem_nil, or_false, not_or]
      exact ⟨hne, hea⟩
    refine wpAny_pyNext_enum_itemD (Draws.tuple (prog := X.prog) (w := X.w) (A := X.A.in1) (by rw [show X.A.in1.handled = X.A.handled from rfl]; exact I.ok.hd hc) it a hai its.toArray) he ⟨hit, p⟩ hlt hne hef fun x' h' tk hP ho hit' hT hsz hk => ?_
    have ex : x' = u := by
      have h1 : its[i]? = some x' := by simpa using hP
      rw [hu] at h1
      exact (Option.some.inj h1).symm
    subst ex
    refine ⟨_, rfl, wpAny_letOwnedTupleGo_enum (s := { s with heap := h', toks := tk + 1 }) ho fun h'' he' sb => ?_⟩
    have hT2 : h''.get? s.heap.objs.size = some { cls := .type "tuple", data := .seq #[.int i tk, x'] } := (sb.2 _ (Nat.ne_of_gt hel)).trans hT
    have new : ObjOk X.prog X.w (upd H s.heap.objs.size (.tup [.int (i : Nat), x])) h'' s.heap.objs.size (.tup [.int (i : Nat), x]) :=
      ⟨by show 2 ≤ sizeLine; decide, [.int i tk, x'], .cons ⟨_, rfl⟩ (.cons ru .nil), ⟨_, hT2, rfl, _, rfl⟩⟩
    have I1 : Inv X pins σ (upd H s.heap.objs.size (.tup [.int (i : Nat), x])) { s with heap := h'', toks := tk + 1 } :=
      I.turnedNew (ch := [e, it]) (fun b ob hb q => (sb.2 b (fun z => hb (by simp [z]))).trans (hk b ob (fun z => hb (by simp [z])) (fun z => hb (by simp [z])) q)) hf (Nat.le_refl _) new
    refine ⟨.ref s.heap.objs.size, _, I1, rfl, ⟨_, x, rfl, I.hok.fresh (Nat.le_refl _), rfl, fun ys hy => by
      obtain ⟨its2, rv2, p2, _⟩ := I.tuple hy
      have e2 : its2.toArray = its.toArray := by
        obtain ⟨o1, q1, _, n1, d1⟩ := p
        obtain ⟨o2, q2, _, n2, d2⟩ := p2
        rw [q1] at q2
        cases q2
        rw [d1] at d2
        cases d2
        rfl
      have e3 : its2 = its := by simpa using congrArg Array.toList e2
      subst e3
      rw [rv2.inj rv]
      exact hx⟩, ⟨⟨x', ?_⟩, hit'.1.at fun o q => (sb.2 it (Ne.symm hne)).trans q, hne⟩, fun b hb => ?_⟩
    · have e1 : ((i + 1 : Nat) : Int) = (i : Int) + 1 := by omega
      rw [e1]; exact he'
    · have hb' : b < s.heap.objs.size := by
        have e' : b = e ∨ b = it := by simpa using hb
        rcases e' with z | z
        · rw [z]; exact hel
        · rw [z]; exact hil
      rw [upd_ne (Nat.ne_of_lt hb')]
      exact (hf b hb).1
  done := by
    intro X hP hw hK hc i pins s σ H E I hf st hg
    subst hP hw hK
    obtain ⟨⟨old, he⟩, hit, hne⟩ := st
    obtain ⟨xs, hq, hx⟩ := hg
    obtain ⟨its, rv, p, hz⟩ := I.tuple hq
    obtain ⟨f0, f1, f2, f3, f4, f5⟩ := hf it (by simp)
    have hl := rv.length
    have hT : s.TypeIs (.ref e) "enumerate" := ⟨_, he, rfl⟩
    unfold pyNext
    refine wpAny_bind (wpAny_attempt (wpAny_callSpecial?_slot (name := Str.ofString "__next__") hT F.slot_enumerate_next
      (wpAny_call_entry F.slot_enumerate_next hT F.entry_enumerate_next ?_ (F.args_enumerate_next_1 _))))
    show wpAny _ _ (field (.ref e) 2 >>= _) _ _ _
    refine wpAny_bind (wpAny_field he rfl (x := .ref it) rfl ?_)
    refine wpAny_bind (wpAny_nextOf_tuple_end (by rw [show X.A.in1.handled = X.A.handled from rfl]; exact I.ok.hd hc) hit p (by simp; omega) fun h' x he' hx' => ?_)
    obtain ⟨o, ho, hc'⟩ := hx'
    refine wpAny_bind (wpAny_isInstance (T := "StopIteration") (b := true) ⟨o, ho, hc'⟩ isSubtype_stop ?_)
    exact wpAny_pure ⟨rfl, I.turned (t' := s.toks) (fun b o hb q => he' b o hb q) f0 f1 f3 f4 f5⟩
  self := fun A i s Q E st h => let ⟨⟨_, he⟩, _⟩ := st; wpAny_pyIter_enum he h
def iEnumT (K : PySem.W.Frag) (ta : TA) : TI := fun σ H R => ta σ H fun vs H1 => ∃ a xs, vs = [.ref a] ∧ SqT K H1 a xs ∧ R (IteT K a) H1
theorem pi_enumT {X : Cx} {e : Expr} {ta : TA} {p pos tpos : Pos} {elts : List Expr} {kk : Nat} (hg : Gl X "enumerate") (hm : X.mg "enumerate" = none) (ha : PA X [e] ta) (hs : starEach [e] X.env = [(false, eval e X.env)]) :
    PI X (.Tuple elts kk tpos) (.Call (.Name "enumerate" p) [e] [] pos) (iEnumT X.K ta) := by
  refine ⟨fun pins s σ H R I h => ?_⟩
  refine Call_ (ld_blt I hg hm boot_enumerate (PyProof.Rows.callWith_type1 (thn (ha.run pos pins s σ H _ I h) fun us s1 ⟨vs, H1, I1, r1, q1⟩ => ?_) hs rfl))
  obtain ⟨a, xs, ex, hq, q⟩ := q1
  subst ex
  cases r1 with
  | cons r rr =>
    cases rr
    cases r
    obtain ⟨its, rv, p', hz⟩ := I1.tuple hq
    have hal : a < s1.heap.objs.size := by obtain ⟨_, q, _⟩ := p'; exact Heap.lt_size q
    refine call_enumerate_tuple p' fun h' he hit hsz hk => wpAny_pyIter_enum he ?_
    have I2 : Inv X pins σ H1 { s1 with heap := h' } := I1.kept (t' := s1.toks) hk
    refine ⟨s1.heap.objs.size + 1, [s1.heap.objs.size + 1, s1.heap.objs.size], _, _, H1, rfl, I2, turn_enumT a (s1.heap.objs.size + 1) s1.heap.objs.size (Nat.ne_of_lt hal) (Nat.ne_of_gt (Nat.lt_succ_of_lt hal)), ⟨⟨.none, he⟩, hit, Nat.succ_ne_self _⟩, fun b hb => ?_, q⟩
    have e' : b = s1.heap.objs.size + 1 ∨ b = s1.heap.objs.size := by simpa using hb
    have hle : s1.heap.objs.size ≤ b := by
      rcases e' with z | z
      · rw [z]; exact Nat.le_add_right _ _
      · rw [z]; exact Nat.le_refl _
    exact I1.fpOk hle (I1.hok.fresh hle)
end PV
end
section -- Snd1
/-! Expressions: what the evaluator says is what the machine does. -/
namespace PV
open PySem PySem.Spec L2
open PyProof.Rows hiding St
/-! ### where an expression stands -/
structure ES (K : PySem.W.Frag) (F : List Addr) (ρ : Rho) (σ : St) (H : Hp) : Prop where
  dom : ∀ a ∈ F, Hs H a
  sl : ∃ O, Sl K (mask F H) H ρ σ O ∧ ∀ p ∈ O, p ∈ F
  tab : TabP K H
section
variable {K : PySem.W.Frag} {F : List Addr} {ρ : Rho} {σ : St} {H H' : Hp}
theorem ne_some {H : Hp} {a : Addr} (h : H a ≠ none) : ∃ o, H a = some o := by
  cases e : H a with
  | none => exact absurd e h
  | some o => exact ⟨o, rfl⟩
theorem ES.ext (e : ES K F ρ σ H) (s : Sm K H H') : ES K F ρ σ H' := by
  obtain ⟨h1, ⟨O, h2, h3⟩, h4⟩ := e
  exact ⟨fun a ha => s.b.dom a (h1 a ha), ⟨O, Sl.step (mm s) (fun p _ vs e => s.b.lst e) h2, h3⟩, s.t h4⟩
/-- one more list is hidden, a new one -/
theorem ES.hide (e : ES K F ρ σ H) {D : Addr} (s : Sm K H H') (hn : H D = none) (hD : Hs H' D) : ES K (D :: F) ρ σ H' := by
  obtain ⟨h1, ⟨O, h2, h3⟩, h4⟩ := e
  refine ⟨fun a ha => ?_, ⟨O, Sl.step (mask_more s.b fun a ha => ?_) (fun p _ vs e => s.b.lst e) h2, fun p hp => List.mem_cons_of_mem _ (h3 p hp)⟩, s.t h4⟩
  · rcases List.mem_cons.mp ha with rfl | ha
    · exact hD
    · exact s.b.dom a (h1 a ha)
  · rcases List.mem_cons.mp ha with rfl | ha
    · exact .inr hn
    · exact .inl ha
theorem ES.wipe (e : ES K F ρ σ H) (vs : List Nat) : ES K F (wipeC ρ vs) (L2.wipe σ vs) H := by
  obtain ⟨h1, ⟨O, h2, h3⟩, h6⟩ := e
  obtain ⟨O', h4, h5⟩ := h2.wipe vs
  exact ⟨h1, ⟨O', h4, fun p hp => h3 p (h5.subset hp)⟩, h6⟩
theorem ES.set (e : ES K F ρ σ H) {v : V} {d : D} {i : Nat} {ρ' : Rho} (r : Rp K (mask F H) v d) (h : setV ρ i d = some ρ') : ES K F ρ' (σ.set i (some v)) H := by
  obtain ⟨h1, ⟨O, h2, h3⟩, h6⟩ := e
  obtain ⟨_, h4, rfl⟩ := setV_ok h
  exact ⟨h1, ⟨O, Sl.setV r h2 h4, h3⟩, h6⟩
end
/-! ### readings -/
/-- a value, maybe a list that a slot owns -/
def Rb (K : PySem.W.Frag) (F : List Addr) (H : Hp) (v : V) (d : D) : Prop := Rp K (mask F H) v d ∨ ∃ p vs ds, v = .ref p ∧ d = .list ds ∧ H p = some (.lst vs) ∧ RpL K (mask F H) vs ds
def tD (K : PySem.W.Frag) (f : Rho → Option D) : TE := fun σ H Q => ∃ F ρ d, ES K F ρ σ H ∧ f ρ = some d ∧ ∀ v H', Sm K H H' → Rp K (mask F H') v d → Q v H'
def tDB (K : PySem.W.Frag) (f : Rho → Option D) : TE := fun σ H Q => ∃ F ρ d, ES K F ρ σ H ∧ f ρ = some d ∧ ∀ v H', Sm K H H' → Rb K F H' v d → Q v H'
def tDL (K : PySem.W.Frag) (f : Rho → Option (List D)) : TA := fun σ H Q => ∃ F ρ ds, ES K F ρ σ H ∧ f ρ = some ds ∧ ∀ vs H', Sm K H H' → RpL K (mask F H') vs ds → Q vs H'
def tDT (K : PySem.W.Frag) (f : Rho → Option D) : TT := fun σ H Q => ∃ F ρ b, ES K F ρ σ H ∧ f ρ = some (.bool b) ∧ ∀ H', Sm K H H' → Q b H'
def tDO (K : PySem.W.Frag) (f : Rho → Option (Option Int)) : TO := fun σ H Q => ∃ F ρ o, ES K F ρ σ H ∧ f ρ = some o ∧ ∀ H', Sm K H H' → Q o H'
section
variable {K : PySem.W.Frag} {F : List Addr} {H H' : Hp} {v : V} {d : D} {ds : List D}
theorem Rb.of (r : Rp K (mask F H) v d) : Rb K F H v d := .inl r
theorem Rb.ext (r : Rb K F H v d) (s : Sm K H H') : Rb K F H' v d := by
  rcases r with r | ⟨p, vs, ds, e1, e2, e3, e4⟩
  · exact .inl (r.up (mm s))
  · exact .inr ⟨p, vs, ds, e1, e2, s.b.lst e3, e4.up (mm s)⟩
theorem Rb.l (r : Rb K F H v (.list ds)) : ∃ p vs, v = .ref p ∧ H p = some (.lst vs) ∧ RpL K (mask F H) vs ds := by
  rcases r with r | ⟨p, vs, ds', e1, e2, e3, e4⟩
  · obtain ⟨a, xs, h1, h2, h3⟩ := r.l
    exact ⟨a, xs, h1, (mask_same _ _).lst h2, h3⟩
  · cases e2
    exact ⟨p, vs, e1, e3, e4⟩
theorem Rb.t (r : Rb K F H v (.tuple ds)) : ∃ p vs, v = .ref p ∧ SqT K (mask F H) p vs ∧ RpL K (mask F H) vs ds := by
  rcases r with r | ⟨p, vs, ds', e1, e2, e3, e4⟩
  · exact r.t
  · cases e2
theorem Rb.dp (r : Rb K F H v d) : Dp K H v d := by
  rcases r with r | ⟨p, vs, ds, rfl, rfl, e3, e4⟩
  · exact r.toD
  · exact .lst (.inl (.inl e3)) (RpL.dp _ (e4.up (mask_same F H)))
theorem Rb.i {i : Int} (r : Rb K F H v (.int i)) : v = .int i := by
  rcases r with r | ⟨p, vs, ds, rfl, e2, e3, e4⟩
  · exact r.i
  · cases e2
theorem sqT_un {a : Addr} {xs : List V} (h : SqT K (mask F H) a xs) : SqT K H a xs := (mask_same F H).seqT h
/-- a new list, a new tuple -/
theorem rp_lst {p : Addr} {vs : List V} (hF : ∀ a ∈ F, Hs H a) (hp : H p = none) (r : RpL K (mask F H) vs ds) : Rp K (mask F (upd H p (.lst vs))) (.ref p) (.list ds) := by
  have hpF : p ∉ F := fun z => (hF p z).ne hp
  exact .lst (by rw [mask_out hpF, upd_same]) (r.up (mask_mono (sb_upd hp)))
theorem rp_tup {p : Addr} {vs : List V} (hF : ∀ a ∈ F, Hs H a) (hp : H p = none) (r : RpL K (mask F H) vs ds) : Rp K (mask F (upd H p (.tup vs))) (.ref p) (.tuple ds) := by
  have hpF : p ∉ F := fun z => (hF p z).ne hp
  exact .tup (.inl (.inl (by rw [mask_out hpF, upd_same]))) (r.up (mask_mono (sb_upd hp)))
theorem hid {ρ : Rho} {σ : St} (e : ES K F ρ σ H) (s : Sm K H H') : ∀ a ∈ F, Hs H' a := (e.ext s).dom
end
theorem some_bind {α β : Type} {o : Option α} {f : α → Option β} {y : β} (h : o.bind f = some y) : ∃ x, o = some x ∧ f x = some y := Option.bind_eq_some_iff.mp h
theorem intO_some {o : Option D} {y : Int} (h : o.bind intO = some y) : o = some (.int y) := by
  obtain ⟨x, h1, h2⟩ := some_bind h
  cases x <;> simp [intO] at h2
  subst h2
  exact h1
theorem boolO_some {o : Option D} {y : Bool} (h : o.bind boolO = some y) : o = some (.bool y) := by
  obtain ⟨x, h1, h2⟩ := some_bind h
  cases x <;> simp [boolO] at h2
  subst h2
  exact h1
theorem small_le {n : Nat} (h : small n = true) : n ≤ 5000 := Nat.ble_eq.mp h
theorem small_line {n : Nat} (h : small n = true) : n ≤ sizeLine := Nat.le_trans (small_le h) (by decide)
theorem okL_some {ds : List D} {d : D} (h : okL ds = some d) : d = .list ds ∧ ds.length ≤ sizeLine ∧ ds.length ≤ 5000 := by
  unfold okL at h
  split at h
  · rename_i c
    exact ⟨(Option.some.inj h).symm, small_line c, small_le c⟩
  · cases h
theorem okT_some {ds : List D} {d : D} (h : okT ds = some d) : d = .tuple ds ∧ ds.length ≤ sizeLine ∧ ds.length ≤ 5000 := by
  unfold okT at h
  split at h
  · rename_i c
    exact ⟨(Option.some.inj h).symm, small_line c, small_le c⟩
  · cases h
section
variable {X : Cx} {a b c : Expr} {es : List Expr} {fa fb fc : Rho → Option D} {fs gs : Rho → Option (List D)} {pos p : Pos} {i k : Nat} {x : Str} {o : Op}
theorem pd_borrow (h : PE X a (tD X.K fa)) : PE X a (tDB X.K fa) := ⟨fun pins s σ H Q I ⟨F, ρ, d, e, hf, q⟩ => h.run pins s σ H Q I ⟨F, ρ, d, e, hf, fun v H' s r => q v H' s (.of r)⟩⟩
theorem pd_var (hN : X.N[i]? = some x) (hv : Vis X.env.scope x) (hd : (x == ("__debug__" : Str)) = false) (hcd : (x == ("__classdict__" : Str)) = false) : PE X (.Name x pos) (tD X.K fun ρ => getV ρ i) := by
  refine ⟨fun pins s σ H Q I ⟨F, ρ, d, e, hf, q⟩ => ?_⟩
  obtain ⟨O, hs, _⟩ := e.sl
  obtain ⟨v, h1, h2⟩ := hs.getV hf
  exact (pe_var hN hv hd hcd).run pins s σ H Q I ⟨v, h1, q v H (Sm.refl H) h2⟩
theorem pd_varB (hN : X.N[i]? = some x) (hv : Vis X.env.scope x) (hd : (x == ("__debug__" : Str)) = false) (hcd : (x == ("__classdict__" : Str)) = false) : PE X (.Name x pos) (tDB X.K fun ρ => getB ρ i) := by
  refine ⟨fun pins s σ H Q I ⟨F, ρ, d, e, hf, q⟩ => ?_⟩
  obtain ⟨O, hs, _⟩ := e.sl
  have hf' : getV ρ i = some d ∨ ∃ ds, d = .list ds ∧ getO ρ i = some ds := by
    simp only [getB] at hf
    simp only [getV, getO]
    cases hr : ρ[i]? with
    | none => rw [hr] at hf; cases hf
    | some z =>
      rw [hr] at hf
      cases z with
      | un => cases hf
      | val d => cases hf; exact .inl rfl
      | own ds => cases hf; exact .inr ⟨_, rfl, rfl⟩
  rcases hf' with hf' | ⟨ds, rfl, hf'⟩
  · obtain ⟨v, h1, h2⟩ := hs.getV hf'
    exact (pe_var hN hv hd hcd).run pins s σ H Q I ⟨v, h1, q v H (Sm.refl H) (.of h2)⟩
  · obtain ⟨a, vs, h1, h2, h3, h4⟩ := hs.getO hf'
    exact (pe_var hN hv hd hcd).run pins s σ H Q I ⟨_, h1, q _ H (Sm.refl H) (.inr ⟨a, vs, ds, rfl, rfl, h3, h4⟩)⟩
theorem pd_cN {j} : PE X (.Constant .none j pos) (tD X.K fun _ => some .none) := ⟨fun pins s σ H Q I ⟨F, ρ, d, e, hf, q⟩ => by
  cases hf
  exact pe_non.run pins s σ H Q I (q _ H (Sm.refl H) .non)⟩
theorem pd_cB {j} {b : Bool} : PE X (.Constant (.bool b) j pos) (tD X.K fun _ => some (.bool b)) := ⟨fun pins s σ H Q I ⟨F, ρ, d, e, hf, q⟩ => by
  cases hf
  exact pe_bl.run pins s σ H Q I (q _ H (Sm.refl H) (.bl b))⟩
theorem pd_cI {j} {n : Int} : PE X (.Constant (.int n) j pos) (tD X.K fun _ => some (.int n)) := ⟨fun pins s σ H Q I ⟨F, ρ, d, e, hf, q⟩ => by
  cases hf
  exact pe_int.run pins s σ H Q I (q _ H (Sm.refl H) (.int n))⟩
theorem pd_cS {j} {y : Str} : PE X (.Constant (.str y) j pos) (tD X.K fun _ => some (.str y)) := ⟨fun pins s σ H Q I ⟨F, ρ, d, e, hf, q⟩ => by
  cases hf
  exact pe_str.run pins s σ H Q I (q _ H (Sm.refl H) (.str y))⟩
theorem pd_gl {t : Addr} {m n : Int} (hg : Gl X x) (hm : X.mg x = some (.ref t)) (hT : ∀ M : Hp, SqT X.K M t [.int m, .int n]) (hd : (x == ("__debug__" : Str)) = false) : PE X (.Name x pos) (tD X.K fun _ => some (.tuple [.int m, .int n])) := ⟨fun pins s σ H Q I ⟨F, ρ, d, e, hf, q⟩ => by
  cases hf
  exact (pe_glob hg hm (v := .ref t) rfl hd).run pins s σ H Q I (q _ H (Sm.refl H) (.tup (hT _) (.cons (.int m) (.cons (.int n) .nil))))⟩
/-! lists of expressions -/
theorem pdl_nil : PA X [] (tDL X.K fun _ => some []) := ⟨fun ps pins s σ H Q I ⟨F, ρ, d, e, hf, q⟩ => by
  cases hf
  exact pa_nil.run ps pins s σ H Q I (q _ H (Sm.refl H) .nil)⟩
theorem pdl_cons (ha : PE X a (tD X.K fa)) (hs : PA X es (tDL X.K fs)) (he : starEach (a :: es) X.env = (false, eval a X.env) :: starEach es X.env) :
    PA X (a :: es) (tDL X.K fun ρ => (fa ρ).bind fun x => (fs ρ).bind fun ys => some (x :: ys)) := ⟨fun ps pins s σ H Q I ⟨F, ρ, d, e, hf, q⟩ => by
  obtain ⟨x, h1, hf⟩ := some_bind hf
  obtain ⟨ys, h2, hf⟩ := some_bind hf
  cases hf
  exact (pa_cons ha hs he).run ps pins s σ H Q I ⟨F, ρ, x, e, h1, fun v H1 s1 r1 => ⟨F, ρ, ys, e.ext s1, h2, fun vs H2 s2 r2 => q _ H2 (s1.trans s2) (.cons (r1.up (mm s2)) r2)⟩⟩⟩
theorem pdl_star (ha : PE X a (tD X.K fa)) (hs : PA X es (tDL X.K fs)) :
    PA X (.Starred a p :: es) (tDL X.K fun ρ => ((fa ρ).bind itemsOf).bind fun xs => (fs ρ).bind fun ys => some (xs ++ ys)) := ⟨fun ps pins s σ H Q I ⟨F, ρ, d, e, hf, q⟩ => by
  obtain ⟨xs, h1, hf⟩ := some_bind hf
  obtain ⟨ys, h2, hf⟩ := some_bind hf
  cases hf
  obtain ⟨x, h1, h3⟩ := some_bind h1
  refine (StX.pa_star ha hs).run ps pins s σ H Q I ⟨F, ρ, x, e, h1, fun v H1 s1 r1 => ?_⟩
  have fin : ∀ vs, RpL X.K (mask F H1) vs xs → (tDL X.K fs) σ H1 fun us H2 => Q (vs ++ us) H2 := fun vs rv =>
    ⟨F, ρ, ys, e.ext s1, h2, fun us H2 s2 r2 => q _ H2 (s1.trans s2) ((rv.up (mm s2)).app r2)⟩
  cases x with
  | list ds =>
    cases h3
    obtain ⟨t, vs, rfl, h4, h5⟩ := r1.l
    exact ⟨t, vs, rfl, .inr (.inl (.inl ((mask_same _ _).lst h4))), fin vs h5⟩
  | tuple ds =>
    cases h3
    obtain ⟨t, vs, rfl, h4, h5⟩ := r1.t
    exact ⟨t, vs, rfl, .inl (sqT_un h4), fin vs h5⟩
  | _ => cases h3⟩
theorem pd_tup {x1} (hs : PA X es (tDL X.K fs)) : PE X (.Tuple es x1 pos) (tD X.K fun ρ => (fs ρ).bind okT) := ⟨fun pins s σ H Q I ⟨F, ρ, d, e, hf, q⟩ => by
  obtain ⟨ds, h1, hf⟩ := some_bind hf
  obtain ⟨rfl, hl, _⟩ := okT_some hf
  exact (pe_tup hs).run pins s σ H Q I ⟨F, ρ, ds, e, h1, fun vs H1 s1 r1 => ⟨by rw [r1.len]; exact hl, fun t ht => q _ _ (s1.trans (sm_upd ht)) (rp_tup (hid e s1) ht r1)⟩⟩⟩
theorem pd_lst (hs : PA X es (tDL X.K fs)) : PE X (.List es pos) (tD X.K fun ρ => (fs ρ).bind okL) := ⟨fun pins s σ H Q I ⟨F, ρ, d, e, hf, q⟩ => by
  obtain ⟨ds, h1, hf⟩ := some_bind hf
  obtain ⟨rfl, hl, _⟩ := okL_some hf
  exact (pe_lst hs).run pins s σ H Q I ⟨F, ρ, ds, e, h1, fun vs H1 s1 r1 => ⟨by rw [r1.len]; exact hl, fun t ht => q _ _ (s1.trans (sm_upd ht)) (rp_lst (hid e s1) ht r1)⟩⟩⟩
/-! operators -/
theorem fitI_ok {n : Int} (h : fitI n = true) : -(2 ^ 64) < n ∧ n < 2 ^ 64 := by
  obtain ⟨h1, h2⟩ := Bool.and_eq_true_iff.mp h
  exact ⟨of_decide_eq_true h1, of_decide_eq_true h2⟩
def pyOp : Op → Operator
  | .add => .Add
  | .sub => .Sub
  | .mul => .Mult
  | .fdiv => .FloorDiv
  | .mod => .Mod
theorem pd_bin (ha : PE X a (tD X.K fa)) (hb : PE X b (tD X.K fb)) : PE X (.BinOp a (pyOp o) b pos) (tD X.K fun ρ => (fa ρ).bind fun x => (fb ρ).bind fun y => binF o x y) := ⟨fun pins s σ H Q I ⟨F, ρ, d, e, hf, q⟩ => by
  obtain ⟨x, h1, hf⟩ := some_bind hf
  obtain ⟨y, h2, hf⟩ := some_bind hf
  have go : ∀ {r : R2}, OpR X (binaryOp (pyOp o)) r → (∀ v u H1 H2, Sm X.K H H1 → Sm X.K H1 H2 → Rp X.K (mask F H2) v x → Rp X.K (mask F H2) u y → r v u H2 Q) →
      wpAny (model X.prog X.w) X.A (eval (.BinOp a (pyOp o) b pos) X.env) (EP X pins σ Q) X.xe s := fun {r} hr hq =>
    (pe_op hr ha hb).run pins s σ H Q I ⟨F, ρ, x, e, h1, fun v H1 s1 r1 => ⟨F, ρ, y, e.ext s1, h2, fun u H2 s2 r2 => hq v u H1 H2 s1 s2 (r1.up (mm s2)) r2⟩⟩
  cases o with
  | add =>
    cases x with
    | int m =>
      cases y with
      | int n =>
        cases hf
        exact go op_add fun v u H1 H2 s1 s2 r1 r2 => ⟨m, n, r1.i, r2.i, q _ _ (s1.trans s2) (.int _)⟩
      | _ => cases hf
    | list m =>
      cases y with
      | list n =>
        obtain ⟨rfl, hl, _⟩ := okL_some hf
        refine go op_cat fun v u H1 H2 s1 s2 r1 r2 => ?_
        obtain ⟨t, xs, rfl, e1, l1⟩ := r1.l
        obtain ⟨t', ys, rfl, e2, l2⟩ := r2.l
        exact ⟨t, t', xs, ys, rfl, rfl, (mask_same _ _).lst e1, (mask_same _ _).lst e2, by rw [l1.len, l2.len, ← List.length_append]; exact hl,
          fun p hp => q _ _ ((s1.trans s2).trans (sm_upd hp)) (rp_lst (hid e (s1.trans s2)) hp (l1.app l2))⟩
      | _ => cases hf
    | tuple m =>
      cases y with
      | tuple n =>
        obtain ⟨rfl, hl, _⟩ := okT_some hf
        refine go op_catA fun v u H1 H2 s1 s2 r1 r2 => ?_
        obtain ⟨t, xs, rfl, e1, l1⟩ := r1.t
        obtain ⟨t', ys, rfl, e2, l2⟩ := r2.t
        refine ⟨t, t', xs, ys, rfl, rfl, sqT_un e1, sqT_un e2, by rw [l1.len, l2.len, ← List.length_append]; exact hl, fun z => ?_, fun _ z => ?_,
          fun _ _ p hp => q _ _ ((s1.trans s2).trans (sm_upd hp)) (rp_tup (hid e (s1.trans s2)) hp (l1.app l2))⟩
        · subst z
          cases l1
          exact q _ _ (s1.trans s2) (.tup e2 l2)
        · subst z
          cases l2
          rw [List.append_nil] at q
          exact q _ _ (s1.trans s2) (.tup e1 l1)
      | _ => cases hf
    | _ => cases hf
  | sub =>
    cases x with
    | int m =>
      cases y with
      | int n =>
        cases hf
        exact go op_sub fun v u H1 H2 s1 s2 r1 r2 => ⟨m, n, r1.i, r2.i, q _ _ (s1.trans s2) (.int _)⟩
      | _ => cases hf
    | _ => cases hf
  | mul =>
    cases x with
    | int m =>
      cases y with
      | int n =>
        simp only [binF] at hf
        split at hf
        · rename_i c
          cases hf
          refine go op_mul fun v u H1 H2 s1 s2 r1 r2 => ⟨m, n, r1.i, r2.i, ?_, q _ _ (s1.trans s2) (.int _)⟩
          rcases Bool.or_eq_true_iff.mp c with c | c
          · exact .inl (fitI_ok c)
          · exact .inr (fitI_ok c)
        · cases hf
      | _ => cases hf
    | list m =>
      cases y with
      | int n =>
        simp only [binF] at hf
        split at hf
        · rename_i c
          obtain ⟨c1, c2⟩ := Bool.and_eq_true_iff.mp c
          have c1 := of_decide_eq_true c1
          have c2 := of_decide_eq_true c2
          obtain ⟨rfl, hl, _⟩ := okL_some hf
          refine go op_rep fun v u H1 H2 s1 s2 r1 r2 => ?_
          obtain ⟨t, xs, rfl, e1, l1⟩ := r1.l
          refine ⟨t, n, xs, rfl, r2.i, (mask_same _ _).lst e1, by omega, by omega, ?_, fun p hp => q _ _ ((s1.trans s2).trans (sm_upd hp)) (rp_lst (hid e (s1.trans s2)) hp (l1.rep _))⟩
          rw [List.length_flatten, List.map_replicate, List.sum_replicate_nat] at hl
          rw [l1.len, Nat.mul_comm]
          exact hl
        · cases hf
      | _ => cases hf
    | _ => cases hf
  | fdiv =>
    cases x with
    | int m =>
      cases y with
      | int n =>
        simp only [binF] at hf
        split at hf
        · rename_i c
          obtain ⟨c1, c2⟩ := Bool.and_eq_true_iff.mp c
          cases hf
          exact go op_fdivN fun v u H1 H2 s1 s2 r1 r2 => ⟨m, n, r1.i, r2.i, ⟨of_decide_eq_true c1, of_decide_eq_true c2⟩, q _ _ (s1.trans s2) (.int _)⟩
        · cases hf
      | _ => cases hf
    | _ => cases hf
  | mod =>
    cases x with
    | int m =>
      cases y with
      | int n =>
        simp only [binF] at hf
        split at hf
        · rename_i c
          cases hf
          exact go op_modN fun v u H1 H2 s1 s2 r1 r2 => ⟨m, n, r1.i, r2.i, of_decide_eq_true c, q _ _ (s1.trans s2) (.int _)⟩
        · cases hf
      | _ => cases hf
    | _ => cases hf⟩
theorem pd_neg (ha : PE X a (tD X.K fa)) : PE X (.UnaryOp .USub a pos) (tD X.K fun ρ => ((fa ρ).bind intO).bind fun i => some (.int (-i))) := ⟨fun pins s σ H Q I ⟨F, ρ, d, e, hf, q⟩ => by
  obtain ⟨n, h1, hf⟩ := some_bind hf
  cases hf
  exact (pe_un un_neg ha).run pins s σ H Q I ⟨F, ρ, _, e, intO_some h1, fun v H1 s1 r1 => ⟨n, r1.i, q _ _ s1 (.int _)⟩⟩⟩
theorem pd_not (ha : PE X a (tD X.K fa)) : PE X (.UnaryOp .Not a pos) (tD X.K fun ρ => ((fa ρ).bind boolO).bind fun i => some (.bool !i)) := ⟨fun pins s σ H Q I ⟨F, ρ, d, e, hf, q⟩ => by
  obtain ⟨n, h1, hf⟩ := some_bind hf
  cases hf
  exact (pe_not ha).run pins s σ H Q I ⟨F, ρ, _, e, boolO_some h1, fun v H1 s1 r1 => ⟨n, r1.b, q _ _ s1 (.bl _)⟩⟩⟩
theorem pd_and {rest : List Expr} (ha : PE X a (tD X.K fa)) (hb : PE X (.BoolOp .And (b :: rest) pos) (tD X.K fb)) : PE X (.BoolOp .And (a :: b :: rest) pos) (tD X.K fun ρ => ((fa ρ).bind boolO).bind fun x => if x then fb ρ else some (.bool false)) := ⟨fun pins s σ H Q I ⟨F, ρ, d, e, hf, q⟩ => by
  obtain ⟨n, h1, hf⟩ := some_bind hf
  refine (pe_and ha hb).run pins s σ H Q I ⟨F, ρ, _, e, boolO_some h1, fun v H1 s1 r1 => ⟨n, r1.b, ?_⟩⟩
  cases n with
  | true => exact ⟨F, ρ, d, e.ext s1, hf, fun u H2 s2 r2 => q _ _ (s1.trans s2) r2⟩
  | false =>
    cases hf
    exact q _ _ s1 (.bl _)⟩
theorem pd_or {rest : List Expr} (ha : PE X a (tD X.K fa)) (hb : PE X (.BoolOp .Or (b :: rest) pos) (tD X.K fb)) : PE X (.BoolOp .Or (a :: b :: rest) pos) (tD X.K fun ρ => ((fa ρ).bind boolO).bind fun x => if x then some (.bool true) else fb ρ) := ⟨fun pins s σ H Q I ⟨F, ρ, d, e, hf, q⟩ => by
  obtain ⟨n, h1, hf⟩ := some_bind hf
  refine (pe_or ha hb).run pins s σ H Q I ⟨F, ρ, _, e, boolO_some h1, fun v H1 s1 r1 => ⟨n, r1.b, ?_⟩⟩
  cases n with
  | false => exact ⟨F, ρ, d, e.ext s1, hf, fun u H2 s2 r2 => q _ _ (s1.trans s2) r2⟩
  | true =>
    cases hf
    exact q _ _ s1 (.bl _)⟩
theorem pd_ite (hc : PT X c (tDT X.K fc)) (ha : PE X a (tD X.K fa)) (hb : PE X b (tD X.K fb)) : PE X (.IfExp c a b pos) (tD X.K fun ρ => ((fc ρ).bind boolO).bind fun x => if x then fa ρ else fb ρ) := ⟨fun pins s σ H Q I ⟨F, ρ, d, e, hf, q⟩ => by
  obtain ⟨n, h1, hf⟩ := some_bind hf
  refine (pe_ifExp hc ha hb).run pins s σ H Q I ⟨F, ρ, n, e, boolO_some h1, fun H1 s1 => ?_⟩
  cases n with
  | true => exact ⟨F, ρ, d, e.ext s1, hf, fun u H2 s2 r2 => q _ _ (s1.trans s2) r2⟩
  | false => exact ⟨F, ρ, d, e.ext s1, hf, fun u H2 s2 r2 => q _ _ (s1.trans s2) r2⟩⟩
/-! tests -/
theorem pt_of (ha : PE X a (tD X.K fa)) (he : ∀ whole, isTrue a X.env whole = (do let v ← whole; standAt a.pos; holding [v] (truthy v))) : PT X a (tDT X.K fa) := ⟨fun pins s σ H Q I ⟨F, ρ, b, e, hf, q⟩ =>
  (pt_val ha he).run pins s σ H Q I ⟨F, ρ, _, e, hf, fun v H1 s1 r1 => ⟨b, r1.b, q _ s1⟩⟩⟩
theorem ptd_not (ha : PT X a (tDT X.K fa)) : PT X (.UnaryOp .Not a pos) (tDT X.K fun ρ => ((fa ρ).bind boolO).bind fun i => some (.bool !i)) := ⟨fun pins s σ H Q I ⟨F, ρ, d, e, hf, q⟩ => by
  obtain ⟨n, h1, hf⟩ := some_bind hf
  cases hf
  exact (pt_not ha).run pins s σ H Q I ⟨F, ρ, _, e, boolO_some h1, fun H1 s1 => q _ s1⟩⟩
theorem pwd_and {rest : List Expr} (ha : PT X a (tDT X.K fa)) (hb : PW X (.BoolOp .And (b :: rest) pos) (tDT X.K fb)) : PW X (.BoolOp .And (a :: b :: rest) pos) (tDT X.K fun ρ => ((fa ρ).bind boolO).bind fun x => if x then fb ρ else some (.bool false)) := ⟨fun wh pins s σ H Q I ⟨F, ρ, d, e, hf, q⟩ => by
  obtain ⟨n, h1, hf⟩ := some_bind hf
  refine (pw_and ha hb).run wh pins s σ H Q I ⟨F, ρ, _, e, boolO_some h1, fun H1 s1 => ?_⟩
  cases n with
  | true => exact ⟨F, ρ, d, e.ext s1, hf, fun H2 s2 => q _ (s1.trans s2)⟩
  | false =>
    cases hf
    exact q _ s1⟩
theorem pwd_or {rest : List Expr} (ha : PT X a (tDT X.K fa)) (hb : PW X (.BoolOp .Or (b :: rest) pos) (tDT X.K fb)) : PW X (.BoolOp .Or (a :: b :: rest) pos) (tDT X.K fun ρ => ((fa ρ).bind boolO).bind fun x => if x then some (.bool true) else fb ρ) := ⟨fun wh pins s σ H Q I ⟨F, ρ, d, e, hf, q⟩ => by
  obtain ⟨n, h1, hf⟩ := some_bind hf
  refine (pw_or ha hb).run wh pins s σ H Q I ⟨F, ρ, _, e, boolO_some h1, fun H1 s1 => ?_⟩
  cases n with
  | false => exact ⟨F, ρ, d, e.ext s1, hf, fun H2 s2 => q _ (s1.trans s2)⟩
  | true =>
    cases hf
    exact q _ s1⟩
end
end PV
end
section -- Snd2
/-! Expressions, part 2: comparisons, subscripts, built-in functions, isinstance, calls. -/
namespace PV
open PySem PySem.Spec L2
open PyProof.Rows hiding St
/-! ### the order of tuples of ints -/
theorem lexAt_shift {e r : Nat → Bool} {z : Bool} : ∀ (k i : Nat), Ob.lexAt (fun j => e (j + 1)) (fun j => r (j + 1)) z i k = Ob.lexAt e r z (i + 1) k
  | 0, _ => by rw [Ob.lexAt_zero, Ob.lexAt_zero]
  | k + 1, i => by rw [Ob.lexAt_succ, Ob.lexAt_succ, lexAt_shift k (i + 1)]
theorem geI_lex : ∀ (ns ms : List Int), Ob.lexAt (fun j => decide (ns.getD j 0 = ms.getD j 0)) (fun j => decide (ms.getD j 0 ≤ ns.getD j 0)) (decide (ns.length ≥ ms.length)) 0 (min ns.length ms.length) = geI ns ms
  | ns, [] => by
    rw [show min ns.length ([] : List Int).length = 0 by simp, Ob.lexAt_zero]
    cases ns <;> simp [geI]
  | [], _ :: _ => by
    rw [show min ([] : List Int).length (_ :: _ : List Int).length = 0 by simp, Ob.lexAt_zero]
    simp [geI]
  | x :: xs, y :: ys => by
    rw [show min (x :: xs).length (y :: ys).length = min xs.length ys.length + 1 by simp only [List.length_cons]; omega, Ob.lexAt_succ]
    rw [← lexAt_shift]
    have ih := geI_lex xs ys
    have hz : decide ((x :: xs).length ≥ (y :: ys).length) = decide (xs.length ≥ ys.length) := by simp
    simp only [List.getD_cons_zero, List.getD_cons_succ, hz, geI]
    rw [ih]
    by_cases h : x = y
    · simp [h]
    · simp [h]
theorem op_geT {X : Cx} (hu : X.A.units < cLine) : OpR X (compareOp .GtE) (fun x y H Q => ∃ (a b : Addr) (ns ms : List Int), x = .ref a ∧ y = .ref b ∧ SqT X.K H a (ns.map V.int) ∧ SqT X.K H b (ms.map V.int) ∧ Q (.bl (geI ns ms)) H) := by
  intro pins s σ H x y v u Q I rx ry h
  obtain ⟨a, b, ns, ms, rfl, rfl, ha, hb, q⟩ := h
  cases rx
  cases ry
  obtain ⟨its, r1, p1, _⟩ := I.tuple ha
  obtain ⟨its2, r2, p2, _⟩ := I.tuple hb
  have i1 : IntsAre its ns := Vals.ints r1
  have i2 : IntsAre its2 ms := Vals.ints r2
  have e1 : its.toArray.size = ns.length := by rw [List.size_toArray]; exact i1.length
  have e2 : its2.toArray.size = ms.length := by rw [List.size_toArray]; exact i2.length
  have at1 : ∀ j (h1 : j < its.toArray.size), ∃ t, its.toArray[j] = .int (ns.getD j 0) t := fun j h1 => PyProof.Rows.IntsAre.int_at i1 _ _ (by simp at h1; simp [h1])
  have at2 : ∀ j (h1 : j < its2.toArray.size), ∃ t, its2.toArray[j] = .int (ms.getD j 0) t := fun j h1 => PyProof.Rows.IntsAre.int_at i2 _ _ (by simp at h1; simp [h1])
  have R := Ob.RcOp.tuples_ge (A := X.A) (s := s) (e := fun j => decide (ns.getD j 0 = ms.getD j 0)) (r := fun j => decide (ms.getD j 0 ≤ ns.getD j 0)) p1 p2 hu (fun j h1 h2 => by
    obtain ⟨t, et⟩ := at1 j h1
    obtain ⟨t', et'⟩ := at2 j h2
    rw [et, et']
    have z : (ns.getD j 0 == ms.getD j 0) = decide (ns.getD j 0 = ms.getD j 0) := by
      by_cases q : ns.getD j 0 = ms.getD j 0
      · rw [decide_eq_true q]; exact beq_iff_eq.mpr q
      · rw [decide_eq_false q]; exact beq_eq_false_iff_ne.mpr q
    rw [← z]
    exact SeqAt.EqAt.int_int _ _ _ _) (fun j h1 h2 _ => by
    obtain ⟨t, et⟩ := at1 j h1
    obtain ⟨t', et'⟩ := at2 j h2
    rw [et, et']
    exact Ob.RcOp.ge_int _ _ _ _)
  rw [e1, e2, geI_lex] at R
  have z : wpAny (model X.prog X.w) X.A (compareOp .GtE (.ref a) (.ref b)) (EP X pins σ Q) X.xe s := R X.prog X.w X.xe (EP X pins σ Q) ⟨.bl _, H, I, rfl, q⟩
  exact z
theorem op_inT {X : Cx} (hu : X.A.units + 65 < cLine) : OpR X (compareOp .In) (fun x y H Q => ∃ d ds, Dp X.K H x d ∧ Dp X.K H y (.tuple ds) ∧ SeqAt.shaped d = true ∧ SeqAt.shaped (.tuple ds) = true ∧ Q (.bl (ds.any fun z => PyData.eqv z d)) H) := by
  intro pins s σ H x y v u Q I rx ry h
  obtain ⟨d, ds, hd, he, sd, se, q⟩ := h
  obtain ⟨as, r1⟩ := Dp.reads I d x v hd rx
  obtain ⟨bs, r2⟩ := Dp.reads I (.tuple ds) y u he ry
  exact SeqAt.in_tuple_reads r2 r1 (SeqAt.canLay_of_shaped se) (SeqAt.canLay_of_shaped sd) (room_in_shaped sd hu) ⟨.bl _, H, I, rfl, q⟩
theorem op_notInT {X : Cx} (hu : X.A.units + 65 < cLine) : OpR X (compareOp .NotIn) (fun x y H Q => ∃ d ds, Dp X.K H x d ∧ Dp X.K H y (.tuple ds) ∧ SeqAt.shaped d = true ∧ SeqAt.shaped (.tuple ds) = true ∧ Q (.bl (!ds.any fun z => PyData.eqv z d)) H) := by
  intro pins s σ H x y v u Q I rx ry h
  obtain ⟨d, ds, hd, he, sd, se, q⟩ := h
  obtain ⟨as, r1⟩ := Dp.reads I d x v hd rx
  obtain ⟨bs, r2⟩ := Dp.reads I (.tuple ds) y u he ry
  exact SeqAt.notIn_tuple_reads r2 r1 (SeqAt.canLay_of_shaped se) (SeqAt.canLay_of_shaped sd) (room_in_shaped sd hu) ⟨.bl _, H, I, rfl, q⟩
def pyCm : Cm → CmpOp
  | .eq => .Eq
  | .ne => .NotEq
  | .lt => .Lt
  | .le => .LtE
  | .gt => .Gt
  | .ge => .GtE
  | .in_ => .In
  | .notIn => .NotIn
/-- what a comparison of two data gives, by values -/
def rCm (K : PySem.W.Frag) (o : Cm) : R2 := fun v u H Q => ∃ (F : List Addr) (x y : D) (k : Bool), Rb K F H v x ∧ Rp K (mask F H) u y ∧ cmpF o x y = some (.bool k) ∧ Q (.bl k) H
theorem cmpF_bool {o : Cm} {x y d : D} (h : cmpF o x y = some d) : ∃ b, d = .bool b := by
  cases o <;> cases x <;> cases y <;> simp only [cmpF] at h <;> first
    | (cases h; done)
    | (split at h <;> first | (cases h; exact ⟨_, rfl⟩) | (cases h; done))
    | (cases h; exact ⟨_, rfl⟩)
    | (obtain ⟨_, _, h⟩ := some_bind h; obtain ⟨_, _, h⟩ := some_bind h; cases h; exact ⟨_, rfl⟩)
theorem op_cm {X : Cx} {o : Cm} (hu : X.A.units + 65 < cLine) : OpR X (compareOp (pyCm o)) (rCm X.K o) := by
  intro pins s σ H v u vv uu Q I rv ru ⟨F, x, y, k, r1, r2, hf, q⟩
  have two : shp x && shp y → Dp X.K H v x ∧ Dp X.K H u y ∧ SeqAt.shaped x = true ∧ SeqAt.shaped y = true := fun c => by
    obtain ⟨c1, c2⟩ := Bool.and_eq_true_iff.mp c
    exact ⟨r1.dp, r2.toD, c1, c2⟩
  cases o with
  | eq =>
    simp only [cmpF] at hf
    split at hf
    · rename_i c
      obtain ⟨h1, h2, h3, h4⟩ := two c
      cases hf
      exact op_eqD (by omega) pins s σ H v u vv uu Q I rv ru ⟨x, y, h1, h2, h3, h4, q⟩
    · cases hf
  | ne =>
    simp only [cmpF] at hf
    split at hf
    · rename_i c
      obtain ⟨h1, h2, h3, h4⟩ := two c
      cases hf
      exact op_neD (by omega) pins s σ H v u vv uu Q I rv ru ⟨x, y, h1, h2, h3, h4, q⟩
    · cases hf
  | lt =>
    cases x <;> cases y <;> simp only [cmpF] at hf <;> cases hf
    exact op_lt pins s σ H v u vv uu Q I rv ru ⟨_, _, r1.i, r2.i, q⟩
  | le =>
    cases x <;> cases y <;> simp only [cmpF] at hf <;> cases hf
    exact op_le pins s σ H v u vv uu Q I rv ru ⟨_, _, r1.i, r2.i, q⟩
  | gt =>
    cases x <;> cases y <;> simp only [cmpF] at hf <;> cases hf
    exact op_gt pins s σ H v u vv uu Q I rv ru ⟨_, _, r1.i, r2.i, q⟩
  | ge =>
    cases x <;> cases y <;> simp only [cmpF] at hf <;> try (cases hf; done)
    · cases hf
      exact op_ge pins s σ H v u vv uu Q I rv ru ⟨_, _, r1.i, r2.i, q⟩
    · obtain ⟨ns, h1, hf⟩ := some_bind hf
      obtain ⟨ms, h2, hf⟩ := some_bind hf
      cases hf
      obtain ⟨a, xs, rfl, e1, l1⟩ := r1.t
      obtain ⟨b, ys, rfl, e2, l2⟩ := r2.t
      obtain ⟨z1, _⟩ := l1.ints h1
      obtain ⟨z2, _⟩ := l2.ints h2
      subst z1
      subst z2
      exact op_geT (by omega) pins s σ H _ _ vv uu Q I rv ru ⟨a, b, ns, ms, rfl, rfl, sqT_un e1, sqT_un e2, q⟩
  | in_ =>
    cases y <;> simp only [cmpF] at hf <;> try (cases hf; done)
    split at hf
    · rename_i c
      obtain ⟨h1, h2, h3, h4⟩ := two c
      cases hf
      exact op_inT hu pins s σ H v u vv uu Q I rv ru ⟨x, _, h1, h2, h3, h4, q⟩
    · cases hf
  | notIn =>
    cases y <;> simp only [cmpF] at hf <;> try (cases hf; done)
    split at hf
    · rename_i c
      obtain ⟨h1, h2, h3, h4⟩ := two c
      cases hf
      exact op_notInT hu pins s σ H v u vv uu Q I rv ru ⟨x, _, h1, h2, h3, h4, q⟩
    · cases hf
section
variable {X : Cx} {a b c : Expr} {es : List Expr} {fa fb fc : Rho → Option D} {fs gs : Rho → Option (List D)} {fl fh : Rho → Option (Option Int)} {pos p p2 tpos : Pos} {i k : Nat} {x : Str} {o o' : Cm} {lo hi : Option Expr}
theorem pd_cmp (hu : X.A.units + 65 < cLine) (ha : PE X a (tDB X.K fa)) (hb : PE X b (tD X.K fb)) (hm : behindInMarks (pyCm o) b = false) : PE X (.Compare a [pyCm o] [b] pos) (tD X.K fun ρ => (fa ρ).bind fun x => (fb ρ).bind fun y => cmpF o x y) := ⟨fun pins s σ H Q I ⟨F, ρ, d, e, hf, q⟩ => by
  obtain ⟨x, h1, hf⟩ := some_bind hf
  obtain ⟨y, h2, hf⟩ := some_bind hf
  obtain ⟨k, rfl⟩ := cmpF_bool hf
  exact (pe_cmpR (op_cm hu) ha hb hm).run pins s σ H Q I ⟨F, ρ, x, e, h1, fun v H1 s1 r1 => ⟨F, ρ, y, e.ext s1, h2, fun u H2 s2 r2 => ⟨F, x, y, k, r1.ext s2, r2, hf, q _ _ (s1.trans s2) (.bl k)⟩⟩⟩⟩
theorem ptd_cmp (hu : X.A.units + 65 < cLine) (ha : PE X a (tDB X.K fa)) (hb : PE X b (tD X.K fb)) (hm : behindInMarks (pyCm o) b = false) : PT X (.Compare a [pyCm o] [b] pos) (tDT X.K fun ρ => (fa ρ).bind fun x => (fb ρ).bind fun y => cmpF o x y) := ⟨fun pins s σ H Q I ⟨F, ρ, d, e, hf, q⟩ => by
  obtain ⟨x, h1, hf⟩ := some_bind hf
  obtain ⟨y, h2, hf⟩ := some_bind hf
  exact (pt_cmpR (op_cm hu) ha hb hm).run pins s σ H Q I ⟨F, ρ, x, e, h1, fun v H1 s1 r1 => ⟨F, ρ, y, e.ext s1, h2, fun u H2 s2 r2 => ⟨F, x, y, d, r1.ext s2, r2, hf, d, rfl, q _ (s1.trans s2)⟩⟩⟩⟩
theorem isNone_v {K : PySem.W.Frag} {M : Hp} {v : V} {d : D} (r : Rp K M v d) : decide (v = .non) = isNone d := by
  cases r <;> rfl
theorem pd_isN {j} (ha : PE X a (tD X.K fa)) : PE X (.Compare a [.Is] [.Constant .none j p] pos) (tD X.K fun ρ => (fa ρ).bind fun x => some (.bool (isNone x != false))) := ⟨fun pins s σ H Q I ⟨F, ρ, d, e, hf, q⟩ => by
  obtain ⟨x, h1, hf⟩ := some_bind hf
  cases hf
  refine (pe_cmp (pc_isN ha) (nobehind _ (by decide) (by decide))).run pins s σ H Q I ⟨F, ρ, x, e, h1, fun v H1 s1 r1 => ?_⟩
  show Q (.bl (decide (v = .non))) H1
  rw [isNone_v r1, show isNone x = (isNone x != false) by cases isNone x <;> rfl]
  exact q _ _ s1 (.bl _)⟩
theorem pd_notN {j} (ha : PE X a (tD X.K fa)) : PE X (.Compare a [.IsNot] [.Constant .none j p] pos) (tD X.K fun ρ => (fa ρ).bind fun x => some (.bool (isNone x != true))) := ⟨fun pins s σ H Q I ⟨F, ρ, d, e, hf, q⟩ => by
  obtain ⟨x, h1, hf⟩ := some_bind hf
  cases hf
  refine (pe_cmp (pc_notN ha) (nobehind _ (by decide) (by decide))).run pins s σ H Q I ⟨F, ρ, x, e, h1, fun v H1 s1 r1 => ?_⟩
  show Q (.bl (!decide (v = .non))) H1
  rw [isNone_v r1, show (!isNone x) = (isNone x != true) by cases isNone x <;> rfl]
  exact q _ _ s1 (.bl _)⟩
theorem ptd_isN {j} (ha : PE X a (tD X.K fa)) : PT X (.Compare a [.Is] [.Constant .none j p] pos) (tDT X.K fun ρ => (fa ρ).bind fun x => some (.bool (isNone x != false))) := ⟨fun pins s σ H Q I ⟨F, ρ, d, e, hf, q⟩ => by
  obtain ⟨x, h1, hf⟩ := some_bind hf
  cases hf
  refine (pt_cmp (pc_isN ha) (nobehind _ (by decide) (by decide))).run pins s σ H Q I ⟨F, ρ, x, e, h1, fun v H1 s1 r1 => ⟨_, rfl, ?_⟩⟩
  rw [isNone_v r1, show isNone x = (isNone x != false) by cases isNone x <;> rfl]
  exact q _ s1⟩
theorem ptd_notN {j} (ha : PE X a (tD X.K fa)) : PT X (.Compare a [.IsNot] [.Constant .none j p] pos) (tDT X.K fun ρ => (fa ρ).bind fun x => some (.bool (isNone x != true))) := ⟨fun pins s σ H Q I ⟨F, ρ, d, e, hf, q⟩ => by
  obtain ⟨x, h1, hf⟩ := some_bind hf
  cases hf
  refine (pt_cmp (pc_notN ha) (nobehind _ (by decide) (by decide))).run pins s σ H Q I ⟨F, ρ, x, e, h1, fun v H1 s1 r1 => ⟨_, rfl, ?_⟩⟩
  rw [isNone_v r1, show (!isNone x) = (isNone x != true) by cases isNone x <;> rfl]
  exact q _ s1⟩
theorem ptd_chain (ha : PE X a (tD X.K fa)) (hb : PE X b (tD X.K fb)) (hc : PE X c (tD X.K fc)) : PT X (.Compare a [.LtE, .Lt] [b, c] pos)
    (tDT X.K fun ρ => ((fa ρ).bind intO).bind fun x => ((fb ρ).bind intO).bind fun y => if x ≤ y then ((fc ρ).bind intO).bind fun z => some (.bool (decide (y < z))) else some (.bool false)) := ⟨fun pins s σ H Q I ⟨F, ρ, d, e, hf, q⟩ => by
  obtain ⟨x, h1, hf⟩ := some_bind hf
  obtain ⟨y, h2, hf⟩ := some_bind hf
  refine (pt_chain op_le op_lt ha hb hc (nobehind _ (by decide) (by decide))).run pins s σ H Q I ⟨F, ρ, _, e, intO_some h1, fun v H1 s1 r1 => ⟨F, ρ, _, e.ext s1, intO_some h2, fun u H2 s2 r2 => ⟨x, y, r1.i, r2.i, _, rfl, ?_⟩⟩⟩
  by_cases hxy : x ≤ y
  · rw [if_pos hxy] at hf
    rw [decide_eq_true hxy, if_pos rfl]
    obtain ⟨z, h3, hf⟩ := some_bind hf
    cases hf
    exact ⟨F, ρ, _, e.ext (s1.trans s2), intO_some h3, fun w H3 s3 r3 => ⟨y, z, r2.i, r3.i, _, rfl, q _ ((s1.trans s2).trans s3)⟩⟩
  · rw [if_neg hxy] at hf
    rw [decide_eq_false hxy, if_neg (by decide)]
    cases hf
    exact ⟨_, rfl, q _ (s1.trans s2)⟩⟩
/-! subscripts -/
theorem atI_len {α β : Type} {xs : List α} {ys : List β} {n : Int} {y : β} (hl : xs.length = ys.length) (h : atI ys n = some y) : ∃ j : Nat, ys[j]? = some y ∧ ∀ x, xs[j]? = some x → atI xs n = some x := by
  unfold atI at h
  obtain ⟨j, h1, h2⟩ := some_bind h
  refine ⟨j, h2, fun x hx => ?_⟩
  unfold atI
  rw [hl, h1]
  exact hx
theorem pd_ix (ha : PE X a (tDB X.K fa)) (hb : PE X b (tD X.K fb)) (hs : PlainIx b) : PE X (.Subscript a b pos) (tD X.K fun ρ => (fa ρ).bind fun x => (fb ρ).bind fun y => ixF x y) := ⟨fun pins s σ H Q I ⟨F, ρ, d, e, hf, q⟩ => by
  obtain ⟨x, h1, hf⟩ := some_bind hf
  obtain ⟨y, h2, hf⟩ := some_bind hf
  cases x <;> cases y <;> simp only [ixF] at hf <;> try (cases hf; done)
  · refine (pe_ix ix_list ha hb hs).run pins s σ H Q I ⟨F, ρ, _, e, h1, fun v H1 s1 r1 => ⟨F, ρ, _, e.ext s1, h2, fun u H2 s2 r2 => ?_⟩⟩
    obtain ⟨t, xs, rfl, e1, l1⟩ := (r1.ext s2).l
    obtain ⟨j, g1, g2⟩ := atI_len l1.len hf
    obtain ⟨w, g3, g4⟩ := l1.get g1
    exact ⟨t, xs, _, w, rfl, r2.i, .inl (.inl e1), g2 w g3, q _ _ (s1.trans s2) g4⟩
  · refine (pe_ix ix_tup ha hb hs).run pins s σ H Q I ⟨F, ρ, _, e, h1, fun v H1 s1 r1 => ⟨F, ρ, _, e.ext s1, h2, fun u H2 s2 r2 => ?_⟩⟩
    obtain ⟨t, xs, rfl, e1, l1⟩ := (r1.ext s2).t
    obtain ⟨j, g1, g2⟩ := atI_len l1.len hf
    obtain ⟨w, g3, g4⟩ := l1.get g1
    exact ⟨t, xs, _, w, rfl, r2.i, sqT_un e1, g2 w g3, q _ _ (s1.trans s2) g4⟩⟩
theorem pod_none : PO X none (tDO X.K fun _ => some none) := ⟨fun pins s σ H Q I ⟨F, ρ, d, e, hf, q⟩ => by
  cases hf
  exact po_none.run pins s σ H Q I (q H (Sm.refl H))⟩
theorem pod_some (ha : PE X a (tD X.K fa)) : PO X (some a) (tDO X.K fun ρ => ((fa ρ).bind intO).bind fun i => some (some i)) := ⟨fun pins s σ H Q I ⟨F, ρ, d, e, hf, q⟩ => by
  obtain ⟨n, h1, hf⟩ := some_bind hf
  cases hf
  exact (po_some ha).run pins s σ H Q I ⟨F, ρ, _, e, intO_some h1, fun v H1 s1 r1 => ⟨n, r1.i, q H1 s1⟩⟩⟩
theorem pd_sl (ha : PE X a (tD X.K fa)) (hl : PO X lo (tDO X.K fl)) (hh : PO X hi (tDO X.K fh)) : PE X (.Subscript a (.Slice lo hi none p2) pos) (tD X.K fun ρ => (fa ρ).bind fun x => (fl ρ).bind fun l => (fh ρ).bind fun h => sliceF x l h) := ⟨fun pins s σ H Q I ⟨F, ρ, d, e, hf, q⟩ => by
  obtain ⟨x, h1, hf⟩ := some_bind hf
  obtain ⟨l, h2, hf⟩ := some_bind hf
  obtain ⟨h, h3, hf⟩ := some_bind hf
  have sp := fun (H1 : Hp) (s1 : Sm X.K H H1) => hid e s1
  cases x <;> simp only [sliceF] at hf <;> try (cases hf; done)
  · rename_i ds
    cases hf
    refine (pe_slice sl_list ha hl hh).run pins s σ H Q I ⟨F, ρ, _, e, h1, fun v H1 s1 r1 => ⟨F, ρ, _, e.ext s1, h2, fun H2 s2 => ⟨F, ρ, _, e.ext (s1.trans s2), h3, fun H3 s3 => ?_⟩⟩⟩
    have s13 := (s1.trans s2).trans s3
    obtain ⟨t, xs, rfl, e1, l1⟩ := (r1.up (mm (s2.trans s3))).l
    refine ⟨t, xs, rfl, .inl (.inl ((mask_same _ _).lst e1)), fun p hp => q _ _ (s13.trans (sm_upd hp)) (rp_lst (sp _ s13) hp ?_)⟩
    unfold cutV
    rw [l1.len]
    exact (l1.drop _).take _
  · rename_i ds
    cases hf
    refine (pe_slice sl_tupA ha hl hh).run pins s σ H Q I ⟨F, ρ, _, e, h1, fun v H1 s1 r1 => ⟨F, ρ, _, e.ext s1, h2, fun H2 s2 => ⟨F, ρ, _, e.ext (s1.trans s2), h3, fun H3 s3 => ?_⟩⟩⟩
    have s13 := (s1.trans s2).trans s3
    obtain ⟨t, xs, rfl, e1, l1⟩ := (r1.up (mm (s2.trans s3))).t
    refine ⟨t, xs, rfl, sqT_un e1, fun ⟨z1, z2⟩ => q _ _ s13 ?_, fun _ p hp => q _ _ (s13.trans (sm_upd hp)) (rp_tup (sp _ s13) hp ?_)⟩
    · rw [l1.len] at z1 z2
      rw [z1, z2, List.drop_zero, Nat.sub_zero, List.take_length]
      exact .tup e1 l1
    · unfold cutV
      rw [l1.len]
      exact (l1.drop _).take _⟩
end
end PV
end
section -- Snd3
/-! Expressions, part 3: built-in functions, isinstance, calls of own defs. -/
namespace PV
open PySem PySem.Spec L2
open PyProof.Rows hiding St
/-! ### the module's names that stay free -/
structure Bl (mg : Str → Option Value) : Prop where
  len : mg "len" = none
  isinstance : mg "isinstance" = none
  tuple : mg "tuple" = none
  list : mg "list" = none
  all : mg "all" = none
  any : mg "any" = none
  zip : mg "zip" = none
  sorted : mg "sorted" = none
  set : mg "set" = none
  range : mg "range" = none
  min : mg "min" = none
  max : mg "max" = none
  int : mg "int" = none
  bool : mg "bool" = none
  str : mg "str" = none
  abs : mg "abs" = none
  enumerate : mg "enumerate" = none
  gcd : mg "gcd" = some (.builtin "math.gcd")
theorem pe_or2 {X : Cx} {e : Expr} {t u : TE} (h : PE X e t) (h' : PE X e u) : PE X e (fun σ H Q => t σ H Q ∨ u σ H Q) := ⟨fun pins s σ H Q I q => q.elim (h.run pins s σ H Q I) (h'.run pins s σ H Q I)⟩
section
variable {X : Cx} {a b c : Expr} {es : List Expr} {fa fb fc : Rho → Option D} {fs gs : Rho → Option (List D)} {pos p p2 p3 tpos : Pos} {i k : Nat} {x : Str}
/-- what a built-in function of one argument asks -/
def rOne (K : PySem.W.Frag) (g : D → Option D) : List V → Hp → VK → Prop := fun vs H Q => ∃ F x d v, vs = [v] ∧ TabP K H ∧ (∀ a ∈ F, Hs H a) ∧ Rb K F H v x ∧ g x = some d ∧ ∀ v' H', Sm K H H' → Rp K (mask F H') v' d → Q v' H'
def rTwo (K : PySem.W.Frag) (g : D → D → Option D) : List V → Hp → VK → Prop := fun vs H Q => ∃ F x y d v u, vs = [v, u] ∧ (∀ a ∈ F, Hs H a) ∧ Rp K (mask F H) v x ∧ Rp K (mask F H) u y ∧ g x y = some d ∧ ∀ v' H', Sm K H H' → Rp K (mask F H') v' d → Q v' H'
theorem pd_one {e0 : Expr} {g : D → Option D} (h : PE X e0 (tCB (rOne X.K g) (tCons (tDB X.K fa) tNil))) : PE X e0 (tD X.K fun ρ => (fa ρ).bind fun x => g x) := ⟨fun pins s σ H Q I ⟨F, ρ, d, e, hf, q⟩ => by
  obtain ⟨x, h1, hf⟩ := some_bind hf
  exact h.run pins s σ H Q I ⟨F, ρ, x, e, h1, fun v H1 s1 r1 => ⟨F, x, d, v, rfl, (e.ext s1).tab, hid e s1, r1, hf, fun v' H' s' r' => q v' H' (s1.trans s') r'⟩⟩⟩
theorem pd_two {e0 : Expr} {g : D → D → Option D} (h : PE X e0 (tCB (rTwo X.K g) (tCons (tD X.K fa) (tCons (tD X.K fb) tNil)))) : PE X e0 (tD X.K fun ρ => (fa ρ).bind fun x => (fb ρ).bind fun y => g x y) := ⟨fun pins s σ H Q I ⟨F, ρ, d, e, hf, q⟩ => by
  obtain ⟨x, h1, hf⟩ := some_bind hf
  obtain ⟨y, h2, hf⟩ := some_bind hf
  exact h.run pins s σ H Q I ⟨F, ρ, x, e, h1, fun v H1 s1 r1 => ⟨F, ρ, y, e.ext s1, h2, fun u H2 s2 r2 => ⟨F, x, y, d, v, u, rfl, hid e (s1.trans s2), r1.up (mm s2), r2, hf, fun v' H' s' r' => q v' H' ((s1.trans s2).trans s') r'⟩⟩⟩⟩
theorem cr_one {f : Value} {g : D → Option D} {r : List V → Hp → VK → Prop} (h : CallR X f r) (hr : ∀ vs H Q, rOne X.K g vs H Q → r vs H Q) : CallR X f (rOne X.K g) := fun pins s σ H xs us Q I rv q => h pins s σ H xs us Q I rv (hr _ _ _ q)
theorem cr_two {f : Value} {g : D → D → Option D} {r : List V → Hp → VK → Prop} (h : CallR X f r) (hr : ∀ vs H Q, rTwo X.K g vs H Q → r vs H Q) : CallR X f (rTwo X.K g) := fun pins s σ H xs us Q I rv q => h pins s σ H xs us Q I rv (hr _ _ _ q)
theorem minI_ok : ∀ {ns : List Int} {m : Int}, minI ns = some m → m ∈ ns ∧ ∀ y ∈ ns, m ≤ y
  | [], _, h => by cases h
  | x :: r, m, h => by
    have key : ∀ (r : List Int) (x : Int), (r.foldl (fun m y => if y < m then y else m) x = x ∨ r.foldl (fun m y => if y < m then y else m) x ∈ r) ∧ r.foldl (fun m y => if y < m then y else m) x ≤ x ∧ ∀ y ∈ r, r.foldl (fun m y => if y < m then y else m) x ≤ y := by
      intro r
      induction r with
      | nil => intro x; exact ⟨.inl rfl, Int.le_refl _, fun y hy => nomatch hy⟩
      | cons z r ih =>
        intro x
        obtain ⟨h1, h2, h3⟩ := ih (if z < x then z else x)
        simp only [List.foldl_cons]
        refine ⟨?_, ?_, fun y hy => ?_⟩
        · rcases h1 with h1 | h1
          · by_cases c : z < x
            · rw [if_pos c] at h1 ⊢
              exact .inr (by rw [h1]; exact List.mem_cons_self)
            · rw [if_neg c] at h1 ⊢
              exact .inl h1
          · exact .inr (List.mem_cons_of_mem _ h1)
        · by_cases c : z < x
          · rw [if_pos c] at h2 ⊢; omega
          · rw [if_neg c] at h2 ⊢; exact h2
        · rcases List.mem_cons.mp hy with rfl | hy
          · by_cases c : y < x
            · rw [if_pos c] at h2 ⊢; exact h2
            · rw [if_neg c] at h2 ⊢; omega
          · exact h3 y hy
    simp only [minI, Option.some.injEq] at h
    subst h
    obtain ⟨h1, h2, h3⟩ := key r x
    refine ⟨?_, fun y hy => ?_⟩
    · rcases h1 with h1 | h1
      · rw [h1]; exact List.mem_cons_self
      · exact List.mem_cons_of_mem _ h1
    · rcases List.mem_cons.mp hy with rfl | hy
      · exact h2
      · exact h3 y hy
theorem min_uniq {ns : List Int} {m n : Int} (h : minI ns = some m) (h1 : n ∈ ns) (h2 : ∀ y ∈ ns, n ≤ y) : n = m := by
  obtain ⟨h3, h4⟩ := minI_ok h
  have := h2 m h3
  have := h4 n h1
  omega
theorem cr_len : CallR X (.builtin "len") (rOne X.K (f1F .len)) := cr_one call_len fun vs H Q ⟨F, x, d, v, e, hT, hF, r, hg, q⟩ => by
  subst e
  cases x <;> simp only [f1F] at hg <;> cases hg
  · obtain ⟨t, xs, rfl, e1, l1⟩ := r.l
    exact ⟨_, _, rfl, .inl ⟨xs, .inl (.inl e1), l1.len.symm⟩, q _ _ (Sm.refl H) (.int _)⟩
  · obtain ⟨t, xs, rfl, e1, l1⟩ := r.t
    exact ⟨_, _, rfl, .inr ⟨xs, sqT_un e1, l1.len.symm⟩, q _ _ (Sm.refl H) (.int _)⟩
theorem cr_all1 (hc : X.calm = true) : CallR X (.builtin "all") (rOne X.K (f1F .all)) := cr_one (cr_all hc) fun vs H Q ⟨F, x, d, v, e, hT, hF, r, hg, q⟩ => by
  subst e
  cases x <;> simp only [f1F] at hg <;> try (cases hg; done)
  obtain ⟨bs, h1, hg⟩ := some_bind hg
  cases hg
  obtain ⟨t, xs, rfl, e1, l1⟩ := r.l
  rw [l1.bools h1] at e1
  exact ⟨t, bs, rfl, .inl (.inl e1), q _ _ (Sm.refl H) (.bl _)⟩
theorem cr_any1 (hc : X.calm = true) : CallR X (.builtin "any") (rOne X.K (f1F .any)) := cr_one (cr_any hc) fun vs H Q ⟨F, x, d, v, e, hT, hF, r, hg, q⟩ => by
  subst e
  cases x <;> simp only [f1F] at hg <;> try (cases hg; done)
  obtain ⟨bs, h1, hg⟩ := some_bind hg
  cases hg
  obtain ⟨t, xs, rfl, e1, l1⟩ := r.l
  rw [l1.bools h1] at e1
  exact ⟨t, bs, rfl, .inl (.inl e1), q _ _ (Sm.refl H) (.bl _)⟩
theorem cr_min1 (hc : X.calm = true) : CallR X (.builtin "min") (rOne X.K (f1F .min)) := cr_one (cr_min hc) fun vs H Q ⟨F, x, d, v, e, hT, hF, r, hg, q⟩ => by
  subst e
  cases x <;> simp only [f1F] at hg <;> try (cases hg; done)
  obtain ⟨ns, h1, hg⟩ := some_bind hg
  obtain ⟨m, h2, hg⟩ := some_bind hg
  cases hg
  obtain ⟨t, xs, rfl, e1, l1⟩ := r.l
  rw [(l1.ints h1).1] at e1
  refine ⟨t, ns, rfl, .inl (.inl e1), ?_, fun n hn1 hn2 => ?_⟩
  · exact List.length_pos_of_mem (minI_ok h2).1
  · rw [min_uniq h2 hn1 hn2]
    exact q _ _ (Sm.refl H) (.int _)
theorem cr_abs1 : CallR X (.builtin "abs") (rOne X.K (f1F .abs)) := cr_one call_abs fun vs H Q ⟨F, x, d, v, e, hT, hF, r, hg, q⟩ => by
  subst e
  cases x <;> simp only [f1F] at hg <;> cases hg
  exact ⟨_, by rw [r.i], q _ _ (Sm.refl H) (.int _)⟩
theorem cr_int1 : CallR X (.type "int") (rOne X.K (f1F .int)) := cr_one call_int1 fun vs H Q ⟨F, x, d, v, e, hT, hF, r, hg, q⟩ => by
  subst e
  cases x <;> simp only [f1F] at hg <;> cases hg
  exact .inl ⟨_, by rw [r.i], q _ _ (Sm.refl H) (.int _)⟩
theorem cr_tuple1 : CallR X (.type "tuple") (rOne X.K (f1F .tuple)) := cr_one call_tuple_of fun vs H Q ⟨F, x, d, v, e, hT, hF, r, hg, q⟩ => by
  subst e
  cases x <;> simp only [f1F] at hg <;> cases hg
  · obtain ⟨t, xs, rfl, e1, l1⟩ := r.l
    exact ⟨t, xs, rfl, .inl ⟨.inl (.inl e1), fun l hl => q _ _ (sm_upd hl) (rp_tup hF hl l1)⟩⟩
  · obtain ⟨t, xs, rfl, e1, l1⟩ := r.t
    exact ⟨t, xs, rfl, .inr ⟨sqT_un e1, q _ _ (Sm.refl H) (.tup e1 l1)⟩⟩
theorem cr_list1 : CallR X (.type "list") (rOne X.K (f1F .list)) := cr_one call_list_of fun vs H Q ⟨F, x, d, v, e, hT, hF, r, hg, q⟩ => by
  subst e
  cases x <;> simp only [f1F] at hg <;> cases hg
  · obtain ⟨t, xs, rfl, e1, l1⟩ := r.l
    exact ⟨t, xs, rfl, .inl (.inl (.inl e1)), fun l hl => q _ _ (sm_upd hl) (rp_lst hF hl l1)⟩
  · obtain ⟨t, xs, rfl, e1, l1⟩ := r.t
    exact ⟨t, xs, rfl, .inr (sqT_un e1), fun l hl => q _ _ (sm_upd hl) (rp_lst hF hl l1)⟩
theorem cr_maxP (hc : X.calm = true) : CallR X (.builtin "max") (rTwo X.K (f2F .max)) := cr_two (call_max2 hc) fun vs H Q ⟨F, x, y, d, v, u, e, hF, r1, r2, hg, q⟩ => by
  subst e
  cases x <;> cases y <;> simp only [f2F] at hg <;> cases hg
  exact ⟨_, _, by rw [r1.i, r2.i], q _ _ (Sm.refl H) (.int _)⟩
theorem cr_gcdP : CallR X (.builtin "math.gcd") (rTwo X.K (f2F .gcd)) := cr_two cr_gcd fun vs H Q ⟨F, x, y, d, v, u, e, hF, r1, r2, hg, q⟩ => by
  subst e
  cases x <;> cases y <;> simp only [f2F] at hg <;> cases hg
  exact ⟨_, _, by rw [r1.i, r2.i], q _ _ (Sm.refl H) (.int _)⟩
/-- the name of the f-th function of one argument (but list(range(n))) -/
def nm1 : F1 → Str
  | .len => "len"
  | .all => "all"
  | .any => "any"
  | .min => "min"
  | .tuple => "tuple"
  | .list => "list"
  | .lrng => ""
  | .abs => "abs"
  | .int => "int"
def nm2 : F2 → Str
  | .max => "max"
  | .gcd => "gcd"
theorem pd_f1 {f : F1} (hc : X.calm = true) (B : Bl X.mg) (hf : f ≠ .lrng) (hg : Gl X (nm1 f)) (ha : PE X a (tDB X.K fa)) (hs : starEach [a] X.env = (false, eval a X.env) :: starEach [] X.env) :
    PE X (.Call (.Name (nm1 f) p) [a] [] pos) (tD X.K fun ρ => (fa ρ).bind fun x => f1F f x) := by
  refine pd_one ?_
  cases f with
  | len => exact pe_callB cr_len hg B.len (by decide +kernel) (pa_cons ha pa_nil hs) (he := hs) (hpl := rfl)
  | all => exact pe_callB (cr_all1 hc) hg B.all (by decide +kernel) (pa_cons ha pa_nil hs) (he := hs) (hpl := rfl)
  | any => exact pe_callB (cr_any1 hc) hg B.any (by decide +kernel) (pa_cons ha pa_nil hs) (he := hs) (hpl := rfl)
  | min => exact pe_callB (cr_min1 hc) hg B.min (by decide +kernel) (pa_cons ha pa_nil hs) (he := hs) (hpl := rfl)
  | abs => exact pe_callB cr_abs1 hg B.abs (by decide +kernel) (pa_cons ha pa_nil hs) (he := hs) (hpl := rfl)
  | tuple => exact pe_callTy cr_tuple1 hg B.tuple (by decide +kernel) (pa_cons ha pa_nil hs) (he := hs) (hpl := rfl)
  | list => exact pe_callTy cr_list1 hg B.list (by decide +kernel) (pa_cons ha pa_nil hs) (he := hs) (hpl := rfl)
  | int => exact pe_callTy cr_int1 hg B.int (by decide +kernel) (pa_cons ha pa_nil hs) (he := hs) (hpl := rfl)
  | lrng => exact absurd rfl hf
theorem star2 {e : Env} (hs : starEach [a, b] e = (false, eval a e) :: starEach [b] e) (hs2 : starEach [b] e = (false, eval b e) :: starEach [] e) : (backTo pos (starEach [b] e)).any (·.1) = false := by
  rw [hs2]
  rfl
theorem pd_f2 {f : F2} (hc : X.calm = true) (B : Bl X.mg) (hg : Gl X (nm2 f)) (ha : PE X a (tD X.K fa)) (hb : PE X b (tD X.K fb)) (hs : starEach [a, b] X.env = (false, eval a X.env) :: starEach [b] X.env) (hs2 : starEach [b] X.env = (false, eval b X.env) :: starEach [] X.env) :
    PE X (.Call (.Name (nm2 f) p) [a, b] [] pos) (tD X.K fun ρ => (fa ρ).bind fun x => (fb ρ).bind fun y => f2F f x y) := by
  refine pd_two ?_
  cases f with
  | max => exact pe_callB (cr_maxP hc) hg B.max (by decide +kernel) (pa_cons ha (pa_cons hb pa_nil hs2) hs) (he := hs) (hpl := star2 hs hs2)
  | gcd => exact pe_callBfun cr_gcdP hg B.gcd (pa_cons ha (pa_cons hb pa_nil hs2) hs) (he := hs) (hpl := star2 hs hs2)
theorem rangeD_rg (K : PySem.W.Frag) (M : Hp) (m n : Int) : RpL K M (rgV m n) (rangeD m n) := by
  unfold rgV rangeD
  generalize (n - m).toNat = k
  induction k with
  | zero => exact .nil
  | succ k ih =>
    rw [List.range_succ, List.map_append, List.map_append]
    exact ih.app (.cons (.int _) .nil)
theorem okR_some {m n : Int} (h : okR m n = true) : 0 ≤ m ∧ m ≤ 5000 ∧ 0 ≤ n ∧ n ≤ 5000 := by
  simp only [okR, Bool.and_eq_true, decide_eq_true_eq] at h
  exact ⟨h.1.1.1, h.1.1.2, h.1.2, h.2⟩
theorem pd_lrng (hc : X.calm = true) (B : Bl X.mg) (hg : Gl X "list") (hg2 : Gl X "range") (ha : PE X a (tD X.K fa)) (hs : starEach [a] X.env = (false, eval a X.env) :: starEach [] X.env) :
    PE X (.Call (.Name "list" p) [.Call (.Name "range" p2) [a] [] p3] [] pos) (tD X.K fun ρ => (fa ρ).bind fun x => f1F .lrng x) := ⟨fun pins s σ H Q I ⟨F, ρ, d, e, hf, q⟩ => by
  obtain ⟨x, h1, hf⟩ := some_bind hf
  cases x <;> simp only [f1F] at hf <;> try (cases hf; done)
  rename_i n
  split at hf
  · rename_i c
    cases hf
    obtain ⟨_, _, c1, c2⟩ := okR_some c
    exact (pe_listRg hc hg B.list (prg_1 hg2 B.range ha hs)).run pins s σ H Q I ⟨F, ρ, _, e, h1, fun v H1 s1 r1 => ⟨n, r1.i, RgOk.of_le (Int.le_refl _) (by omega) (by omega) c1,
      fun l hl => q _ _ (s1.trans (sm_upd hl)) (rp_lst (hid e s1) hl (rangeD_rg _ _ 0 n))⟩⟩
  · cases hf⟩
/-! isinstance -/
def tyName : D → String
  | .none => "NoneType"
  | .bool _ => "bool"
  | .int _ => "int"
  | .str _ => "str"
  | .list _ => "list"
  | .tuple _ => "tuple"
  | .dict _ => "dict"
def tyS : Ty → String
  | .int => "int"
  | .bool => "bool"
  | .str => "str"
  | .list => "list"
  | .tuple => "tuple"
def tyN : Ty → Str
  | .int => "int"
  | .bool => "bool"
  | .str => "str"
  | .list => "list"
  | .tuple => "tuple"
theorem Rp.ty {K : PySem.W.Frag} {F : List Addr} {H : Hp} {v : V} {d : D} (r : Rp K (mask F H) v d) : TyX K H v (.type (tyName d)) := by
  cases d with
  | none => rw [r.n]; exact .base .non
  | bool b => rw [r.b]; exact .base (.bl b)
  | int b => rw [r.i]; exact .base (.int b)
  | str b => rw [r.s]; exact .base (.str b)
  | list b =>
    obtain ⟨t, xs, rfl, e1, l1⟩ := r.l
    exact .base (.lst ((mask_same _ _).lst e1))
  | tuple b =>
    obtain ⟨t, xs, rfl, e1, l1⟩ := r.t
    rcases sqT_un e1 with (h | ⟨o, h⟩) | ⟨o, its, n, h, hc, _⟩
    · exact .base (.tup h)
    · exact .fTuple h
    · exact .kTuple h hc
  | dict b => cases r
theorem kit_tab {d : D} {t : Ty} (h : noDict d = true) : kitB (tyName d) (tyS t) = some (tyIs d t) := by
  cases d <;> cases t <;> first | (cases h; done) | (simp only [tyName, tyS, tyIs]; decide +kernel)
theorem pe_ty (B : Bl X.mg) {t : Ty} (hg : Gl X (tyN t)) : PE X (.Name (tyN t) p) (tC (.ty (tyS t))) := by
  cases t with
  | int => exact pe_bltn hg B.int (u := .type "int") (by decide +kernel) rfl
  | bool => exact pe_bltn hg B.bool (u := .type "bool") (by decide +kernel) rfl
  | str => exact pe_bltn hg B.str (u := .type "str") (by decide +kernel) rfl
  | list => exact pe_bltn hg B.list (u := .type "list") (by decide +kernel) rfl
  | tuple => exact pe_bltn hg B.tuple (u := .type "tuple") (by decide +kernel) rfl
theorem pd_isi {t : Ty} (B : Bl X.mg) (hg : Gl X "isinstance") (hg2 : Gl X (tyN t)) (ha : PE X a (tD X.K fa)) (hs : starEach [a, .Name (tyN t) p2] X.env = (false, eval a X.env) :: starEach [.Name (tyN t) p2] X.env) :
    PE X (.Call (.Name "isinstance" p) [a, .Name (tyN t) p2] [] pos) (tD X.K fun ρ => (fa ρ).bind fun x => if noDict x then some (.bool (tyIs x t)) else none) := ⟨fun pins s σ H Q I ⟨F, ρ, d, e, hf, q⟩ => by
  obtain ⟨x, h1, hf⟩ := some_bind hf
  split at hf
  · rename_i c
    cases hf
    exact (pe_callB call_isi hg B.isinstance (by decide +kernel) (pa_cons ha (pa_cons (pe_ty B hg2) pa_nil rfl) hs) (he := hs) (hpl := rfl)).run pins s σ H Q I
      ⟨F, ρ, x, e, h1, fun v H1 s1 r1 => ⟨v, _, _, _, _, rfl, .ty _, r1.ty, kit_ty (kit_tab c), q _ _ s1 (.bl _)⟩⟩
  · cases hf⟩
theorem pd_isi2 {t u : Ty} {k : Nat} (B : Bl X.mg) (hg : Gl X "isinstance") (hg2 : Gl X (tyN t)) (hg3 : Gl X (tyN u)) (ha : PE X a (tD X.K fa))
    (hs : starEach [a, .Tuple [.Name (tyN t) p2, .Name (tyN u) p3] k tpos] X.env = (false, eval a X.env) :: starEach [.Tuple [.Name (tyN t) p2, .Name (tyN u) p3] k tpos] X.env) :
    PE X (.Call (.Name "isinstance" p) [a, .Tuple [.Name (tyN t) p2, .Name (tyN u) p3] k tpos] [] pos) (tD X.K fun ρ => (fa ρ).bind fun x => if noDict x then some (.bool (tyIs x t || tyIs x u)) else none) := ⟨fun pins s σ H Q I ⟨F, ρ, d, e, hf, q⟩ => by
  obtain ⟨x, h1, hf⟩ := some_bind hf
  split at hf
  · rename_i c
    cases hf
    refine (pe_callB call_isiT hg B.isinstance (by decide +kernel) (pa_cons ha (pa_cons (pe_tup (pa_cons (pe_ty B hg2) (pa_cons (pe_ty B hg3) pa_nil rfl) rfl)) pa_nil rfl) hs) (he := hs) (hpl := rfl)).run pins s σ H Q I
      ⟨F, ρ, x, e, h1, fun v H1 s1 r1 => ⟨by show 2 ≤ sizeLine; decide, fun l hl => ⟨v, l, _, _, [.type (tyS t), .type (tyS u)], tyIs x t || tyIs x u, rfl, upd_same, .cons (.ty _) (.cons (.ty _) .nil), (r1.up (mask_mono (sb_upd hl))).ty, ?_, q _ _ (s1.trans (sm_upd hl)) (.bl _)⟩⟩⟩
    have k1 := kit_ty (K := X.K) (kit_tab (t := t) c)
    have k2 := kit_ty (K := X.K) (kit_tab (t := u) c)
    refine kitAny_cons k1 (fun z => ?_) (fun z => by rw [z]; rfl)
    rw [z, Bool.false_or]
    exact kitAny_cons k2 (fun z => by rw [z]; exact kitAny_nil) (fun z => z)
  · cases hf⟩
end
/-! ### own defs -/
/-- a def's promise by data -/
def spD (K : PySem.W.Frag) (n : Nat) (g : List D → Option D) : Sp := fun vs H Q _ => vs.length = n ∧ ∃ F ds d, TabP K H ∧ (∀ a ∈ F, Hs H a) ∧ RpL K (mask F H) vs ds ∧ g ds = some d ∧ ∀ v H', Sm K H H' → Rp K (mask F H') v d → Q v H'
/-- the def that the name x stands for -/
structure Cal (X : Cx) (k : Nat) (x : Str) (n : Nat) (g : List D → Option D) : Prop where
  ex : ∃ (f : Addr) (fd : FuncData) (ps : List Str), FnOk X.prog X.w X.K X.mg X.base CX0 k f fd ps (spD X.K n g) ∧ X.mg x = some (.ref f) ∧ PySem.W.keepIn X.K (.ref f) = true ∧ Binds X.K fd ps []
  len : ∀ ds d, g ds = some d → ds.length = n
section
variable {X : Cx} {a b c : Expr} {es : List Expr} {fa fb fc : Rho → Option D} {fs gs : Rho → Option (List D)} {pos p p2 p3 tpos : Pos} {i k n : Nat} {x : Str} {g : List D → Option D}
theorem pd_call (C : Cal X k x n g) (hr : Room k X.A) (hg : Gl X x) (ha : PA X (a :: es) (tDL X.K fs)) (hd : (x == ("__debug__" : Str)) = false) (he : starEach (a :: es) X.env = (false, eval a X.env) :: starEach es X.env) (hpl : (backTo pos (starEach es X.env)).any (·.1) = false) :
    PE X (.Call (.Name x p) (a :: es) [] pos) (tD X.K fun ρ => (fs ρ).bind fun ds => g ds) := ⟨fun pins s σ H Q I ⟨F, ρ, d, e, hf, q⟩ => by
  obtain ⟨ds, h1, hf⟩ := some_bind hf
  obtain ⟨f, fd, ps, hF, hm, hk, hb⟩ := C.ex
  exact (pe_call hF hr hg hm hk hb .nil (pass0 (X := X)) ha hd he hpl).run pins s σ H Q I ⟨F, ρ, ds, e, h1, fun vs H1 s1 r1 => by
    show spD X.K n g (vs ++ []) H1 Q E0
    rw [List.append_nil]
    exact ⟨by rw [r1.len]; exact C.len ds d hf, F, ds, d, (e.ext s1).tab, hid e s1, r1, hf, fun v H2 s2 r2 => q v H2 (s1.trans s2) r2⟩⟩⟩
end
end PV
end
section -- Snd4
/-! What a loop walks; targets; comprehensions. -/
namespace PV
open PySem PySem.Spec L2
open PyProof.Rows hiding St
/-! ### targets -/
mutual
def gOf (K : PySem.W.Frag) : T → TG
  | .one i => gName i
  | .tup ts => gTup K ts.length (gOfs K ts)
def gOfs (K : PySem.W.Frag) : List T → TGs
  | [] => gNil
  | t :: ts => gCons (gOf K t) (gOfs K ts)
end
mutual
def slots : T → List Nat
  | .one i => [i]
  | .tup ts => slotsL ts
def slotsL : List T → List Nat
  | [] => []
  | t :: ts => slots t ++ slotsL ts
end
theorem wipe_get (σ : St) : ∀ (vs : List Nat) (j : Nat), (wipe σ vs)[j]? = if j ∈ vs then (if j < σ.length then some none else none) else σ[j]?
  | [], j => by simp [wipe]
  | v :: vs, j => by
    have ih := wipe_get σ vs j
    unfold wipe
    rw [List.getElem?_set, wipe_length]
    by_cases h : v = j
    · subst h
      simp
    · have h' : j ≠ v := fun e => h e.symm
      rw [if_neg h, ih]
      by_cases h2 : j ∈ vs
      · rw [if_pos h2, if_pos (List.mem_cons_of_mem _ h2)]
      · rw [if_neg h2, if_neg (fun z => (List.mem_cons.mp z).elim h' h2)]
theorem wipe_set {σ : St} {i : Nat} {x : Option V} {vs : List Nat} (h : i ∈ vs) : wipe (σ.set i x) vs = wipe σ vs := by
  apply List.ext_getElem?
  intro j
  rw [wipe_get, wipe_get, List.length_set]
  by_cases hj : j ∈ vs
  · rw [if_pos hj, if_pos hj]
  · rw [if_neg hj, if_neg hj, List.getElem?_set_ne]
    rintro rfl
    exact hj h
theorem wipe_wipe (σ : St) (vs : List Nat) : wipe (wipe σ vs) vs = wipe σ vs := by
  apply List.ext_getElem?
  intro j
  rw [wipe_get, wipe_get, wipe_length]
  by_cases hj : j ∈ vs
  · rw [if_pos hj, if_pos hj]
  · rw [if_neg hj, if_neg hj]
section
variable {K : PySem.W.Frag} {M H : Hp} {O : List Addr}
theorem bindTs_len : ∀ {ts : List T} {ds : List D} {ρ ρ' : Rho}, bindTs ts ds ρ = some ρ' → ds.length = ts.length
  | [], [], _, _, _ => rfl
  | [], _ :: _, _, _, h => by simp [bindTs] at h
  | _ :: _, [], _, _, h => by simp [bindTs] at h
  | t :: ts, d :: ds, ρ, ρ', h => by
    simp only [bindTs] at h
    obtain ⟨ρ1, _, h2⟩ := some_bind h
    rw [List.length_cons, List.length_cons, bindTs_len h2]
mutual
theorem g_ok (hM : Sb M H) : ∀ (t : T) {v : V} {d : D} {ρ ρ' : Rho} {σ : St} {Q : St → Hp → Prop}, Rp K M v d → Sl K M H ρ σ O → bindT t d ρ = some ρ' →
    (∀ σ', Sl K M H ρ' σ' O → (∀ vs, (∀ i ∈ slots t, i ∈ vs) → wipe σ' vs = wipe σ vs) → Q σ' H) → gOf K t v σ H Q
  | .one i, v, d, ρ, ρ', σ, Q, r, h, hb, q => by
    simp only [bindT] at hb
    obtain ⟨_, h4, rfl⟩ := setV_ok hb
    simp only [gOf, gName]
    exact q _ (Sl.setV r h h4) fun vs hv => wipe_set (hv i (by simp [slots]))
  | .tup ts, v, d, ρ, ρ', σ, Q, r, h, hb, q => by
    cases d <;> simp only [bindT] at hb <;> try (cases hb; done)
    obtain ⟨a, xs, rfl, e1, l1⟩ := r.t
    simp only [gOf, gTup]
    exact ⟨a, xs, rfl, hM.seqT e1, by rw [l1.len]; exact bindTs_len hb, gs_ok hM ts l1 h hb fun σ' h1 h2 => q σ' h1 fun vs hv => h2 vs (by simpa [slots] using hv)⟩
theorem gs_ok (hM : Sb M H) : ∀ (ts : List T) {xs : List V} {ds : List D} {ρ ρ' : Rho} {σ : St} {Q : St → Hp → Prop}, RpL K M xs ds → Sl K M H ρ σ O → bindTs ts ds ρ = some ρ' →
    (∀ σ', Sl K M H ρ' σ' O → (∀ vs, (∀ i ∈ slotsL ts, i ∈ vs) → wipe σ' vs = wipe σ vs) → Q σ' H) → gOfs K ts xs σ H Q
  | [], xs, ds, ρ, ρ', σ, Q, l, h, hb, q => by
    cases ds with
    | cons _ _ => simp [bindTs] at hb
    | nil =>
      simp only [bindTs, Option.some.injEq] at hb
      subst hb
      cases l
      show gNil [] σ H Q
      exact ⟨rfl, q σ h fun _ _ => rfl⟩
  | t :: ts, xs, ds, ρ, ρ', σ, Q, l, h, hb, q => by
    cases ds with
    | nil => simp [bindTs] at hb
    | cons d ds =>
      simp only [bindTs] at hb
      obtain ⟨ρ1, h1, h2⟩ := some_bind hb
      cases l with
      | cons r l =>
        simp only [gOfs, gCons]
        refine ⟨_, _, rfl, g_ok hM t r h h1 fun σ1 s1 w1 => gs_ok hM ts l s1 h2 fun σ2 s2 w2 => q σ2 s2 fun vs hv => ?_⟩
        rw [w2 vs fun i hi => hv i (by simp [slotsL, hi]), w1 vs fun i hi => hv i (by simp [slotsL, hi])]
end
end
/-! ### what a loop walks -/
/-- at any heap that keeps M the iterator J gives the data ds, one by one -/
def Wk (K : PySem.W.Frag) (F : List Addr) (M : Hp) (J : It) (ds : List D) : Prop := ∀ H2, Sb M H2 → ∀ i : Nat,
  (∀ d, ds[i]? = some d → J.go i H2 ∧ ∀ x H3, J.yld i H2 x H3 → Sm K H2 H3 ∧ ∀ F' : List Addr, (∀ a ∈ F', a ∈ F ∨ ¬ Hs M a) → (∀ a ∈ F', Hs H2 a) → Rp K (mask F' H3) x d) ∧ (ds.length ≤ i → J.stop i H2)
def tDI (K : PySem.W.Frag) (f : Rho → Option (List D)) : TI := fun σ H R => ∃ F ρ ds, ES K F ρ σ H ∧ f ρ = some ds ∧ ∀ J H1, Sm K H H1 → (∀ O : List Addr, (∀ a ∈ O, a ∈ F) → Wk K F (mask O H1) J ds) → R J H1
def tDIB (K : PySem.W.Frag) (f : Rho → Option (List D)) : TI := fun σ H R => ∃ F ρ ds, ES K F ρ σ H ∧ f ρ = some ds ∧ ∀ J H1, Sm K H H1 → Wk K F H1 J ds → R J H1
theorem mask_nil (H : Hp) : mask [] H = H := funext fun a => mask_out (by simp)
section
variable {K : PySem.W.Frag} {F : List Addr} {M : Hp}
theorem wk_mono {F' : List Addr} {H2 : Hp} {x : V} {d : D} (hs : Sb M H2) (hF : ∀ a ∈ F', a ∈ F ∨ ¬ Hs M a) (r : Rp K (mask F M) x d) : Rp K (mask F' H2) x d := r.up (mask_moreN hs hF)
theorem wk_list {a : Addr} {vs : List V} {ds : List D} (hM : M a = some (.lst vs)) (l : RpL K (mask F M) vs ds) : Wk K F M (Itl K a) ds := fun H2 hs i => by
  have sq : SqL K H2 a vs := .inl (.inl (hs.lst hM))
  refine ⟨fun d hd => ?_, fun hi => ⟨vs, sq, by rw [l.len]; exact hi⟩⟩
  obtain ⟨v, h1, h2⟩ := l.get hd
  refine ⟨⟨vs, v, sq, h1⟩, fun x H3 ⟨e, hy⟩ => ?_⟩
  subst e
  have := hy vs sq
  rw [h1] at this
  cases this
  exact ⟨Sm.refl _, fun F' hF _ => wk_mono hs hF h2⟩
theorem wk_tup {a : Addr} {vs : List V} {ds : List D} (hM : SqT K M a vs) (l : RpL K (mask F M) vs ds) : Wk K F M (Itt K a) ds := fun H2 hs i => by
  have sq : SqT K H2 a vs := hs.seqT hM
  refine ⟨fun d hd => ?_, fun hi => ⟨vs, sq, by rw [l.len]; exact hi⟩⟩
  obtain ⟨v, h1, h2⟩ := l.get hd
  refine ⟨⟨vs, v, sq, h1⟩, fun x H3 ⟨e, hy⟩ => ?_⟩
  subst e
  have := hy vs sq
  rw [h1] at this
  cases this
  exact ⟨Sm.refl _, fun F' hF _ => wk_mono hs hF h2⟩
theorem rangeD_get {m n : Int} {i : Nat} {d : D} (h : (rangeD m n)[i]? = some d) : i < (n - m).toNat ∧ d = .int (m + (i : Nat)) := by
  unfold rangeD at h
  rw [List.getElem?_map] at h
  by_cases hi : i < (n - m).toNat
  · rw [List.getElem?_range hi] at h
    exact ⟨hi, (Option.some.inj h).symm⟩
  · rw [List.getElem?_eq_none (by simpa using Nat.not_lt.mp hi)] at h
    cases h
theorem rangeD_len (m n : Int) : (rangeD m n).length = (n - m).toNat := by
  unfold rangeD
  rw [List.length_map, List.length_range]
theorem wk_rng (m n : Int) : Wk K F M (Itr m (n - m).toNat) (rangeD m n) := fun H2 hs i => by
  refine ⟨fun d hd => ?_, fun hi => by rw [rangeD_len] at hi; exact hi⟩
  obtain ⟨h1, rfl⟩ := rangeD_get hd
  exact ⟨h1, fun x H3 ⟨e, hy⟩ => by
    subst e
    subst hy
    exact ⟨Sm.refl _, fun F' _ _ => .int _⟩⟩
theorem pairs_get : ∀ {as bs : List D} {i : Nat} {d : D}, (pairs as bs)[i]? = some d → ∃ x y, as[i]? = some x ∧ bs[i]? = some y ∧ d = .tuple [x, y]
  | [], _, i, d, h => by simp [pairs] at h
  | _ :: _, [], i, d, h => by simp [pairs] at h
  | a :: as, b :: bs, 0, d, h => by simp [pairs] at h; exact ⟨a, b, rfl, rfl, h.symm⟩
  | a :: as, b :: bs, i + 1, d, h => by
    obtain ⟨x, y, h1, h2, h3⟩ := pairs_get (as := as) (bs := bs) (i := i) (d := d) (by simpa [pairs] using h)
    exact ⟨x, y, by simpa using h1, by simpa using h2, h3⟩
theorem pairs_len : ∀ (as bs : List D), (pairs as bs).length = min as.length bs.length
  | [], bs => by simp [pairs]
  | _ :: _, [] => by simp [pairs]
  | a :: as, b :: bs => by
    simp only [pairs, List.length_cons]
    rw [pairs_len as bs]
    omega
theorem num_get : ∀ {as : List D} {n i : Nat} {d : D}, (numbered n as)[i]? = some d → ∃ x, as[i]? = some x ∧ d = .tuple [.int ((n + i : Nat) : Int), x]
  | [], n, i, d, h => by simp [numbered] at h
  | a :: as, n, 0, d, h => by simp [numbered] at h; exact ⟨a, rfl, h.symm⟩
  | a :: as, n, i + 1, d, h => by
    obtain ⟨x, h1, h2⟩ := num_get (as := as) (n := n + 1) (i := i) (d := d) (by simpa [numbered] using h)
    exact ⟨x, by simpa using h1, by rw [h2, show n + 1 + i = n + (i + 1) by omega]⟩
theorem num_len : ∀ (as : List D) (n : Nat), (numbered n as).length = as.length
  | [], _ => rfl
  | a :: as, n => by simp only [numbered, List.length_cons]; rw [num_len as]
/-- a new pair at each turn -/
theorem wk_pair {F' : List Addr} {H2 : Hp} {t : Addr} {x y : V} {dx dy : D} (hs : Sb M H2) (hF : ∀ a ∈ F', a ∈ F ∨ ¬ Hs M a) (hd : ∀ a ∈ F', Hs H2 a) (ht : H2 t = none) (rx : Rp K (mask F M) x dx) (ry : Rp K (mask F M) y dy) :
    Rp K (mask F' (upd H2 t (.tup [x, y]))) (.ref t) (.tuple [dx, dy]) := rp_tup hd ht (.cons (wk_mono hs hF rx) (.cons (wk_mono hs hF ry) .nil))
theorem wk_zipL {a b : Addr} {vs us : List V} {as bs : List D} (ha : M a = some (.lst vs)) (hb : M b = some (.lst us)) (l1 : RpL K (mask F M) vs as) (l2 : RpL K (mask F M) us bs) : Wk K F M (Itz K a b) (pairs as bs) := fun H2 hs i => by
  have sa : SqL K H2 a vs := .inl (.inl (hs.lst ha))
  have sb : SqL K H2 b us := .inl (.inl (hs.lst hb))
  refine ⟨fun d hd => ?_, fun hi => ⟨vs, us, sa, sb, by rw [l1.len, l2.len]; rw [pairs_len] at hi; omega⟩⟩
  obtain ⟨x, y, h1, h2, rfl⟩ := pairs_get hd
  obtain ⟨v, g1, g2⟩ := l1.get h1
  obtain ⟨u, g3, g4⟩ := l2.get h2
  refine ⟨⟨vs, us, v, u, sa, sb, g1, g3⟩, fun x' H3 ⟨t, x1, y1, e1, ht, e2, f1, f2⟩ => ?_⟩
  have e3 := f1 vs sa
  have e4 := f2 us sb
  rw [g1] at e3
  rw [g3] at e4
  cases e3
  cases e4
  subst e1
  subst e2
  exact ⟨sm_upd ht, fun F' hF hd => wk_pair hs hF hd ht g2 g4⟩
theorem wk_zipT {a b : Addr} {vs us : List V} {as bs : List D} (ha : SqT K M a vs) (hb : SqT K M b us) (l1 : RpL K (mask F M) vs as) (l2 : RpL K (mask F M) us bs) : Wk K F M (RZ.ItzT K a b) (pairs as bs) := fun H2 hs i => by
  have sa : SqT K H2 a vs := hs.seqT ha
  have sb : SqT K H2 b us := hs.seqT hb
  refine ⟨fun d hd => ?_, fun hi => ⟨vs, us, sa, sb, by rw [l1.len, l2.len]; rw [pairs_len] at hi; omega⟩⟩
  obtain ⟨x, y, h1, h2, rfl⟩ := pairs_get hd
  obtain ⟨v, g1, g2⟩ := l1.get h1
  obtain ⟨u, g3, g4⟩ := l2.get h2
  refine ⟨⟨vs, us, v, u, sa, sb, g1, g3⟩, fun x' H3 ⟨t, x1, y1, e1, ht, e2, f1, f2⟩ => ?_⟩
  have e3 := f1 vs sa
  have e4 := f2 us sb
  rw [g1] at e3
  rw [g3] at e4
  cases e3
  cases e4
  subst e1
  subst e2
  exact ⟨sm_upd ht, fun F' hF hd => wk_pair hs hF hd ht g2 g4⟩
theorem wk_enumL {a : Addr} {vs : List V} {as : List D} (ha : M a = some (.lst vs)) (l1 : RpL K (mask F M) vs as) : Wk K F M (Ite K a) (numbered 0 as) := fun H2 hs i => by
  have sa : SqL K H2 a vs := .inl (.inl (hs.lst ha))
  refine ⟨fun d hd => ?_, fun hi => ⟨vs, sa, by rw [l1.len, ← num_len as 0]; exact hi⟩⟩
  obtain ⟨x, h1, rfl⟩ := num_get hd
  obtain ⟨v, g1, g2⟩ := l1.get h1
  refine ⟨⟨vs, v, sa, g1⟩, fun x' H3 ⟨t, x1, e1, ht, e2, f1⟩ => ?_⟩
  have e3 := f1 vs sa
  rw [g1] at e3
  cases e3
  subst e1
  subst e2
  rw [Nat.zero_add]
  exact ⟨sm_upd ht, fun F' hF hd => wk_pair hs hF hd ht (.int _) g2⟩
theorem wk_enumT {a : Addr} {vs : List V} {as : List D} (ha : SqT K M a vs) (l1 : RpL K (mask F M) vs as) : Wk K F M (IteT K a) (numbered 0 as) := fun H2 hs i => by
  have sa : SqT K H2 a vs := hs.seqT ha
  refine ⟨fun d hd => ?_, fun hi => ⟨vs, sa, by rw [l1.len, ← num_len as 0]; exact hi⟩⟩
  obtain ⟨x, h1, rfl⟩ := num_get hd
  obtain ⟨v, g1, g2⟩ := l1.get h1
  refine ⟨⟨vs, v, sa, g1⟩, fun x' H3 ⟨t, x1, e1, ht, e2, f1⟩ => ?_⟩
  have e3 := f1 vs sa
  rw [g1] at e3
  cases e3
  subst e1
  subst e2
  rw [Nat.zero_add]
  exact ⟨sm_upd ht, fun F' hF hd => wk_pair hs hF hd ht (.int _) g2⟩
/-- hiding what is hidden already -/
theorem mask_mask {O : List Addr} {H : Hp} (hO : ∀ a ∈ O, a ∈ F) : mask F (mask O H) = mask F H := funext fun a => by
  by_cases h : a ∈ F
  · rw [mask_in h, mask_in h]
  · rw [mask_out h, mask_out h, mask_out fun z => h (hO a z)]
theorem mask_keep {O : List Addr} {H : Hp} (hO : ∀ a ∈ O, a ∈ F) {a : Addr} {o : HO} (h : mask F H a = some o) : mask O H a = some o := by
  obtain ⟨h1, h2⟩ := mask_some h
  rw [mask_out fun z => h1 (hO a z), h2]
theorem mask_kp {O : List Addr} {H : Hp} (hO : ∀ a ∈ O, a ∈ F) : Sb (mask F H) (mask O H) := mask_less hO
end
theorem pid_B {X : Cx} {tg iter : Expr} {f : Rho → Option (List D)} (h : PI X tg iter (tDI X.K f)) : PI X tg iter (tDIB X.K f) := ⟨fun pins s σ H R I ⟨F, ρ, ds, e, hf, q⟩ =>
  h.run pins s σ H R I ⟨F, ρ, ds, e, hf, fun J H1 s1 wk => q J H1 s1 (by have := wk [] (fun _ z => nomatch z); rw [mask_nil] at this; exact this)⟩⟩
section
variable {X : Cx} {tg a b : Expr} {fa fb : Rho → Option D} {pos p tpos : Pos} {elts : List Expr} {kk : Nat}
theorem pid_e (ha : PE X a (tD X.K fa)) : PI X tg a (tDI X.K fun ρ => (fa ρ).bind itemsOf) := ⟨fun pins s σ H R I ⟨F, ρ, ds, e, hf, q⟩ => by
  obtain ⟨x, h1, hf⟩ := some_bind hf
  cases x <;> simp only [itemsOf] at hf <;> cases hf
  · refine (pi_list ha).run pins s σ H R I ⟨F, ρ, _, e, h1, fun v H1 s1 r1 => ?_⟩
    obtain ⟨t, vs, rfl, e1, l1⟩ := r1.l
    refine ⟨t, rfl, ⟨vs, .inl (.inl ((mask_same _ _).lst e1))⟩, q _ _ s1 fun O hO => ?_⟩
    refine wk_list (mask_keep hO e1) ?_
    rw [mask_mask hO]
    exact l1
  · refine (pi_tup ha).run pins s σ H R I ⟨F, ρ, _, e, h1, fun v H1 s1 r1 => ?_⟩
    obtain ⟨t, vs, rfl, e1, l1⟩ := r1.t
    refine ⟨t, rfl, ⟨vs, sqT_un e1⟩, q _ _ s1 fun O hO => ?_⟩
    refine wk_tup ((mask_kp hO).seqT e1) ?_
    rw [mask_mask hO]
    exact l1⟩
theorem pid_eB (ha : PE X a (tDB X.K fa)) : PI X tg a (tDIB X.K fun ρ => (fa ρ).bind itemsOf) := ⟨fun pins s σ H R I ⟨F, ρ, ds, e, hf, q⟩ => by
  obtain ⟨x, h1, hf⟩ := some_bind hf
  cases x <;> simp only [itemsOf] at hf <;> cases hf
  · refine (pi_list ha).run pins s σ H R I ⟨F, ρ, _, e, h1, fun v H1 s1 r1 => ?_⟩
    obtain ⟨t, vs, rfl, e1, l1⟩ := r1.l
    exact ⟨t, rfl, ⟨vs, .inl (.inl e1)⟩, q _ _ s1 (wk_list e1 l1)⟩
  · refine (pi_tup ha).run pins s σ H R I ⟨F, ρ, _, e, h1, fun v H1 s1 r1 => ?_⟩
    obtain ⟨t, vs, rfl, e1, l1⟩ := r1.t
    exact ⟨t, rfl, ⟨vs, sqT_un e1⟩, q _ _ s1 (wk_tup (sqT_un e1) l1)⟩⟩
theorem rangeD0 (n : Int) : (n - 0).toNat = n.toNat := by rw [Int.sub_zero]
theorem pid_rng1 (B : Bl X.mg) (hg : Gl X "range") (ha : PE X a (tD X.K fa)) (hs : starEach [a] X.env = (false, eval a X.env) :: starEach [] X.env) :
    PI X tg (.Call (.Name "range" p) [a] [] pos) (tDI X.K fun ρ => (((fa ρ).bind intO).bind fun n => if okR 0 n then some (PyData.list (rangeD 0 n)) else none).bind itemsOf) := ⟨fun pins s σ H R I ⟨F, ρ, ds, e, hf, q⟩ => by
  obtain ⟨x, h0, hf⟩ := some_bind hf
  obtain ⟨n, h1, h2⟩ := some_bind h0
  split at h2
  · rename_i c
    cases h2
    cases hf
    obtain ⟨_, _, c1, c2⟩ := okR_some c
    refine (pi_range1 hg B.range (pa_cons ha pa_nil hs) hs).run pins s σ H R I ⟨F, ρ, _, e, intO_some h1, fun v H1 s1 r1 => ⟨n, by rw [r1.i], by omega, by omega, q _ _ s1 fun O hO => ?_⟩⟩
    have := wk_rng (K := X.K) (F := F) (M := mask O H1) 0 n
    rw [rangeD0] at this
    exact this
  · cases h2⟩
theorem pid_rng2 (B : Bl X.mg) (hg : Gl X "range") (ha : PE X a (tD X.K fa)) (hb : PE X b (tD X.K fb)) (hs : starEach [a, b] X.env = (false, eval a X.env) :: starEach [b] X.env) (hs2 : starEach [b] X.env = (false, eval b X.env) :: starEach [] X.env) :
    PI X tg (.Call (.Name "range" p) [a, b] [] pos) (tDI X.K fun ρ => (((fa ρ).bind intO).bind fun m => ((fb ρ).bind intO).bind fun n => if okR m n then some (PyData.list (rangeD m n)) else none).bind itemsOf) := ⟨fun pins s σ H R I ⟨F, ρ, ds, e, hf, q⟩ => by
  obtain ⟨x, h0, hf⟩ := some_bind hf
  obtain ⟨m, h1, h3⟩ := some_bind h0
  obtain ⟨n, h2, h3⟩ := some_bind h3
  split at h3
  · rename_i c
    cases h3
    cases hf
    obtain ⟨c3, c4, c1, c2⟩ := okR_some c
    exact (pi_range2 hg B.range (pa_cons ha (pa_cons hb pa_nil hs2) hs) (by rw [hs, hs2]; rfl) hs2).run pins s σ H R I ⟨F, ρ, _, e, intO_some h1, fun v H1 s1 r1 => ⟨F, ρ, _, e.ext s1, intO_some h2, fun u H2 s2 r2 =>
      ⟨m, n, by rw [r1.i, r2.i], ⟨by omega, by omega, by omega, by omega⟩, q _ _ (s1.trans s2) fun O hO => wk_rng m n⟩⟩⟩
  · cases h3⟩
theorem pid_zip (B : Bl X.mg) (hg : Gl X "zip") (ha : PE X a (tD X.K fa)) (hb : PE X b (tD X.K fb)) (hs : starEach [a, b] X.env = (false, eval a X.env) :: starEach [b] X.env) (hs2 : starEach [b] X.env = (false, eval b X.env) :: starEach [] X.env) :
    PI X (.Tuple elts kk tpos) (.Call (.Name "zip" p) [a, b] [] pos) (tDI X.K fun ρ => ((fa ρ).bind fun x => (fb ρ).bind fun y => zipF x y).bind itemsOf) := ⟨fun pins s σ H R I ⟨F, ρ, ds, e, hf, q⟩ => by
  obtain ⟨z, h0, hf⟩ := some_bind hf
  obtain ⟨x, h1, h3⟩ := some_bind h0
  obtain ⟨y, h2, h3⟩ := some_bind h3
  have P := RZ.pi_zipA (tpos := tpos) (elts := elts) (kk := kk) (p := p) (pos := pos) hg B.zip (pa_cons ha (pa_cons hb pa_nil hs2) hs) hs (star2 hs hs2)
  cases x <;> cases y <;> simp only [zipF] at h3 <;> try (cases h3; done)
  · cases h3
    cases hf
    refine P.run pins s σ H R I ⟨F, ρ, _, e, h1, fun v H1 s1 r1 => ⟨F, ρ, _, e.ext s1, h2, fun u H2 s2 r2 => ?_⟩⟩
    obtain ⟨t, vs, rfl, e1, l1⟩ := (r1.up (mm s2)).l
    obtain ⟨t', us, rfl, e2, l2⟩ := r2.l
    refine ⟨t, t', vs, us, rfl, .inl ⟨.inl (.inl ((mask_same _ _).lst e1)), .inl (.inl ((mask_same _ _).lst e2)), q _ _ (s1.trans s2) fun O hO => ?_⟩⟩
    refine wk_zipL (mask_keep hO e1) (mask_keep hO e2) ?_ ?_
    · rw [mask_mask hO]; exact l1
    · rw [mask_mask hO]; exact l2
  · cases h3
    cases hf
    refine P.run pins s σ H R I ⟨F, ρ, _, e, h1, fun v H1 s1 r1 => ⟨F, ρ, _, e.ext s1, h2, fun u H2 s2 r2 => ?_⟩⟩
    obtain ⟨t, vs, rfl, e1, l1⟩ := (r1.up (mm s2)).t
    obtain ⟨t', us, rfl, e2, l2⟩ := r2.t
    refine ⟨t, t', vs, us, rfl, .inr ⟨sqT_un e1, sqT_un e2, q _ _ (s1.trans s2) fun O hO => ?_⟩⟩
    refine wk_zipT ((mask_kp hO).seqT e1) ((mask_kp hO).seqT e2) ?_ ?_
    · rw [mask_mask hO]; exact l1
    · rw [mask_mask hO]; exact l2⟩
theorem pid_enum (B : Bl X.mg) (hg : Gl X "enumerate") (ha : PE X a (tD X.K fa)) (hs : starEach [a] X.env = (false, eval a X.env) :: starEach [] X.env) :
    PI X (.Tuple elts kk tpos) (.Call (.Name "enumerate" p) [a] [] pos) (tDI X.K fun ρ => (((fa ρ).bind itemsOf).bind fun ds => some (PyData.list (numbered 0 ds))).bind itemsOf) := ⟨fun pins s σ H R I ⟨F, ρ, ds, e, hf, q⟩ => by
  obtain ⟨z, h0, hf⟩ := some_bind hf
  obtain ⟨y, h0', h3⟩ := some_bind h0
  obtain ⟨x, h1, h2⟩ := some_bind h0'
  cases h3
  cases hf
  cases x <;> simp only [itemsOf] at h2 <;> cases h2
  · refine (pi_enum hg B.enumerate (pa_cons ha pa_nil hs) hs).run pins s σ H R I ⟨F, ρ, _, e, h1, fun v H1 s1 r1 => ?_⟩
    obtain ⟨t, vs, rfl, e1, l1⟩ := r1.l
    refine ⟨t, vs, rfl, .inl (.inl ((mask_same _ _).lst e1)), q _ _ s1 fun O hO => ?_⟩
    refine wk_enumL (mask_keep hO e1) ?_
    rw [mask_mask hO]
    exact l1
  · refine (pi_enumT hg B.enumerate (pa_cons ha pa_nil hs) hs).run pins s σ H R I ⟨F, ρ, _, e, h1, fun v H1 s1 r1 => ?_⟩
    obtain ⟨t, vs, rfl, e1, l1⟩ := r1.t
    refine ⟨t, vs, rfl, sqT_un e1, q _ _ s1 fun O hO => ?_⟩
    refine wk_enumT ((mask_kp hO).seqT e1) ?_
    rw [mask_mask hO]
    exact l1⟩
theorem pid_enumB (B : Bl X.mg) (hg : Gl X "enumerate") (ha : PE X a (tDB X.K fa)) (hs : starEach [a] X.env = (false, eval a X.env) :: starEach [] X.env) :
    PI X (.Tuple elts kk tpos) (.Call (.Name "enumerate" p) [a] [] pos) (tDIB X.K fun ρ => (((fa ρ).bind itemsOf).bind fun ds => some (PyData.list (numbered 0 ds))).bind itemsOf) := ⟨fun pins s σ H R I ⟨F, ρ, ds, e, hf, q⟩ => by
  obtain ⟨z, h0, hf⟩ := some_bind hf
  obtain ⟨y, h0', h3⟩ := some_bind h0
  obtain ⟨x, h1, h2⟩ := some_bind h0'
  cases h3
  cases hf
  cases x <;> simp only [itemsOf] at h2 <;> cases h2
  · refine (pi_enum hg B.enumerate (pa_cons ha pa_nil hs) hs).run pins s σ H R I ⟨F, ρ, _, e, h1, fun v H1 s1 r1 => ?_⟩
    obtain ⟨t, vs, rfl, e1, l1⟩ := r1.l
    exact ⟨t, vs, rfl, .inl (.inl e1), q _ _ s1 (wk_enumL e1 l1)⟩
  · refine (pi_enumT hg B.enumerate (pa_cons ha pa_nil hs) hs).run pins s σ H R I ⟨F, ρ, _, e, h1, fun v H1 s1 r1 => ?_⟩
    obtain ⟨t, vs, rfl, e1, l1⟩ := r1.t
    exact ⟨t, vs, rfl, sqT_un e1, q _ _ s1 (wk_enumT (sqT_un e1) l1)⟩⟩
end
end PV
end
section -- Snd5
/-! Comprehensions. -/
namespace PV
open PySem PySem.Spec L2
open PyProof.Rows hiding St
theorem mapO_get {α β : Type} {f : α → Option β} : ∀ {xs : List α} {ys : List β}, mapO f xs = some ys → ys.length = xs.length ∧ ∀ (i : Nat) (x : α), xs[i]? = some x → ∃ y, ys[i]? = some y ∧ f x = some y
  | [], ys, h => by
    simp only [mapO, Option.some.injEq] at h
    subst h
    exact ⟨rfl, fun i x hx => by simp at hx⟩
  | x :: xs, ys, h => by
    simp only [mapO] at h
    obtain ⟨y, h1, h⟩ := some_bind h
    obtain ⟨zs, h2, h⟩ := some_bind h
    cases h
    obtain ⟨l, g⟩ := mapO_get h2
    refine ⟨by rw [List.length_cons, List.length_cons, l], fun i z hz => ?_⟩
    cases i with
    | zero =>
      simp at hz
      subst hz
      exact ⟨y, rfl, h1⟩
    | succ i =>
      obtain ⟨w, g1, g2⟩ := g i z (by simpa using hz)
      exact ⟨w, by simpa using g1, g2⟩
theorem take_succ_get {α : Type} {l : List α} {i : Nat} {x : α} (h : l[i]? = some x) : l.take (i + 1) = l.take i ++ [x] := by
  rw [List.take_add_one, h]
  rfl
theorem flat_take_le (rs : List (List D)) (i : Nat) : (rs.take i).flatten.length ≤ rs.flatten.length := by
  conv => rhs; rw [← List.take_append_drop i rs]
  rw [List.flatten_append, List.length_append]
  omega
/-- the tests of a clause: left out, or one -/
def tDQ (K : PySem.W.Frag) (f : Rho → Option (Option D)) : TT := fun σ H Q => ∃ F ρ b, ES K F ρ σ H ∧ ((f ρ = none ∧ b = true) ∨ f ρ = some (some (.bool b))) ∧ ∀ H', Sm K H H' → Q b H'
theorem ptq_nil {X : Cx} : PTs X [] (tDQ X.K fun _ => none) := ⟨fun pins s σ H Q I ⟨F, ρ, b, e, hf, q⟩ => by
  rcases hf with ⟨_, rfl⟩ | hf
  · exact pts_nil.run pins s σ H Q I (q H (Sm.refl H))
  · cases hf⟩
theorem ptq_one {X : Cx} {c : Expr} {fc : Rho → Option D} (h : PT X c (tDT X.K fc)) : PTs X [c] (tDQ X.K fun ρ => some (fc ρ)) := ⟨fun pins s σ H Q I ⟨F, ρ, b, e, hf, q⟩ => by
  rcases hf with ⟨hf, _⟩ | hf
  · cases hf
  · exact (pts_one h).run pins s σ H Q I ⟨F, ρ, b, e, Option.some.inj hf, q⟩⟩
theorem under_some {t : Option (Option D)} {k : Option (List D)} {r : List D} (h : under t k = some r) : (∃ b, ((t = none ∧ b = true) ∨ t = some (some (.bool b))) ∧ ((b = true ∧ k = some r) ∨ (b = false ∧ r = []))) := by
  cases t with
  | none => exact ⟨true, .inl ⟨rfl, rfl⟩, .inl ⟨rfl, h⟩⟩
  | some t =>
    simp only [under] at h
    obtain ⟨b, h1, h2⟩ := some_bind h
    have h1 := boolO_some h1
    refine ⟨b, .inr (by rw [h1]), ?_⟩
    cases b with
    | true => exact .inl ⟨rfl, by simpa using h2⟩
    | false => exact .inr ⟨rfl, by simpa using h2.symm⟩
theorem one1_some {r : Option D} {l : List D} (h : one1 r = some l) : ∃ d, r = some d ∧ l = [d] := by
  obtain ⟨d, h1, h2⟩ := some_bind h
  cases h2
  exact ⟨d, h1, rfl⟩
section
variable {K : PySem.W.Frag} {F : List Addr} {D0 : Addr} {H H1 : Hp}
/-- the list that a comprehension makes grows -/
theorem sb_grow (hn : H1 D0 = none) (s : Sb H1 H) {o : HO} : Sb H1 (upd H D0 o) := by
  refine ⟨fun a x n e => ?_⟩
  rw [upd_ne (ne_of_none e hn)]
  exact s.at_ a x n e
theorem sm_grow (hn : H1 D0 = none) (s : Sm K H1 H) {xs ys : List V} (h : H D0 = some (.lst xs)) : Sm K H1 (upd H D0 (.lst ys)) := ⟨sb_grow hn s.b, fun t => tab_lst h (s.t t)⟩
theorem mask_grow {G : List Addr} (h : D0 ∈ G) {o : HO} : mask G (upd H D0 o) = mask G H := funext fun a => by
  by_cases z : a ∈ G
  · rw [mask_in z, mask_in z]
  · rw [mask_out z, mask_out z, upd_ne]
    rintro rfl
    exact z h
end
theorem ES.hideO {K : PySem.W.Frag} {F : List Addr} {ρ : Rho} {σ : St} {H H' : Hp} (e : ES K F ρ σ H) {D : Addr} (s : Sm K H H') (hn : H D = none) (hD : Hs H' D) (vs : List Nat) :
    (∀ a ∈ D :: F, Hs H' a) ∧ ∃ O, Sl K (mask (D :: F) H') H' (wipeC ρ vs) (L2.wipe σ vs) O ∧ ∀ p ∈ O, p ∈ F := by
  refine ⟨(e.hide s hn hD).dom, ?_⟩
  obtain ⟨h1, ⟨O, h2, h3⟩, _⟩ := e
  have h4 : Sl K (mask (D :: F) H') H' ρ σ O := Sl.step (mask_more s.b fun a ha => by
    rcases List.mem_cons.mp ha with rfl | ha
    · exact .inr hn
    · exact .inl ha) (fun p _ vs e => s.b.lst e) h2
  obtain ⟨O', h5, h6⟩ := h4.wipe vs
  exact ⟨O', h5, fun p hp => h3 p (h6.subset hp)⟩
/-- a new list -/
def tDN (K : PySem.W.Frag) (f : Rho → Option D) : TE := fun σ H Q => ∃ F ρ d, ES K F ρ σ H ∧ f ρ = some d ∧ ∀ (p : Addr) vs ds H', d = .list ds → Sm K H H' → ¬ Hs H p → H' p = some (.lst vs) → RpL K (mask (p :: F) H') vs ds → Q (.ref p) H'
theorem tD_N {K : PySem.W.Frag} {f : Rho → Option D} {σ : St} {H : Hp} {Q : VK} (h : tD K f σ H Q) : tDN K f σ H Q := by
  obtain ⟨F, ρ, d, e, hf, q⟩ := h
  refine ⟨F, ρ, d, e, hf, fun p vs ds H' ed s hn hp r => q _ _ s ?_⟩
  subst ed
  exact .lst (by rw [mask_out fun z => hn (e.dom p z)]; exact hp) (r.up (mask_less fun a ha => List.mem_cons_of_mem _ ha))
theorem pn_d {X : Cx} {e : Expr} {f : Rho → Option D} (h : PE X e (tDN X.K f)) : PE X e (tD X.K f) := ⟨fun pins s σ H Q I q => h.run pins s σ H Q I (tD_N q)⟩
section
variable {X : Cx} {elt tg iter tg1 iter1 : Expr} {ifs ifs1 : List Expr} {scope : Scope} {own : List (Str × Nat)} {vs1 : List Nat} {pos : Pos} {t t1 : T} {fi fi1 : Rho → Option (List D)} {fq : Rho → Option (Option D)} {fe : Rho → Option D}
theorem lc_readN {K : PySem.W.Frag} {σ : St} {H : Hp} {Q : VK} (hsl : ∀ i ∈ slots t, i ∈ own.map (·.2))
    (h : tDN K (fun ρ => (fi ρ).bind fun ds => (mapO (fun d => (bindT t d (wipeC ρ (own.map (·.2)))).bind fun ρ' => under (fq ρ') (one1 (fe ρ'))) ds).bind fun rs => okL rs.flatten) σ H Q) :
    tLc (tDIB K fi) (gOf K t) (tDQ K fq) (tD K fe) (own.map (·.2)) σ H Q := by
  obtain ⟨F, ρ, d, e, hf, q⟩ := h
  obtain ⟨ds, hi, hf⟩ := some_bind hf
  obtain ⟨rs, hm, hf⟩ := some_bind hf
  obtain ⟨rfl, hl, hl5⟩ := okL_some hf
  obtain ⟨lr, gr⟩ := mapO_get hm
  refine ⟨F, ρ, ds, e, hi, fun J H1 s1 wk D hD => ?_⟩
  have e1 := e.ext s1
  have hDF : D ∉ F := fun z => (e1.dom D z).ne hD
  refine ⟨fun i m H2 => i + m = ds.length ∧ ∃ acc, H2 D = some (.lst acc) ∧ RpL K (mask (D :: F) H2) acc (rs.take i).flatten ∧ Sm K H1 H2, ⟨ds.length, by omega, [], upd_same, .nil, sm_upd hD⟩, fun i m H2 hW => ?_⟩
  obtain ⟨him, acc, hacc, racc, s2⟩ := hW
  by_cases hi' : i < ds.length
  · have hd := List.getElem?_eq_getElem hi'
    obtain ⟨r, hr, hstep⟩ := gr i _ hd
    obtain ⟨ρ', hb, hu⟩ := some_bind hstep
    obtain ⟨b, hq, hk⟩ := under_some hu
    refine .inr ⟨((wk H2 s2.b i).1 _ hd).1, fun H' => (i + 1) + (m - 1) = ds.length ∧ ∃ acc, H' D = some (.lst acc) ∧ RpL K (mask (D :: F) H') acc (rs.take (i + 1)).flatten ∧ Sm K H1 H', fun H' hN => ⟨m - 1, by omega, hN⟩, fun x H3 hy => ?_⟩
    obtain ⟨s3, rx⟩ := ((wk H2 s2.b i).1 _ hd).2 x H3 hy
    have hD2 : Hs H2 D := .l hacc
    have rx' : Rp K (mask (D :: F) H3) x ds[i] := rx (D :: F) (fun a ha => by
      rcases List.mem_cons.mp ha with rfl | ha
      · exact .inr fun z => z.ne hD
      · exact .inl ha) (fun a ha => by
      rcases List.mem_cons.mp ha with rfl | ha
      · exact hD2
      · exact (e1.ext s2).dom a ha)
    have hD3 : H3 D = some (.lst acc) := s3.b.lst hacc
    obtain ⟨hF, O, hsl0, hO⟩ := e1.hideO (s2.trans s3) hD (.l hD3) (own.map (·.2))
    refine g_ok (mask_same _ _) t rx' hsl0 hb fun σ' hs' hw => ⟨by rw [hw _ hsl, wipe_wipe], ?_⟩
    have e3 : ES K (D :: F) ρ' σ' H3 := ⟨hF, ⟨O, hs', fun p hp => List.mem_cons_of_mem _ (hO p hp)⟩, (e1.ext (s2.trans s3)).tab⟩
    refine ⟨D :: F, ρ', b, e3, hq, fun H4 s4 => ?_⟩
    have hgo : ∀ H5, Sm K H3 H5 → (i + 1) + (m - 1) = ds.length ∧ H5 D = some (.lst acc) ∧ RpL K (mask (D :: F) H5) acc (rs.take i).flatten ∧ Sm K H1 H5 := fun H5 s5 =>
      ⟨by omega, s5.b.lst hD3, racc.up (mm (s3.trans s5)), (s2.trans s3).trans s5⟩
    rcases hk with ⟨rfl, hk⟩ | ⟨rfl, rfl⟩
    · refine iteT ?_
      obtain ⟨y, hy', rfl⟩ := one1_some hk
      refine ⟨D :: F, ρ', y, e3.ext s4, hy', fun v H5 s5 rv => ?_⟩
      obtain ⟨a1, a2, a3, a4⟩ := hgo H5 (s4.trans s5)
      refine ⟨acc, a2, ?_, a1, acc ++ [v], upd_same, ?_, sm_grow hD a4 a2⟩
      · rw [a3.len]
        exact Nat.lt_of_le_of_lt (Nat.le_trans (flat_take_le rs i) hl5) (by decide)
      · rw [mask_grow List.mem_cons_self, take_succ_get hr, List.flatten_append]
        exact a3.app (by simpa using RpL.cons rv .nil)
    · refine iteF ?_
      obtain ⟨a1, a2, a3, a4⟩ := hgo H4 s4
      refine ⟨a1, acc, a2, ?_, a4⟩
      rw [take_succ_get hr, List.flatten_append]
      simpa using a3
  · rw [List.take_of_length_le (by omega)] at racc
    exact .inl ⟨(wk H2 s2.b i).2 (by omega), q _ _ _ _ rfl (s1.trans s2) (fun z => (s1.b.dom D z).ne hD) hacc racc⟩
theorem lc2_readN {K : PySem.W.Frag} {σ : St} {H : Hp} {Q : VK} (hsl : ∀ i ∈ slots t, i ∈ own.map (·.2)) (hsl1 : ∀ i ∈ slots t1, i ∈ vs1)
    (h : tDN K (fun ρ => (fi ρ).bind fun ds => (mapO (fun d => (bindT t d (wipeC ρ (own.map (·.2)))).bind fun ρ' => (fi1 ρ').bind fun es =>
      (mapO (fun e => (bindT t1 e (wipeC ρ' vs1)).bind fun ρ'' => under (fq ρ'') (one1 (fe ρ''))) es).bind fun rs => some rs.flatten) ds).bind fun rs => okL rs.flatten) σ H Q) :
    tLc2 (tDIB K fi) (gOf K t) tYes (tDI K fi1) (gOf K t1) (tDQ K fq) (tD K fe) (own.map (·.2)) vs1 σ H Q := by
  obtain ⟨F, ρ, d, e, hf, q⟩ := h
  obtain ⟨ds, hi, hf⟩ := some_bind hf
  obtain ⟨rs, hm, hf⟩ := some_bind hf
  obtain ⟨rfl, hl, hl5⟩ := okL_some hf
  obtain ⟨lr, gr⟩ := mapO_get hm
  refine ⟨F, ρ, ds, e, hi, fun J H1 s1 wk D hD => ?_⟩
  have e1 := e.ext s1
  have hDF : D ∉ F := fun z => (e1.dom D z).ne hD
  refine ⟨fun i m H2 => i + m = ds.length ∧ ∃ acc, H2 D = some (.lst acc) ∧ RpL K (mask (D :: F) H2) acc (rs.take i).flatten ∧ Sm K H1 H2, ⟨ds.length, by omega, [], upd_same, .nil, sm_upd hD⟩, fun i m H2 hW => ?_⟩
  obtain ⟨him, acc, hacc, racc, s2⟩ := hW
  by_cases hi' : i < ds.length
  · have hd := List.getElem?_eq_getElem hi'
    obtain ⟨r, hr, hstep⟩ := gr i _ hd
    obtain ⟨ρ', hb, hu⟩ := some_bind hstep
    obtain ⟨es, hes, hu⟩ := some_bind hu
    obtain ⟨qs, hqs, hu⟩ := some_bind hu
    cases hu
    obtain ⟨lq, gq⟩ := mapO_get hqs
    refine .inr ⟨((wk H2 s2.b i).1 _ hd).1, fun H' => (i + 1) + (m - 1) = ds.length ∧ ∃ acc, H' D = some (.lst acc) ∧ RpL K (mask (D :: F) H') acc (rs.take (i + 1)).flatten ∧ Sm K H1 H', fun H' hN => ⟨m - 1, by omega, hN⟩, fun x H3 hy => ?_⟩
    obtain ⟨s3, rx⟩ := ((wk H2 s2.b i).1 _ hd).2 x H3 hy
    have hD2 : Hs H2 D := .l hacc
    have rx' : Rp K (mask (D :: F) H3) x ds[i] := rx (D :: F) (fun a ha => by
      rcases List.mem_cons.mp ha with rfl | ha
      · exact .inr fun z => z.ne hD
      · exact .inl ha) (fun a ha => by
      rcases List.mem_cons.mp ha with rfl | ha
      · exact hD2
      · exact (e1.ext s2).dom a ha)
    have hD3 : H3 D = some (.lst acc) := s3.b.lst hacc
    obtain ⟨hF, O, hsl0, hO⟩ := e1.hideO (s2.trans s3) hD (.l hD3) (own.map (·.2))
    refine g_ok (mask_same _ _) t rx' hsl0 hb fun σ' hs' hw => ⟨by rw [hw _ hsl, wipe_wipe], ?_⟩
    have e3 : ES K (D :: F) ρ' σ' H3 := ⟨hF, ⟨O, hs', fun p hp => List.mem_cons_of_mem _ (hO p hp)⟩, (e1.ext (s2.trans s3)).tab⟩
    unfold tYes
    refine iteT ?_
    refine ⟨D :: F, ρ', es, e3, hes, fun J1 H4 s4 wk1 => ?_⟩
    have hD4 : H4 D = some (.lst acc) := s4.b.lst hD3
    have t4 : TabP K H4 := (e3.ext s4).tab
    have W1 := wk1 [D] (fun a ha => by rw [List.mem_singleton.mp ha]; exact List.mem_cons_self)
    have hm1 : mask [D] H4 D = none := mask_in (by simp)
    have s14 : Sb H1 (mask [D] H4) := by
      have := mask_more (F := []) (G := [D]) ((s2.trans s3).trans s4).b (fun a ha => .inr (by rw [List.mem_singleton.mp ha]; exact hD))
      rw [mask_nil] at this
      exact this
    refine ⟨fun j k H5 => j + k = es.length ∧ ∃ acc, H5 D = some (.lst acc) ∧ RpL K (mask (D :: F) H5) acc ((rs.take i).flatten ++ (qs.take j).flatten) ∧ Sb (mask [D] H4) H5 ∧ TabP K H5, ⟨es.length, by omega, acc, hD4, by simpa using racc.up (mm (s3.trans s4)), mask_same _ _, t4⟩, fun j k H5 hW1 => ?_⟩
    obtain ⟨hjk, acc5, hacc5, racc5, s5, t5⟩ := hW1
    by_cases hj : j < es.length
    · have hd1 := List.getElem?_eq_getElem hj
      obtain ⟨r1, hr1, hstep1⟩ := gq j _ hd1
      obtain ⟨ρ2, hb1, hu1⟩ := some_bind hstep1
      obtain ⟨b, hq, hk⟩ := under_some hu1
      refine .inr ⟨((W1 H5 s5 j).1 _ hd1).1, fun H' => (j + 1) + (k - 1) = es.length ∧ ∃ acc, H' D = some (.lst acc) ∧ RpL K (mask (D :: F) H') acc ((rs.take i).flatten ++ (qs.take (j + 1)).flatten) ∧ Sb (mask [D] H4) H' ∧ TabP K H', fun H' hN => ⟨k - 1, by omega, hN⟩, fun x1 H6 hy1 => ?_⟩
      obtain ⟨s6, rx1⟩ := ((W1 H5 s5 j).1 _ hd1).2 x1 H6 hy1
      have hD5 : Hs H5 D := .l hacc5
      have hF5 : ∀ a ∈ D :: F, Hs H5 a := fun a ha => by
        rcases List.mem_cons.mp ha with rfl | ha
        · exact hD5
        · exact s5.dom a (s14.dom a (e1.dom a ha))
      have rx1' : Rp K (mask (D :: F) H6) x1 es[j] := rx1 (D :: F) (fun a ha => .inl ha) hF5
      have hD6 : H6 D = some (.lst acc5) := s6.b.lst hacc5
      have e6 : ES K (D :: F) ρ' σ' H6 := by
        refine ⟨fun a ha => s6.b.dom a (hF5 a ha), ⟨O, Sl.step ?_ (fun p hp o ep => ?_) hs', fun p hp => List.mem_cons_of_mem _ (hO p hp)⟩, s6.t t5⟩
        · have h1 : Sb (mask (D :: F) H3) (mask (D :: F) (mask [D] H4)) := by
            rw [mask_mask (F := D :: F) (O := [D]) (fun a ha => by rw [List.mem_singleton.mp ha]; exact List.mem_cons_self)]
            exact mm s4
          exact h1.trans (mask_mono (s5.trans s6.b))
        · refine s6.b.lst (s5.lst ?_)
          rw [mask_out (fun z => hDF (by rw [← List.mem_singleton.mp z]; exact hO p hp))]
          exact s4.b.lst ep
      obtain ⟨hF6, ⟨O6, hsl6, hO6⟩, t6⟩ := e6.wipe vs1
      refine g_ok (mask_same _ _) t1 rx1' hsl6 hb1 fun σ2 hs2 hw2 => ⟨by rw [hw2 _ hsl1, wipe_wipe], ?_⟩
      have e7 : ES K (D :: F) ρ2 σ2 H6 := ⟨hF6, ⟨O6, hs2, hO6⟩, t6⟩
      refine ⟨D :: F, ρ2, b, e7, hq, fun H7 s7 => ?_⟩
      have hgo : ∀ H8, Sm K H6 H8 → (j + 1) + (k - 1) = es.length ∧ H8 D = some (.lst acc5) ∧ RpL K (mask (D :: F) H8) acc5 ((rs.take i).flatten ++ (qs.take j).flatten) ∧ Sb (mask [D] H4) H8 ∧ TabP K H8 := fun H8 s8 =>
        ⟨by omega, s8.b.lst hD6, racc5.up (mm (s6.trans s8)), (s5.trans s6.b).trans s8.b, s8.t t6⟩
      rcases hk with ⟨rfl, hk⟩ | ⟨rfl, rfl⟩
      · refine iteT ?_
        obtain ⟨y, hy', rfl⟩ := one1_some hk
        refine ⟨D :: F, ρ2, y, e7.ext s7, hy', fun v H8 s8 rv => ?_⟩
        obtain ⟨a1, a2, a3, a4⟩ := hgo H8 (s7.trans s8)
        refine ⟨acc5, a2, ?_, a1, acc5 ++ [v], upd_same, ?_, sb_grow hm1 a4.1, tab_lst a2 a4.2⟩
        · rw [a3.len]
          have g1 := flat_take_le rs (i + 1)
          rw [take_succ_get hr, List.flatten_append, List.length_append] at g1
          have g2 := flat_take_le qs j
          rw [List.length_append]
          have g3 : [qs.flatten].flatten.length = qs.flatten.length := by simp
          exact Nat.lt_of_le_of_lt (show _ ≤ 5000 by omega) (by decide)
        · rw [mask_grow List.mem_cons_self, take_succ_get hr1, List.flatten_append, ← List.append_assoc]
          exact a3.app (by simpa using RpL.cons rv .nil)
      · refine iteF ?_
        obtain ⟨a1, a2, a3, a4⟩ := hgo H7 s7
        refine ⟨a1, acc5, a2, ?_, a4⟩
        rw [take_succ_get hr1, List.flatten_append]
        simpa using a3
    · refine .inl ⟨(W1 H5 s5 j).2 (by omega), by omega, acc5, hacc5, ?_, ⟨s14.trans s5, fun _ => t5⟩⟩
      have hqj : qs.take j = qs := List.take_of_length_le (by omega)
      rw [hqj] at racc5
      rw [take_succ_get hr, List.flatten_append]
      simpa using racc5
  · rw [List.take_of_length_le (by omega)] at racc
    exact .inl ⟨(wk H2 s2.b i).2 (by omega), q _ _ _ _ rfl (s1.trans s2) (fun z => (s1.b.dom D z).ne hD) hacc racc⟩
theorem pd_lc (hc : X.calm = true) (hN : X.N.Nodup) (ok : BlkOk X.N X.env.scope scope own) (hi : PI X tg iter (tDIB X.K fi))
    (hg : ∀ (s : Shared) (H : Hp) (C : Addr) (cl : List (Str × Addr)) (fp : List Addr), PG (X.blk s H scope (compEnvC scope cl C X.env) fp) tg (gOf X.K t))
    (ht : ∀ (s : Shared) (H : Hp) (C : Addr) (cl : List (Str × Addr)) (fp : List Addr), PTs (X.blk s H scope (compEnvC scope cl C X.env) fp) ifs (tDQ X.K fq))
    (he : ∀ (s : Shared) (H : Hp) (C : Addr) (cl : List (Str × Addr)) (fp : List Addr), PE (X.blk s H scope (compEnvC scope cl C X.env) fp) elt (tD X.K fe))
    (hs : ∀ x, foldedSetIterable iter X.env x = pure x) (hsl : ∀ i ∈ slots t, i ∈ own.map (·.2)) :
    PE X (.ListComp elt [⟨tg, iter, ifs, 0⟩] scope pos) (tD X.K (fun ρ => (fi ρ).bind fun ds => (mapO (fun d => (bindT t d (wipeC ρ (own.map (·.2)))).bind fun ρ' => under (fq ρ') (one1 (fe ρ'))) ds).bind fun rs => okL rs.flatten)) :=
  ⟨fun pins s σ H Q I h => (pe_lc hc hN hi ok hg ht he hs).run pins s σ H Q I (lc_readN hsl (tD_N h))⟩
theorem pd_lc2 (hc : X.calm = true) (hN : X.N.Nodup) (ok : BlkOk X.N X.env.scope scope own) (hv : ∀ i ∈ vs1, i ∈ own.map (·.2)) (hi : PI X tg iter (tDIB X.K fi))
    (hg : ∀ (s : Shared) (H : Hp) (C : Addr) (cl : List (Str × Addr)) (fp : List Addr), PG (X.blk s H scope (compEnvC scope cl C X.env) fp) tg (gOf X.K t))
    (hi1 : ∀ (s : Shared) (H : Hp) (C : Addr) (cl : List (Str × Addr)) (fp : List Addr), PI (X.blk s H scope (compEnvC scope cl C X.env) fp) tg1 iter1 (tDI X.K fi1))
    (hg1 : ∀ (s : Shared) (H : Hp) (C : Addr) (cl : List (Str × Addr)) (fp : List Addr), PG (X.blk s H scope (compEnvC scope cl C X.env) fp) tg1 (gOf X.K t1))
    (ht1 : ∀ (s : Shared) (H : Hp) (C : Addr) (cl : List (Str × Addr)) (fp : List Addr), PTs (X.blk s H scope (compEnvC scope cl C X.env) fp) ifs1 (tDQ X.K fq))
    (he : ∀ (s : Shared) (H : Hp) (C : Addr) (cl : List (Str × Addr)) (fp : List Addr), PE (X.blk s H scope (compEnvC scope cl C X.env) fp) elt (tD X.K fe))
    (hs : ∀ x, foldedSetIterable iter X.env x = pure x) (hs1 : ∀ env x, foldedSetIterable iter1 env x = pure x) (hsl : ∀ i ∈ slots t, i ∈ own.map (·.2)) (hsl1 : ∀ i ∈ slots t1, i ∈ vs1) :
    PE X (.ListComp elt [⟨tg, iter, [], 0⟩, ⟨tg1, iter1, ifs1, 0⟩] scope pos) (tD X.K (fun ρ => (fi ρ).bind fun ds => (mapO (fun d => (bindT t d (wipeC ρ (own.map (·.2)))).bind fun ρ' => (fi1 ρ').bind fun es =>
      (mapO (fun e => (bindT t1 e (wipeC ρ' vs1)).bind fun ρ'' => under (fq ρ'') (one1 (fe ρ''))) es).bind fun rs => some rs.flatten) ds).bind fun rs => okL rs.flatten)) :=
  ⟨fun pins s σ H Q I h => (pe_lc2 hc hN hi ok hv hg (fun _ _ _ _ _ => pts_nil) hi1 hg1 ht1 he hs hs1).run pins s σ H Q I (lc2_readN hsl hsl1 (tD_N h))⟩
end
end PV
end
section -- SetI
/-! set(xs), xs a list of ints. -/
namespace L2
open PySem PySem.Spec PyProof.Rows
section
variable {P : Program} {w : World} {A : Around} {E : Value → Shared → Prop} {s : Shared}
/-- the empty set's object -/
abbrev eS (w : World) : Obj := { cls := .type "set", dict := none, data := .set #[] 0 (.fresh 0 0 (!w.params.followText "set-order")) }
theorem set_of_ints {xs : Addr} {its : Array Value} (zs : List Int) {Q : Value → Shared → Prop} (nh : A.handled = none) (li : s.heap.IsList xs its) (iz : IntsAre its.toList zs) (few : zs.length + 1 < scanBound)
    (q : ∀ (h' : Heap) (tk c : Nat), SetR w h' s.heap.objs.size (fun j => decide (j ∈ zs)) c → c ≤ zs.length → (∀ b o, s.heap.get? b = some o → h'.get? b = some o) → Q (.ref s.heap.objs.size) { s with heap := h', toks := tk }) :
    wpAny (model P w) A (call (.type "set") [.ref xs]) Q E s := by
  have sz : its.size = zs.length := by
    have l := IntsAre.length iz
    rwa [Array.length_toList] at l
  obtain ⟨k0, k1, k2⟩ := F.called_set.mro
  have k3 := F.called_set.made
  have k4 := F.called_set.sub
  have k5 := F.called_set.notType
  have k6 := F.called_set.canCreate
  have k7 := F.typeCall_set_1 (.ref xs)
  apply wpAny_call; apply codeAny_of_tree
  show wpAny _ _ (callAny (.type "set") _) _ _ _
  refine wpAny_pure ⟨Code.quiet_builtin _ (by decide +kernel), codeAny_builtin F.entry_type_call ?_⟩; rw [Around.under_plain (weight_type_call_type "set" [.ref xs] []) rfl]
  repeat (any_goals (first | assumption | wp_step))
  refine codeAny_mono (code_set_led1 (.ref xs) (E := E) (Q₁ := fun v t => v = .ref s.heap.objs.size ∧ t = { s with heap := s.heap.push (eS w) }) ⟨rfl, rfl⟩) fun r t hr => ?_
  cases r with
  | error e => exact hr
  | ok fl =>
    cases fl with
    | ret v =>
      obtain ⟨rfl, rfl⟩ := hr
      have there : (s.heap.push (eS w)).get? s.heap.objs.size = some (eS w) := Heap.get?_push_size _ rfl
      have ty : Shared.TypeIs { s with heap := s.heap.push (eS w) } (.ref s.heap.objs.size) "set" := ⟨_, there, rfl⟩
      have k8 := F.called_set.init.lookup
      have k9 := F.called_set.init.bind (.ref s.heap.objs.size)
      repeat (any_goals (first | assumption | wp_step))
      refine codeAny_mono (codeAny_call_builtin (R := wants (fun r t2 => r = .none ∧ ∃ h' tk c, t2 = { s with heap := h', toks := tk } ∧ SetR w h' s.heap.objs.size (fun j => decide (j ∈ zs)) c ∧ c ≤ zs.length ∧ ∀ b o, s.heap.get? b = some o → h'.get? b = some o) E) F.called_set.init.plain F.entry_set_init (check_set_init_1 ty ?_)) fun r2 t2 hr2 => ?_
      · obtain ⟨⟨lc, ld, la, ls⟩, gl, cl, n, dl⟩ := li
        simp only at cl dl; subst cl; subst dl
        have gl2 : (s.heap.push (eS w)).get? xs = some { cls := .type "list", dict := ld, data := .seq its n, slots := ls } := Heap.get?_push_of_some _ gl
        have m1 := F.sub_list_set
        have m2 := F.sub_list_frozenset
        have m3 : (Value.type "list" == Value.type "dict") = false := by decide
        have li1 : (s.heap.push (eS w)).IsList xs its := ⟨_, gl2, rfl, n, rfl⟩
        unfold Builtin.«set.__init__» noKeywords Builtin.Frozenset.updateFrom; generalize hPI : pyIter = PI
        wp_walk
        subst hPI
        refine wpAny_pyIter_list li1 ?_; refine wpAny_bind (wpAny_runValue ?_)
        have lt : xs < s.heap.objs.size := Heap.lt_size gl
        have nh3 : A.in1.in1.in1.handled = none := by simp [nh]
        have psz : (s.heap.push (eS w)).objs.size = s.heap.objs.size + 1 := Heap.size_push ..
        have ne1 : xs ≠ (s.heap.push (eS w)).objs.size := by rw [psz]; exact Nat.ne_of_lt (Nat.lt_succ_of_lt lt)
        have off : s.heap.objs.size ∉ [(s.heap.push (eS w)).objs.size, xs] := fun z => by
          rw [psz] at z; rcases List.mem_cons.mp z with z | z
          · exact absurd z (Nat.ne_of_lt (Nat.lt_succ_self _))
          · exact absurd (List.mem_singleton.mp z) (Nat.ne_of_gt lt)
        have val : ∀ (i : Nat) (v : Value), its[i]? = some v → ∃ k t, zs[i]? = some k ∧ v = .int k t := fun i v hv => by
          have hi : i < zs.length := by rw [← sz]; exact (Array.getElem?_eq_some_iff.mp hv).1
          obtain ⟨t, e⟩ := PyProof.Rows.IntsAre.int_at iz i v (by rw [Array.getElem?_toList]; exact hv)
          exact ⟨zs[i], t, List.getElem?_eq_getElem hi, by rw [e, List.getD_eq_getElem?_getD, List.getElem?_eq_getElem hi] <;> rfl⟩
        refine set_update_ints ((Walks.list nh3 _ xs ne1 its).toS) s.heap.objs.size off zs sz few val (its.size - 0) 0 _ (by omega) (Nat.zero_le _) ⟨⟨_, Heap.get?_push_size _ rfl, rfl, rfl⟩, (li1.push _)⟩ ?start ?fin
        case start => exact ⟨0, Nat.le_refl 0, setR_new_at (Heap.get?_push_of_some _ there)⟩
        case fin =>
          rintro ⟨h', g2, d', tk', os'⟩ c' hm hc' hS'
          have e1 : g2 = s.gens := hm.gens
          have e2 : d' = s.drawn := hm.drawn
          have e3 : os' = s.os := hm.os
          subst e1; subst e2; subst e3
          show wpAny _ _ _ _ _ _
          refine wpAny_pure ?_; show wpAny _ _ (ret Value.none) _ _ _
          rw [sz] at hc'
          refine wpAny_pure ⟨rfl, h', tk', c', rfl, hS', hc', fun b o e => hm.heap b o (fun z => ?_) (Heap.get?_push_of_some _ (Heap.get?_push_of_some _ e))⟩
          have l0 : b < s.heap.objs.size := Heap.lt_size e
          rcases List.mem_cons.mp z with z | z
          · exact absurd z (Nat.ne_of_lt l0)
          · have z := List.mem_singleton.mp z
            rw [psz] at z; exact absurd z (Nat.ne_of_lt (Nat.lt_succ_of_lt l0))
      · cases r2 with
        | error e => exact hr2
        | ok fl2 =>
          cases fl2 with
          | ret r =>
            obtain ⟨rfl, h', tk, c', rfl, y1, y2, y3⟩ := hr2
            repeat (any_goals (first | assumption | wp_step))
            exact q _ _ _ y1 y2 y3
          | _ => exact hr2.elim
    | _ => exact hr.elim
end
section
variable {X : Cx}
/-- set(xs), xs a list or a tuple of ints -/
def rSetI (K : PySem.W.Frag) (w : World) : List V → Hp → VK → Prop := fun xs H Q => ∃ (a : Addr) (zs : List Int), xs = [V.ref a] ∧ (SqL K H a (zs.map V.int) ∨ SqT K H a (zs.map V.int)) ∧ zs.length < 63 ∧
  ∀ p c, H p = none → c ≤ zs.length → Q (.ref p) (upd H p (SetO w p (fun j => decide (j ∈ zs)) c))
theorem cr_setI (hc : X.calm = true) : CallR X (.type "set") (rSetI X.K X.w) := by
  intro pins s σ H xs us Q I r ⟨a, zs, e, hs, few, q⟩
  subst e
  rw [Vals.ref1 r]
  have fin : ∀ (h' : Heap) (tk c : Nat), SetR X.w h' s.heap.objs.size (fun j => decide (j ∈ zs)) c → c ≤ zs.length → (∀ b o, s.heap.get? b = some o → h'.get? b = some o) → EP X pins σ Q (.ref s.heap.objs.size) { s with heap := h', toks := tk } := fun h' tk c hR hc k =>
    ⟨.ref s.heap.objs.size, _, I.laid (t' := tk) k (Nat.le_refl _) (setO_new hR), rfl, q _ _ (I.hok.fresh (Nat.le_refl _)) hc⟩
  have sb : zs.length + 1 < scanBound := Nat.lt_of_lt_of_le (show zs.length + 1 < 64 by omega) (by decide)
  rcases hs with hs | hs
  · obtain ⟨its, rv, pl, hz⟩ := I.list hs
    exact set_of_ints zs (I.ok.hd hc) pl.isList (by simpa using rv.ints) sb fin
  · obtain ⟨its, rv, pl, hz⟩ := I.tuple hs
    exact call_set_tupI zs (I.ok.hd hc) pl (by simpa using rv.ints) sb fin
end
end L2
end
section -- Srt1
/-! Sorting, part 1: the law of isort; sorted without a key. -/
namespace PV
open PySem PySem.Spec L2
open PyProof.Rows hiding St
open PySem.W (EachIs dataLt alike AllAlike SortsAt dataKind)
/-! ### isort is the stable sort -/
section
variable {α β : Type}
theorem ins_split {lt : α → α → Bool} {a : α} : ∀ {l₁ l₂ : List α}, (∀ b ∈ l₁, lt b a = true) → (∀ b ∈ l₂, lt b a = false) → ins lt a (l₁ ++ l₂) = l₁ ++ a :: l₂
  | [], [], _, _ => rfl
  | [], b :: l, _, h => by
    show (if lt b a then b :: ins lt a l else a :: b :: l) = _
    rw [h b List.mem_cons_self]
    rfl
  | b :: l₁, l₂, h1, h2 => by
    show (if lt b a then b :: ins lt a (l₁ ++ l₂) else a :: b :: (l₁ ++ l₂)) = _
    rw [h1 b List.mem_cons_self, if_pos rfl, ins_split (fun c hc => h1 c (List.mem_cons_of_mem _ hc)) h2]
    rfl
theorem isort_merge {lt : α → α → Bool} (tr : ∀ a b c, lt b a = false → lt c b = false → lt c a = false) (as : ∀ a b, lt a b = true → lt b a = false) : ∀ l : List α, l.mergeSort (fun a b => !lt b a) = isort lt l
  | [] => by simp [isort, List.mergeSort]
  | a :: l => by
    have trans : ∀ (a b c : α), (!lt b a) = true → (!lt c b) = true → (!lt c a) = true := fun a b c h1 h2 => by
      simp only [Bool.not_eq_true'] at h1 h2 ⊢
      exact tr a b c h1 h2
    have total : ∀ (a b : α), ((!lt b a) || (!lt a b)) = true := fun a b => by
      cases h : lt a b with
      | true => rw [as a b h]; rfl
      | false => simp
    obtain ⟨l₁, l₂, h1, h2, h3⟩ := List.mergeSort_cons (le := fun a b => !lt b a) trans total a l
    have ih := isort_merge tr as l
    have sd := List.pairwise_mergeSort (le := fun a b => !lt b a) trans total (a :: l)
    rw [h1] at sd
    have sd2 := (List.pairwise_append.mp sd).2.1
    have h4 : ∀ b ∈ l₂, lt b a = false := fun b hb => by
      have := (List.pairwise_cons.mp sd2).1 b hb
      simpa using this
    have h5 : ∀ b ∈ l₁, lt b a = true := fun b hb => by
      have := h3 b hb
      simpa using this
    rw [h1]
    show _ = ins lt a (isort lt l)
    rw [← ih, h2, ins_split h5 h4]
end
section
variable {K : PySem.W.Frag} {M : Hp}
theorem dataLt_as (a b : D) (h : dataLt a b = true) : dataLt b a = false := by
  unfold dataLt at *
  cases e : PyProof.Rows.lexLt itemOrd (W.keyToks b) (W.keyToks a) with
  | false => rfl
  | true =>
    have := lex_trans _ _ _ h e
    rw [lex_irrefl] at this
    cases this
theorem dataLt_tr (a b c : D) (h1 : dataLt b a = false) (h2 : dataLt c b = false) : dataLt c a = false := by
  unfold dataLt at *
  cases e : PyProof.Rows.lexLt itemOrd (W.keyToks c) (W.keyToks a) with
  | false => rfl
  | true =>
    rcases (listOrd itemOrd).negTrans (W.keyToks c) (W.keyToks b) (W.keyToks a) e with z | z
    · exact absurd z (by rw [show (listOrd itemOrd).blt (W.keyToks c) (W.keyToks b) = _ from h2]; simp)
    · exact absurd z (by rw [show (listOrd itemOrd).blt (W.keyToks b) (W.keyToks a) = _ from h1]; simp)
theorem merge_data {β : Type} (k : β → D) (l : List β) : l.mergeSort (W.dataLe false k) = isort (fun a b => dataLt (k a) (k b)) l := by
  have e : W.dataLe false k = fun a b => !dataLt (k b) (k a) := rfl
  rw [e]
  exact isort_merge (lt := fun a b => dataLt (k a) (k b)) (fun a b c h1 h2 => dataLt_tr _ _ _ h1 h2) (fun a b h => dataLt_as _ _ h) l
/-! ### lists of values, what they stand for -/
/-- u stands for d -/
def Vd (K : PySem.W.Frag) (M : Hp) (u : Value) (d : D) : Prop := ∃ v, RelV v u ∧ Rp K M v d
theorem rpl_each : ∀ {vs : List V} {us : List Value} {ds : List D}, RpL K M vs ds → Vals vs us → EachIs (Vd K M) us ds
  | _, _, _, .nil, r => by cases r; exact .nil
  | _, _, _, .cons a b, r => by
    cases r with
    | cons r1 r2 => exact .cons ⟨_, r1, a⟩ (rpl_each b r2)
theorem each_rpl : ∀ {us : List Value} {ds : List D}, EachIs (Vd K M) us ds → ∃ vs, Vals vs us ∧ RpL K M vs ds
  | _, _, .nil => ⟨[], .nil, .nil⟩
  | _, _, .cons ⟨v, r, a⟩ t => by
    obtain ⟨vs, h1, h2⟩ := each_rpl t
    exact ⟨v :: vs, .cons r h1, .cons a h2⟩
theorem Vd.up {M' : Hp} {u : Value} {d : D} (h : Vd K M u d) (s : Sb M M') : Vd K M' u d := by
  obtain ⟨v, r, a⟩ := h
  exact ⟨v, r, a.up s⟩
theorem each_up {M' : Hp} {us : List Value} {ds : List D} (h : EachIs (Vd K M) us ds) (s : Sb M M') : EachIs (Vd K M') us ds := h.mono fun _ _ z => z.up s
end
theorem sortOk_some {ds : List D} (h : sortOk ds = true) : AllAlike ds ∧ W.Sortable ds ∧ (∀ d ∈ ds, d.depth ≤ 60) ∧ ds.length ≤ 5000 := by
  simp only [sortOk, Bool.and_eq_true] at h
  obtain ⟨⟨⟨h1, h2⟩, h3⟩, h4⟩ := h
  refine ⟨fun d hd e he => List.all_eq_true.mp (List.all_eq_true.mp h1 d hd) e he, ?_, fun d hd => Nat.ble_eq.mp (List.all_eq_true.mp h3 d hd), small_le h4⟩
  rcases Bool.or_eq_true_iff.mp h2 with h2 | h2
  · refine .inl fun d hd => ?_
    have := List.all_eq_true.mp h2 d hd
    cases d with
    | tuple xs =>
      cases xs with
      | nil => cases this
      | cons x r => exact ⟨x, r, rfl⟩
    | _ => cases this
  · refine .inr fun d hd => ?_
    have := List.all_eq_true.mp h2 d hd
    cases d with
    | tuple xs => cases this
    | none => cases this
    | _ => exact ⟨by simp, fun xs => by simp⟩
section
variable {X : Cx} {pins : List (Addr × Obj)} {σ : St} {H : Hp} {s : Shared} {F : List Addr}
/-- values that stand for data read as these -/
theorem Vd.reads (I : Inv X pins σ H s) {u : Value} {d : D} (h : Vd X.K (mask F H) u d) : ∃ as, Reads s.heap u d as := by
  obtain ⟨v, r, a⟩ := h
  exact Dp.reads I d v u a.toD r
theorem each_reads (I : Inv X pins σ H s) {us : List Value} {ds : List D} (h : EachIs (Vd X.K (mask F H)) us ds) : EachIs (fun v d => ∃ as, Reads s.heap v d as) us ds := h.mono fun _ _ z => z.reads I
theorem sorts_data (I : Inv X pins σ H s) {us : List Value} {ds : List D} {A : Around} (h : EachIs (Vd X.K (mask F H)) us ds) (ok : sortOk ds = true) (hu : A.units + 61 < cLine) : SortsAt X.prog X.w A s (dataKind s.heap ds) us := by
  obtain ⟨h1, h2, h3, _⟩ := sortOk_some ok
  exact SortsAt.data (each_reads I h) h1 h2 fun d hd => by have := h3 d hd; omega
theorem len_of_each {α β : Type} {R : α → β → Prop} {as : List α} {bs : List β} (h : EachIs R as bs) : as.length = bs.length := h.length
/-- sorted(xs) -/
theorem cr_sortD (hu : X.A.units + 65 < cLine) : CallR X (.builtin "sorted") (rOne X.K fun d => match d with
    | .list ds => if sortOk ds then some (.list (isort dataLt ds)) else none
    | _ => none) := by
  intro pins s σ H xs us Q I rv ⟨F, x, d, v, e, hT, hF, r, hg, q⟩
  subst e
  cases x <;> simp only at hg <;> try (cases hg; done)
  rename_i ds
  split at hg <;> try (cases hg; done)
  rename_i ok
  cases hg
  obtain ⟨t, vs, rfl, e1, l1⟩ := r.l
  obtain ⟨its, rv2, hl, hz⟩ := I.list (X := X) (a := t) (xs := vs) (.inl (.inl e1))
  rw [Vals.ref1 rv]
  have hlen : its.length = ds.length := by rw [← rv2.length]; exact l1.len
  have hE : EachIs (Vd X.K (mask F H)) its ds := rpl_each l1 rv2
  have kp : ∀ b o, s.heap.get? b = some o → (W.sortingHeap (W.copyHeap s.heap its) (s.heap.objs.size + 1) its).get? b = some o := fun b o e =>
    W.sortingHeap_old (Nat.ne_of_lt (Nat.lt_succ_of_lt (Heap.lt_size e))) (W.copyHeap_old e)
  have I2 : Inv X pins σ H { s with heap := W.sortingHeap (W.copyHeap s.heap its) (s.heap.objs.size + 1) its } := I.kept (t' := s.toks) kp
  have S := sorts_data (A := X.A.in1.in1) I2 hE ok (show X.A.units + 1 + 1 + 61 < cLine by omega)
  refine W.sorted_vals hl.isList S (by rw [← rv2.length]; exact hz) ?_
  obtain ⟨h1, _, _, _⟩ := sortOk_some ok
  have hR : EachIs (Vd X.K (mask F H)) (W.sortVals (dataKind (W.sortingHeap (W.copyHeap s.heap its) (s.heap.objs.size + 1) its) ds) false its its) (ds.mergeSort (W.dataLe false fun d => d)) :=
    W.sortVals_each (κ := dataKind (W.sortingHeap (W.copyHeap s.heap its) (s.heap.objs.size + 1) its) ds) (fun d => W.keyToks d) hE (W.each_keys h1 (each_reads I2 hE))
  rw [merge_data (fun d : D => d) ds] at hR
  obtain ⟨ws, w1, w2⟩ := each_rpl hR
  obtain ⟨ep, he'⟩ := PyProof.Rows.sortedAll_at s.heap its (W.sortVals (dataKind (W.sortingHeap (W.copyHeap s.heap its) (s.heap.objs.size + 1) its) ds) false its its).toArray
  have hwl : ws.length ≤ sizeLine := by
    rw [w1.length, W.sortVals_length false rfl, ← rv2.length]
    exact hz
  have hn : H (s.heap.objs.size + 1) = none := I.hok.fresh (Nat.le_succ _)
  exact ⟨.ref _, upd H (s.heap.objs.size + 1) (.lst ws), I.laid (t' := s.toks) (fun _ _ => PyProof.Rows.sortedAll_old) (Nat.le_succ _) ⟨hwl, _, ep, w1, he'⟩, rfl, q _ _ (sm_upd hn) (rp_lst hF hn w2)⟩
end
end PV
end
section -- Srt2
/-! Sorting, part 2: sorted with a key. -/
namespace PV
open PySem PySem.Spec L2
open PyProof.Rows hiding St
open PySem.W (EachIs dataLt alike AllAlike SortsAt dataKind)
/-- where the keys are asked for -/
abbrev X2 (X : Cx) : Cx := { X with A := X.A.in1.in1, xe := fun _ _ => False }
section
variable {X : Cx} {pins : List (Addr × Obj)} {σ : St} {H H' : Hp} {s : Shared} {F : List Addr}
theorem inv2 (I : Inv X pins σ H s) : Inv (X2 X) pins σ H s := by
  have ok := I.ok
  exact ⟨⟨ok.mod, ok.kind, ok.glob, ok.blt, ok.above, ok.inj, ok.has, ok.cab, ok.hd, ok.frames, ok.stk, ok.exf, ok.bs, ok.bsz, ok.noex, ok.exfs, ok.funs, ok.frf⟩, I.os, I.bare, I.base, I.loc, I.cell, I.free, I.freeC, I.pin, I.hok, I.len⟩
theorem inv2_back (I : Inv (X2 X) pins σ H s) : Inv X pins σ H s := by
  have ok := I.ok
  exact ⟨⟨ok.mod, ok.kind, ok.glob, ok.blt, ok.above, ok.inj, ok.has, ok.cab, ok.hd, ok.frames, ok.stk, ok.exf, ok.bs, ok.bsz, ok.noex, ok.exfs, ok.funs, ok.frf⟩, I.os, I.bare, I.base, I.loc, I.cell, I.free, I.freeC, I.pin, I.hok, I.len⟩
/-- the i-th call gives the i-th key -/
def Turns (X : Cx) (f : Value) (F : List Addr) (σ : St) (us : List Value) (kz : List D) (H0 : Hp) (pins0 : List (Addr × Obj)) : Prop :=
  ∀ (i : Nat) (u : Value) (k : D), us[i]? = some u → kz[i]? = some k → ∀ (pins : List (Addr × Obj)) (s : Shared) (H : Hp), Inv (X2 X) pins σ H s → (∀ p ∈ pins0, p ∈ pins) → Sm X.K H0 H →
    ∀ Q : VK, (∀ v' H', Sm X.K H H' → Rp X.K (mask F H') v' k → Q v' H') → wpAny (model X.prog X.w) X.A.in1.in1 (call f [u]) (EP (X2 X) pins σ Q) (fun _ _ => False) s
theorem fp_up {b : Addr} (f : FpOk X pins H b) (h : H' b = none) : FpOk X pins H' b := ⟨h, f.2⟩
theorem fp_pin {b : Addr} {p : Addr × Obj} (f : FpOk X pins H b) (h : p.1 ≠ b) : FpOk X (p :: pins) H b := by
  obtain ⟨h0, h1, h2, h3, h4, h5⟩ := f
  refine ⟨h0, h1, h2, h3, h4, fun q hq => ?_⟩
  rcases List.mem_append.mp hq with z | z
  · exact h5 q (List.mem_append_left _ z)
  · rcases List.mem_cons.mp z with rfl | z
    · exact h
    · exact h5 q (List.mem_append_right _ z)
theorem list_nocell {xs : Array Value} {n : Nat} (v : Option Value) : (seqObj "list" xs n).data ≠ .cell v := fun z => by cases z
/-- a list of ours that is pinned is written -/
theorem pin_write {kS : Addr} {oa ob : Obj} {h' : Heap} {t' : Nat} (I : Inv X ((kS, oa) :: pins) σ H s) (f : FpOk X pins H kS) (hs : Heap.SameBut kS s.heap h') (hg : h'.get? kS = some ob) (hd : ∀ v, ob.data ≠ .cell v) : Inv X ((kS, ob) :: pins) σ H { s with heap := h', toks := t' } := by
  have pk := I.pin (kS, oa) (List.mem_append_right _ List.mem_cons_self)
  have I1 : Inv X pins σ H s := I.pins_of fun p hp => I.pin p (List.mem_append_right _ (List.mem_cons_of_mem _ hp))
  have I2 : Inv X pins σ H { s with heap := h', toks := t' } := I1.turned (fun b o hb e => (hs.2 b hb).trans e) f.1 f.2.1 f.2.2.2.1 f.2.2.2.2.1 f.2.2.2.2.2
  refine I2.pins_of fun p hp => ?_
  rcases List.mem_cons.mp hp with rfl | hp
  · exact ⟨hg, pk.2.1, pk.2.2.1, pk.2.2.2.1, hd⟩
  · exact I2.pin p (List.mem_append_right _ hp)
theorem unpin1 {p : Addr × Obj} (I : Inv X (p :: pins) σ H s) : Inv X pins σ H s := I.pins_of fun q hq => I.pin q (List.mem_append_right _ (List.mem_cons_of_mem _ hq))
theorem pin_swap {p q : Addr × Obj} (I : Inv X (p :: q :: pins) σ H s) : Inv X (q :: p :: pins) σ H s := I.pins_of fun r hr => I.pin r (List.mem_append_right _ (by
  rcases List.mem_cons.mp hr with rfl | hr
  · exact List.mem_cons_of_mem _ List.mem_cons_self
  · rcases List.mem_cons.mp hr with rfl | hr
    · exact List.mem_cons_self
    · exact List.mem_cons_of_mem _ (List.mem_cons_of_mem _ hr)))
theorem each_snoc {α β : Type} {R : α → β → Prop} {x : α} {y : β} (hxy : R x y) {as : List α} {bs : List β} (h : EachIs R as bs) : EachIs R (as ++ [x]) (bs ++ [y]) := W.each_snoc hxy h
/-- what sorted leaves -/
def Sorted (X : Cx) (pins : List (Addr × Obj)) (σ : St) (F : List Addr) (H : Hp) (a : Addr) (out : List D) (s' : Shared) : Prop :=
  ∃ H' vs, Inv X pins σ (upd H' a (.lst vs)) s' ∧ Sm X.K H H' ∧ H' a = none ∧ RpL X.K (mask F H') vs out
section
variable {a kS : Addr} {e e1 : Nat} {us : List Value} {ds kz : List D} {keys : Array Value} {P : PySem.Fin → Shared → Prop} {E : Value → Shared → Prop} {f : Value}
theorem key_tail {st : SortSt} {out : List Value} {od : List D} (I : Inv (X2 X) ((kS, seqObj "list" keys e) :: (a, seqObj "list" #[] e1) :: pins) σ H s) (fa : FpOk (X2 X) pins H a) (fk : FpOk (X2 X) pins H kS) (hka : kS ≠ a)
    (hsz : keys.size ≤ sizeLine) (hz : out.length ≤ sizeLine) (hfl : failedOf st = none) (ho : (arrOf st).map (·.2) = out.toArray) (hE : EachIs (Vd X.K (mask F H)) out od)
    (h : ∀ s', Sorted X pins σ F H a od s' → P (.done (.ret .none)) s') : wpAny (model X.prog X.w) X.A.in1.in1 (ksk_tail a false e1 (.ref kS) st) P E s := by
  have nk := I.pin (kS, seqObj "list" keys e) (List.mem_append_right _ List.mem_cons_self)
  have s1 := Heap.SameBut.update s.heap kS (Obj.mapSeq fun _ => (#[] : Array Value))
  obtain ⟨c1, hc1⟩ : ∃ c1, (s.heap.update kS (Obj.mapSeq fun _ => (#[] : Array Value))).get? kS = some (seqObj "list" #[] c1) := ⟨_, get?_update_seq nk.1 fun _ => #[]⟩
  have I1 := pin_write (t' := s.toks) I (fp_pin fk hka.symm) s1 hc1 list_nocell
  have I2 := unpin1 I1
  have na := I2.pin (a, seqObj "list" #[] e1) (List.mem_append_right _ List.mem_cons_self)
  have s2 := Heap.SameBut.update (s.heap.update kS (Obj.mapSeq fun _ => (#[] : Array Value))) a (Obj.mapSeq fun _ => out.toArray)
  obtain ⟨c2, hc2⟩ : ∃ c2, ((s.heap.update kS (Obj.mapSeq fun _ => (#[] : Array Value))).update a (Obj.mapSeq fun _ => out.toArray)).get? a = some (seqObj "list" out.toArray c2) := ⟨_, get?_update_seq na.1 fun _ => out.toArray⟩
  unfold ksk_tail
  try dsimp only
  rw [ho]
  refine wpAny_bind (listUpdate_at nk.1 rfl ?_ hsz (Nat.zero_le _))
  refine wpAny_bind (wpAny_letGo ?_)
  refine wpAny_bind (seqEpoch_at na.1 rfl ?_)
  refine wpAny_bind (listUpdate_at na.1 rfl ?_ (Nat.zero_le _) (by simp only [Bool.false_eq_true, if_false, List.size_toArray]; omega))
  rw [hfl]
  simp only [bne_self_eq_false, Bool.false_eq_true, if_false]
  obtain ⟨ws, w1, w2⟩ := each_rpl hE
  refine wpAny_pure (h _ ⟨H, ws, inv2_back ((unpin1 I2).take (t' := s.toks) (it := a) (o := .lst ws) (fun b ob hb q => (s2.2 b hb).trans q) fa ⟨by rw [w1.length]; exact hz, out, c2, w1, hc2⟩), Sm.refl H, fa.1, w2⟩)
theorem key_end (I : Inv (X2 X) ((kS, seqObj "list" keys e) :: (a, seqObj "list" #[] e1) :: pins) σ H s) (fa : FpOk (X2 X) pins H a) (fk : FpOk (X2 X) pins H kS) (hka : kS ≠ a)
    (hk : EachIs (Vd X.K (mask F H)) keys.toList kz) (hd : EachIs (Vd X.K (mask F H)) us ds) (hl : kz.length = ds.length) (ok : sortOk kz = true) (hu : X.A.units + 65 < cLine)
    (h : ∀ s', Sorted X pins σ F H a ((isort (fun a b => dataLt a.1 b.1) (kz.zip ds)).map (·.2)) s' → P (.done (.ret .none)) s') : wpAny (model X.prog X.w) X.A.in1.in1 (ksk_end a false us.toArray e1 (.ref kS) keys) P E s := by
  have S := sorts_data (X := X2 X) (A := X.A.in1.in1) I hk ok (show X.A.units + 1 + 1 + 61 < cLine by omega)
  obtain ⟨hal, _, _, h5⟩ := sortOk_some ok
  have hkl : keys.size = us.length := by
    have h1 := hk.length
    rw [Array.length_toList] at h1
    rw [h1, hl, hd.length]
  have hZ : us.length ≤ sizeLine := by
    rw [hd.length, ← hl]
    exact Nat.le_trans h5 (by decide)
  obtain ⟨kd, h1, h2⟩ := S.kind
  have hK : PyProof.Rows.KeysOf (dataKind s.heap kz) (keys.zip us.toArray) := W.keysOf_zip S.keys
  have hol : (W.sortVals (dataKind s.heap kz) false keys.toList us).length = us.length := W.sortVals_length false (by rw [Array.length_toList]; exact hkl)
  have hss : (keys.zip us.toArray).size = us.length := by rw [Array.size_zip, hkl, List.size_toArray, Nat.min_self]
  have hR : EachIs (Vd X.K (mask F H)) (W.sortVals (dataKind s.heap kz) false keys.toList us) ((isort (fun a b => dataLt a.1 b.1) (kz.zip ds)).map (·.2)) := by
    have e1 : EachIs (fun u (b : D × D) => Vd X.K (mask F H) u b.2) us (kz.zip ds) := by
      have : ∀ {us : List Value} {ds kz : List D}, EachIs (Vd X.K (mask F H)) us ds → kz.length = ds.length → EachIs (fun u (b : D × D) => Vd X.K (mask F H) u b.2) us (kz.zip ds) := by
        intro us ds kz h
        induction h generalizing kz with
        | nil => intro _; rw [List.zip_nil_right]; exact .nil
        | cons a _ ih =>
          intro hl
          cases kz with
          | nil => simp at hl
          | cons k kz => exact .cons a (ih (by simpa using hl))
      exact this hd hl
    have e2 : EachIs (fun v (b : D × D) => (dataKind s.heap kz).keyOf v = some (W.keyToks b.1)) keys.toList (kz.zip ds) := by
      have e3 := W.each_keys hal (each_reads (X := X2 X) I hk)
      have : ∀ {ks : List Value} {kz' ds : List D}, EachIs (fun v d => (dataKind s.heap kz).keyOf v = some (W.keyToks d)) ks kz' → kz'.length = ds.length → EachIs (fun v (b : D × D) => (dataKind s.heap kz).keyOf v = some (W.keyToks b.1)) ks (kz'.zip ds) := by
        intro ks kz' ds h
        induction h generalizing ds with
        | nil => intro _; rw [List.zip_nil_left]; exact .nil
        | cons a _ ih =>
          intro hl
          cases ds with
          | nil => simp at hl
          | cons k ds => exact .cons a (ih (by simpa using hl))
      exact this e3 hl
    have e4 := W.sortVals_each (rev := false) (κ := dataKind s.heap kz) (fun b : D × D => W.keyToks b.1) e1 e2
    have e5 : (kz.zip ds).mergeSort (W.sortLe (dataKind s.heap kz).toKeyOrd false fun b : D × D => W.keyToks b.1) = isort (fun a b => dataLt a.1 b.1) (kz.zip ds) := merge_data (fun b : D × D => b.1) (kz.zip ds)
    rw [e5] at e4
    have : ∀ {us : List Value} {bs : List (D × D)}, EachIs (fun u (b : D × D) => Vd X.K (mask F H) u b.2) us bs → EachIs (Vd X.K (mask F H)) us (bs.map (·.2)) := by
      intro us bs h
      induction h with
      | nil => exact .nil
      | cons a _ ih => exact .cons a ih
    exact this e4
  have fin : ∀ st' : SortSt, (arrOf st').Perm (keys.zip us.toArray) → SortedToK (dataKind s.heap kz) (arrOf st') (keys.zip us.toArray).size → Stable (dataKind s.heap kz) (arrOf st') (keys.zip us.toArray) → (arrOf st').map (·.2) = (W.sortVals (dataKind s.heap kz) false keys.toList us).toArray := by
    intro st' hp hs ht
    have e := W.sort_out (rev := false) (keys := keys) (items := us.toArray) (xs := arrOf st') (κ := dataKind s.heap kz) hK hp hs ht
    have e' := congrArg List.toArray e
    rw [Array.toArray_toList] at e'
    exact e'
  unfold ksk_end
  try dsimp only
  simp only [Bool.false_eq_true, if_false]
  have hksz : keys.size ≤ sizeLine := by rw [hkl]; exact hZ
  by_cases hl2 : us.toArray.size < 2
  · rw [if_pos hl2, if_pos hl2]
    refine wpAny_bind (wpAny_pure ?_)
    rw [StateT.run_pure]
    refine wpAny_bind (wpAny_pure ?_)
    try dsimp only
    refine key_tail (st := SortSt.mk' general' (keys.zip us.toArray) #[] 7 none) I fa fk hka hksz (by rw [hol]; exact hZ) rfl (fin _ (Array.Perm.refl _) ?_ (Stable.refl _)) hR h
    intro i j hij hj
    rw [hss] at hj
    rw [List.size_toArray] at hl2
    have : i = j := by omega
    subst this
    exact KeyOrd.kle_refl _
  · rw [if_neg hl2, if_neg hl2]
    rw [List.size_toArray] at hl2
    have hk2 : 2 ≤ keys.toList.length := by rw [Array.length_toList]; omega
    have hkind := h2 hk2
    rw [show keys.toList.toArray = keys from Array.toArray_toList] at hkind
    refine wpAny_bind (hkind _ ?_)
    refine wpAny_bind (wpAny_mono (PyProof.Rows.H.wpS_sortRunsSt (κ := dataKind s.heap kz) (kd := kd) (a₀ := keys.zip us.toArray)
      (st := SortSt.mk' kd (keys.zip us.toArray) #[] 7 none)
      (Q := fun _ st' => failedOf st' = none ∧ (arrOf st').map (·.2) = (W.sortVals (dataKind s.heap kz) false keys.toList us).toArray)
      h1 hK ⟨Array.Perm.refl _, rfl, rfl⟩ rfl (Stable.refl _) (by rw [hss]; omega) fun st' a1 a2 a3 a4 => ⟨a2, fin st' a1 a3 a4⟩) ?_ fun _ _ e => e)
    rintro ⟨⟨⟩, st'⟩ s' ⟨rfl, hf, ho⟩
    try dsimp only at ho ⊢
    exact key_tail I fa fk hka hksz (by rw [hol]; exact hZ) hf ho hR h
theorem key_rest (I : Inv (X2 X) ((kS, seqObj "list" #[] 0) :: (a, seqObj "list" #[] e1) :: pins) σ H s) (fa : FpOk (X2 X) pins H a) (fk : FpOk (X2 X) pins H kS) (hka : kS ≠ a)
    (hd : EachIs (Vd X.K (mask F H)) us ds) (hl : kz.length = ds.length) (ok : sortOk kz = true) (hu : X.A.units + 65 < cLine) (turn : Turns X f F σ us kz H pins)
    (h : ∀ s', Sorted X pins σ F H a ((isort (fun a b => dataLt a.1 b.1) (kz.zip ds)).map (·.2)) s' → P (.done (.ret .none)) s') : wpAny (model X.prog X.w) X.A.in1.in1 (ksk_rest a f false us.toArray e1 (.ref kS)) P E s := by
  obtain ⟨_, _, _, h5⟩ := sortOk_some ok
  have hlu : kz.length = us.length := by rw [hl, hd.length]
  unfold ksk_rest
  refine wpAny_bind (wpAny_rule ?_)
  first
    | rw [List.forIn_toArray]
    | (rw [← Array.forIn_toList]; simp only [List.toList_toArray])
    | rw [← Array.forIn_toList]
  refine wpAny_bind (ksk_fold (fun i s' => ∃ H' kA e, Inv (X2 X) ((kS, seqObj "list" kA e) :: (a, seqObj "list" #[] e1) :: pins) σ H' s' ∧ Sm X.K H H' ∧ EachIs (Vd X.K (mask F H')) kA.toList (kz.take i)) us 0 s
    ⟨H, #[], 0, I, Sm.refl H, by rw [List.take_zero]; exact EachIs.nil⟩ ?step ?done)
  case step =>
    rintro j x s' hx ⟨H', kA, e, I', sm, hk⟩
    simp only [Nat.zero_add] at hk ⊢
    have hj : j < us.length := (List.getElem?_eq_some_iff.mp hx).1
    obtain ⟨k, hkj⟩ : ∃ k, kz[j]? = some k := ⟨_, List.getElem?_eq_getElem (by omega)⟩
    have hz : kA.size ≤ 5000 := by
      have h1 := hk.length
      rw [Array.length_toList, List.length_take] at h1
      omega
    have pk := I'.pin (kS, seqObj "list" kA e) (List.mem_append_right _ List.mem_cons_self)
    refine wpAny_bind (wpAny_attempt (wpAny_mono (turn j x k hx hkj _ s' H' I' (fun p hp => List.mem_cons_of_mem _ (List.mem_cons_of_mem _ hp)) sm (fun v' H'' => Sm X.K H' H'' ∧ Rp X.K (mask F H'') v' k) fun v' H'' s2 r2 => ⟨s2, r2⟩) (fun u s'' he => ?_) fun _ _ hF => hF.elim))
    obtain ⟨v', H2, I2, rv, s2, r2⟩ := he
    try dsimp only
    have nk := I2.pin (kS, seqObj "list" kA e) (List.mem_append_right _ List.mem_cons_self)
    have s1 := Heap.SameBut.update s''.heap kS (Obj.mapSeq (·.push u))
    obtain ⟨c2, hc2⟩ : ∃ c2, (s''.heap.update kS (Obj.mapSeq (·.push u))).get? kS = some (seqObj "list" (kA.push u) c2) := ⟨_, get?_update_seq nk.1 (·.push u)⟩
    refine wpAny_bind (listUpdate_at nk.1 rfl ?_ (Nat.le_trans hz (by decide)) (Nat.le_trans (Nat.le_of_eq (Array.size_push ..)) (Nat.succ_le_succ (Nat.le_trans hz (by decide)))))
    have fk2 : FpOk (X2 X) pins H2 kS := fp_up fk nk.2.1
    refine wpAny_pure ⟨rfl, H2, kA.push u, c2, pin_write (t' := s''.toks) I2 (fp_pin fk2 hka.symm) s1 hc2 list_nocell, sm.trans s2, ?_⟩
    have ek : kz.take (j + 1) = kz.take j ++ [k] := by rw [List.take_add_one, hkj]; simp
    have ea : (kA.push u).toList = kA.toList ++ [u] := by simp
    rw [ea, ek]
    exact each_snoc ⟨v', rv, r2⟩ (each_up hk (mm s2))
  case done =>
    rintro s' ⟨H', kA, e, I', sm, hk⟩
    rw [show kz.take (0 + us.length) = kz from List.take_of_length_le (by omega)] at hk
    have nk := I'.pin (kS, seqObj "list" kA e) (List.mem_append_right _ List.mem_cons_self)
    have na := I'.pin (a, seqObj "list" #[] e1) (List.mem_append_right _ (List.mem_cons_of_mem _ List.mem_cons_self))
    try dsimp only
    refine wpAny_bind (listItems_at nk.1 rfl ?_)
    refine key_end I' (fp_up fa na.2.1) (fp_up fk nk.2.1) hka hk (each_up hd (mm sm)) hl ok hu fun s2 ⟨H2, vs, I2, s22, hn, r2⟩ => h s2 ⟨H2, vs, I2, sm.trans s22, hn, r2⟩
end
/-- sorted(xs, key=f) -/
theorem sorted_key {ds kz : List D} {vs0 : List V} {Q : VK} {l q0 : Addr} (I : Inv X pins σ H s) (hs : H l = some (.lst vs0)) (hr : RpL X.K (mask F H) vs0 ds) (hl : kz.length = ds.length) (ok : sortOk kz = true) (hu : X.A.units + 65 < cLine) (hF : ∀ a ∈ F, Hs H a)
    (turn : ∀ us, Vals vs0 us → Turns X (.ref q0) F σ us kz H pins) (q : ∀ v H', Sm X.K H H' → Rp X.K (mask F H') v (.list ((isort (fun a b => dataLt a.1 b.1) (kz.zip ds)).map (·.2))) → Q v H') :
    wpAny (model X.prog X.w) X.A (call (.builtin "sorted") [.ref l] [(Str.ofString "key", .ref q0)]) (EP X pins σ Q) X.xe s := by
  obtain ⟨us, rv2, hli, hz⟩ := I.list (X := X) (a := l) (xs := vs0) (.inl (.inl hs))
  have hE : EachIs (Vd X.K (mask F H)) us ds := rpl_each hr rv2
  have hzu : us.length ≤ sizeLine := by rw [← rv2.length]; exact hz
  refine W.sorted_of_sort hli.isList hzu (ksk_s1 _ _) (fun _ => ksk_l1 _ _) fun E' => ?_
  rw [ksk_t1]
  have ho := W.copyHeap_at s.heap us
  have s1 := Heap.SameBut.update (W.copyHeap s.heap us) (s.heap.objs.size + 1) (Obj.mapSeq fun _ => (#[] : Array Value))
  obtain ⟨e1, ho1⟩ : ∃ e1, ((W.copyHeap s.heap us).update (s.heap.objs.size + 1) (Obj.mapSeq fun _ => (#[] : Array Value))).get? (s.heap.objs.size + 1) = some (seqObj "list" #[] e1) := ⟨_, get?_update_seq ho fun _ => #[]⟩
  have ha : s.heap.objs.size + 1 < (W.copyHeap s.heap us).objs.size := Heap.lt_size ho
  have hkS : (((W.copyHeap s.heap us).update (s.heap.objs.size + 1) (Obj.mapSeq fun _ => (#[] : Array Value))).push (seqObj "tuple" us.toArray 0)).objs.size = (W.copyHeap s.heap us).objs.size + 1 := by rw [size_push', Heap.size_update]
  have kp : ∀ b o, s.heap.get? b = some o → ((((W.copyHeap s.heap us).update (s.heap.objs.size + 1) (Obj.mapSeq fun _ => (#[] : Array Value))).push (seqObj "tuple" us.toArray 0)).push (seqObj "list" #[] 0)).get? b = some o := fun b o e =>
    Heap.get?_push_of_some _ (Heap.get?_push_of_some _ ((s1.2 b (Nat.ne_of_lt (Nat.lt_succ_of_lt (Heap.lt_size e)))).trans (W.copyHeap_old e)))
  unfold ksk_tree
  refine wpAny_bind (listItems_at ho rfl ?_)
  refine wpAny_bind (listUpdate_at ho rfl ?_ (by rw [List.size_toArray]; exact hzu) (Nat.zero_le _))
  refine wpAny_bind (seqEpoch_at ho1 rfl ?_)
  refine wpAny_bind (wpAny_newTuple ?_ (by show us.length ≤ _; exact hzu))
  refine wpAny_bind (wpAny_newList ?_ (Nat.zero_le _))
  refine wpAny_holding ?_
  have I1 : Inv (X2 X) pins σ H { s with heap := (((W.copyHeap s.heap us).update (s.heap.objs.size + 1) (Obj.mapSeq fun _ => (#[] : Array Value))).push (seqObj "tuple" us.toArray 0)).push (seqObj "list" #[] 0) } := (inv2 I).kept (t' := s.toks) kp
  have na : H (s.heap.objs.size + 1) = none := I.hok.fresh (Nat.le_succ _)
  have hle : s.heap.objs.size ≤ (((W.copyHeap s.heap us).update (s.heap.objs.size + 1) (Obj.mapSeq fun _ => (#[] : Array Value))).push (seqObj "tuple" us.toArray 0)).objs.size := by rw [hkS]; omega
  have nk : H (((W.copyHeap s.heap us).update (s.heap.objs.size + 1) (Obj.mapSeq fun _ => (#[] : Array Value))).push (seqObj "tuple" us.toArray 0)).objs.size = none := I.hok.fresh hle
  have fa : FpOk (X2 X) pins H (s.heap.objs.size + 1) := (inv2 I).fpOk (Nat.le_succ _) na
  have fk : FpOk (X2 X) pins H (((W.copyHeap s.heap us).update (s.heap.objs.size + 1) (Obj.mapSeq fun _ => (#[] : Array Value))).push (seqObj "tuple" us.toArray 0)).objs.size := (inv2 I).fpOk hle nk
  have hka : (((W.copyHeap s.heap us).update (s.heap.objs.size + 1) (Obj.mapSeq fun _ => (#[] : Array Value))).push (seqObj "tuple" us.toArray 0)).objs.size ≠ s.heap.objs.size + 1 := by rw [hkS]; omega
  have I2 := I1.pins_of (pins' := ((((W.copyHeap s.heap us).update (s.heap.objs.size + 1) (Obj.mapSeq fun _ => (#[] : Array Value))).push (seqObj "tuple" us.toArray 0)).objs.size, seqObj "list" #[] 0) :: (s.heap.objs.size + 1, seqObj "list" #[] e1) :: pins) fun p hp => by
    rcases List.mem_cons.mp hp with rfl | hp
    · exact ⟨Heap.get?_push_size _ rfl, nk, fk.2.1, fk.2.2.1, list_nocell⟩
    · rcases List.mem_cons.mp hp with rfl | hp
      · exact ⟨Heap.get?_push_of_some _ (Heap.get?_push_of_some _ ho1), na, fa.2.1, fa.2.2.1, list_nocell⟩
      · exact I1.pin p (List.mem_append_right _ hp)
  refine key_rest I2 fa fk hka hE hl ok hu (turn us rv2) fun s' ⟨H', vs, I3, sm, hn, r3⟩ => ⟨rfl, ?_⟩
  exact ⟨.ref (s.heap.objs.size + 1), _, I3, rfl, q _ _ (sm.trans (sm_upd hn)) (rp_lst (fun a ha => sm.b.dom a (hF a ha)) hn r3)⟩
end
end PV
end
section -- Srt3
/-! Sorting, part 3: the keys: an own def, a lambda of one parameter. -/
namespace PV
open PySem PySem.Spec L2
open PyProof.Rows hiding St
open PySem.W (EachIs dataLt)
theorem mapO_at {α β : Type} {f : α → Option β} : ∀ {l : List α} {r : List β}, mapO f l = some r → r.length = l.length ∧ ∀ (i : Nat) (x : α) (y : β), l[i]? = some x → r[i]? = some y → f x = some y
  | [], r, h => by
    simp only [mapO, Option.some.injEq] at h
    subst h
    exact ⟨rfl, fun i x y h1 _ => by simp at h1⟩
  | x :: l, r, h => by
    simp only [mapO] at h
    obtain ⟨y, h1, h⟩ := some_bind h
    obtain ⟨ys, h2, h⟩ := some_bind h
    cases h
    obtain ⟨h3, h4⟩ := mapO_at h2
    refine ⟨by simp [h3], fun i => ?_⟩
    cases i with
    | zero =>
      intro x' y' e1 e2
      simp only [List.getElem?_cons_zero, Option.some.injEq] at e1 e2
      rw [← e1, ← e2]
      exact h1
    | succ i =>
      intro x' y' e1 e2
      exact h4 i x' y' (by simpa using e1) (by simpa using e2)
section
variable {X : Cx} {pins : List (Addr × Obj)} {σ : St} {H : Hp} {s : Shared} {F : List Addr}
theorem vals_get : ∀ {vs : List V} {us : List Value} {i : Nat} {u : Value}, Vals vs us → us[i]? = some u → ∃ v, vs[i]? = some v ∧ RelV v u
  | _, _, i, u, .nil, h => by simp at h
  | _, _, 0, u, .cons r _, h => by simp at h; subst h; exact ⟨_, rfl, r⟩
  | _, _, i + 1, u, .cons _ t, h => by
    obtain ⟨v, h1, h2⟩ := vals_get (i := i) t (by simpa using h)
    exact ⟨v, by simpa using h1, h2⟩
/-- the keys that an own def gives -/
theorem turns_def {q0 : Addr} {fd : FuncData} {ps : List Str} {k : Nat} {g : List D → Option D} {vs0 : List V} {us : List Value} {ds kz : List D} (Fn : FnOk X.prog X.w X.K X.mg X.base CX0 k q0 fd ps (spD X.K 1 g)) (hb : Binds X.K fd ps []) (hr : Room (k + 2) X.A)
    (hv : Vals vs0 us) (hR : RpL X.K (mask F H) vs0 ds) (hF : ∀ a ∈ F, Hs H a) (hT : TabP X.K H) (hm : mapO (fun d => g [d]) ds = some kz) : Turns X (.ref q0) F σ us kz H pins := by
  intro i u kd hi hk pins1 s1 H1 I1 _ sm Q hq
  obtain ⟨hl, hg⟩ := mapO_at hm
  obtain ⟨v, h1, h2⟩ := vals_get hv hi
  obtain ⟨d, h3, h4⟩ := hR.getV h1
  have h5 := hg i d kd h3 hk
  refine run_fn (X := X2 X) Fn hr.in1.in1 hb .nil (pass0 (X := X2 X)) I1 (.cons h2 .nil) ?_
  exact ⟨rfl, F, [d], kd, sm.t hT, fun a ha => sm.b.dom a (hF a ha), .cons (h4.up (mm sm)) .nil, h5, hq⟩
/-! ### a lambda of one parameter -/
/-- (len(a), a) -/
structure LamOk (a : Str) (params : Arguments) (body : Expr) (scope : Scope) : Prop where
  kind : scope.kind = .function
  co : scope.isCoroutine = false
  gen : scope.isGenerator = false
  own : ∀ y ∈ scope.names, y.2 ≠ .cell ∧ y.2 ≠ .free
  loc : scope.names.lookup a = some .local
  len : scope.names.lookup (Str.ofString "len") = some .globalImplicit
  bdy : ∃ p1 p2 p3 p4 p5, body = .Tuple [.Call (.Name "len" p1) [.Name a p2] [] p3, .Name a p4] 0 p5
  bind : ∀ (q : Str) (cl : List (Str × Addr)) (pm cv ctv : Value) (u : Value), bindArgs (PySem.W.kla_fn "<lambda>" q params body scope cl pm cv ctv) ⟨[u], []⟩ = pure [(a, u)]
  dbg : (a == ("__debug__" : Str)) = false
  cls : (a == ("__classdict__" : Str)) = false
abbrev lam1Env (q : Str) (scope : Scope) (L f c' : Addr) : Env := PySem.W.envX q scope L f (.ref c') []
/-- the context of the lambda's body -/
def lam1Cx (X : Cx) (A : Around) (outer : List Env) (s : Shared) (H : Hp) (a : Str) (q : Str) (scope : Scope) (f c' : Addr) : Cx where
  prog := X.prog
  w := X.w
  K := X.K
  mg := X.mg
  base := X.base
  A := A.deeper (lam1Env q scope s.heap.objs.size f c')
  N := [a]
  s_0 := s
  H_0 := H
  env := lam1Env q scope s.heap.objs.size f c'
  outer := outer
  stack := lam1Env q scope s.heap.objs.size f c' :: outer
  ex := []
  fn := fun _ => false
  calm := true
  pn := []
  xe := fun e s' => wpAny (model X.prog X.w) (A.deeper (lam1Env q scope s.heap.objs.size f c')) (leaving (lam1Env q scope s.heap.objs.size f c') e) (fun _ s'' => False) (fun e' s'' => False) s'
theorem lam1_start {a : Str} {params : Arguments} {body : Expr} {A : Around} {outer : List Env} {q : Str} {scope : Scope} {f c' : Addr} {h₁ : Heap} {tk : Nat} {v : V} {u : Value} (L : LamOk a params body scope) (e0 : Env0 X.prog X.w X.K X.mg X.base A outer s H) (hd : A.handled = none)
    (hns : h₁.Ns s.heap.objs.size fun y => ([(a, u)] : List (Str × Value)).reverse.lookup y) (kp : ∀ b o, s.heap.get? b = some o → h₁.get? b = some o) (r : RelV v u) :
    Inv (lam1Cx X A outer s H a q scope f c') [] [some v] H { s with heap := h₁, toks := tk } := by
  have noA : ∀ b : Addr, b ∉ (lam1Cx X A outer s H a q scope f c').ex := fun b z => absurd (show b ∈ ([] : List Addr) from z) (by simp)
  have noC : ∀ (y : Str) (c : Addr), (lam1Cx X A outer s H a q scope f c').env.cells.lookup y = some c → False := fun y c z => by
    have z : ([] : List (Str × Addr)).lookup y = some c := z
    cases z
  refine ⟨⟨e0.mod, L.kind, rfl, rfl, Nat.le_refl _, fun y z c e1 e2 => (noC y c e1).elim, fun y hy => ?_, fun y c z => ?_, fun _ => hd, Around.frames_deeper e0.frames, .inr ⟨rfl, rfl⟩, fun b z => absurd z (noA b), e0.bs, e0.bsz, fun b _ _ => noA b,
      fun b z => absurd z (noA b), e0.funs, e0.frf⟩,
    rfl, e0.bare, Un.kept kp, ⟨_, hns, fun i y v' e1 e2 e3 => ?_⟩, fun y c e => (noC y c e).elim, e0.hok.fresh (Nat.le_refl _), fun y c e => (noC y c e).elim, fun q hq => absurd (show q ∈ ([] : List (Addr × Obj)) ++ [] from hq) (by simp), e0.hok.kept kp, rfl⟩
  · have hy : scope.names.lookup y = some .cell ∨ scope.names.lookup y = some .free := hy
    rcases hy with hy | hy
    · exact absurd rfl (L.own _ (PySem.mem_of_lookup hy)).1
    · exact absurd rfl (L.own _ (PySem.mem_of_lookup hy)).2
  · have z : false = true := z
    cases z
  · have e1 : ([a] : List Str)[i]? = some y := e1
    cases i with
    | succ i => simp at e1
    | zero =>
      simp only [List.getElem?_cons_zero, Option.some.injEq] at e1 e2
      subst e1
      subst e2
      exact ⟨u, r, .inl ⟨L.loc, by simp⟩⟩
/-- the keys that the lambda gives -/
theorem turns_lam {a q : Str} {params : Arguments} {body : Expr} {scope : Scope} {f c' : Addr} {pm ctv : Value} {vs0 : List V} {us : List Value} {ds kz : List D} {pins0 : List (Addr × Obj)} {k : Nat} (L : LamOk a params body scope) (B : Bl X.mg)
    (hp : (f, PySem.W.kla_obj "<lambda>" q params body scope [] pm c' ctv) ∈ pins0) (hc : H c' = some (LamX.CodeO c' q)) (hr : Room (k + 3) X.A)
    (hv : Vals vs0 us) (hR : RpL X.K (mask F H) vs0 ds) (hF : ∀ a ∈ F, Hs H a) (hT : TabP X.K H) (hm : mapO lenKey ds = some kz) : Turns X (.ref f) F σ us kz H pins0 := by
  intro i u kd hi hk pins1 s1 H1 I1 hpin sm Q hq
  obtain ⟨hl, hg⟩ := mapO_at hm
  obtain ⟨v, h1, h2⟩ := vals_get hv hi
  obtain ⟨d, h3, h4⟩ := hR.getV h1
  have h5 := hg i d kd h3 hk
  have of1 := (I1.pin _ (List.mem_append_right _ (hpin _ hp))).1
  have hr2 : Room (k + 1) X.A.in1.in1 := hr.in1.in1
  have hco : H1 c' = some (LamX.CodeO c' q) := sm.b.at_ _ _ rfl hc
  obtain ⟨⟨oc, vs, t, hoc, hdc, hvc⟩, _, _⟩ := I1.hok c' _ hco
  have rc : codeAny (model X.prog X.w) X.A.in1.in1 (.call (.ref f) ⟨[u], []⟩) (CR CX0 X.stack X.prog X.w H1 s1 Q E0) s1 := by
    refine PySem.W.kla_callFunE hr2.depth of1 rfl L.co L.gen rfl ⟨c', oc, vs, t, rfl, hoc, hdc, hvc⟩ ?_
    rw [L.bind]
    refine wpAny_pure (wpAny_newFunctionEnv (fun y hy => (L.own y hy).1) (fun y hy => by rw [List.mem_singleton.mp hy]; exact L.loc) (fun h₁ hns hsb => ⟨I1.nolimit.fresh _ hsb, ?_⟩) L.kind)
    show codeAny _ _ (.expr body (lam1Env q scope s1.heap.objs.size f c')) _ _
    have kp : ∀ b o, s1.heap.get? b = some o → h₁.get? b = some o := fun b o e => hsb.extBut b o (Nat.ne_of_lt (Heap.lt_size e)) (Heap.get?_push_of_some _ e)
    have J : Inv (lam1Cx X X.A.in1.in1 X.stack s1 H1 a q scope f c') [] [some v] H1 { s1 with heap := h₁, toks := s1.toks + ([(a, u)] : List (Str × Value)).length } :=
      lam1_start L I1.env0 hr2.hd hns kp h2
    have hloc : Vis (lam1Cx X X.A.in1.in1 X.stack s1 H1 a q scope f c').env.scope a := .inl L.loc
    have hlen : Gl (lam1Cx X X.A.in1.in1 X.stack s1 H1 a q scope f c') "len" := L.len
    obtain ⟨p1, p2, p3, p4, p5, hbody⟩ := L.bdy
    have pv := fun (p : Pos) => pd_var (X := lam1Cx X X.A.in1.in1 X.stack s1 H1 a q scope f c') (pos := p) (i := 0) (x := a) rfl hloc L.dbg L.cls
    have E := pd_tup (X := lam1Cx X X.A.in1.in1 X.stack s1 H1 a q scope f c') (x1 := 0) (pos := p5) (pdl_cons (pd_f1 (X := lam1Cx X X.A.in1.in1 X.stack s1 H1 a q scope f c') (f := .len) (p := p1) (pos := p3) rfl B (by decide) hlen (pd_borrow (pv p2)) rfl) (pdl_cons (pv p4) pdl_nil rfl) rfl)
    rw [hbody]
    refine PySem.W.kla_codeExpr (wpAny_mono (E.run [] _ _ H1 Q J ⟨F, [.val d], kd, ⟨fun a ha => sm.b.dom a (hF a ha), ⟨[], .val (h4.up (mm sm)) .nil, fun p hp => nomatch hp⟩, sm.t hT⟩, ?_, hq⟩) (fun v s' hq => ?_) fun e s' hq => hq)
    · cases d <;> simp only [lenKey] at h5 <;> cases h5
      rfl
    · obtain ⟨w', H', J', rv, q⟩ := hq
      exact ⟨w', H', J'.os, J'.bare, J'.base, J'.hok, rv, q⟩
  refine wpAny_call (codeAny_mono rc fun r s' hq => ?_)
  cases r with
  | error e => exact hq
  | ok fl =>
    cases fl with
    | ret u => exact I1.after hq
    | next => exact False.elim hq
    | brk => exact False.elim hq
    | cont => exact False.elim hq
end
end PV
end
section -- Srt4
/-! Sorting, part 4: sorted as an expression. -/
namespace PV
open PySem PySem.Spec L2
open PyProof.Rows hiding St
open PySem.W (EachIs dataLt)
/-! ### ascending lists -/
section
variable {α : Type} {lt : α → α → Bool}
theorem asc_uniq (as : ∀ a b, lt a b = true → lt b a = false) : ∀ {l m : List α}, l.Pairwise (fun a b => lt a b = true) → m.Pairwise (fun a b => lt a b = true) → (∀ x, x ∈ l ↔ x ∈ m) → l = m
  | [], [], _, _, _ => rfl
  | [], y :: m, _, _, h => by have := (h y).mpr List.mem_cons_self; cases this
  | x :: l, [], _, _, h => by have := (h x).mp List.mem_cons_self; cases this
  | x :: l, y :: m, hl, hm, h => by
    obtain ⟨l1, l2⟩ := List.pairwise_cons.mp hl
    obtain ⟨m1, m2⟩ := List.pairwise_cons.mp hm
    have irr : ∀ z, lt z z = true → False := fun z hz => by have := as z z hz; rw [hz] at this; cases this
    have e : x = y := by
      rcases List.mem_cons.mp ((h x).mp List.mem_cons_self) with e | hx
      · exact e
      · rcases List.mem_cons.mp ((h y).mpr List.mem_cons_self) with e | hy
        · exact e.symm
        · have a := m1 x hx
          have b := l1 y hy
          rw [as _ _ a] at b
          cases b
    subst e
    refine congrArg (x :: ·) (asc_uniq as l2 m2 fun z => ⟨fun hz => ?_, fun hz => ?_⟩)
    · rcases List.mem_cons.mp ((h z).mp (List.mem_cons_of_mem _ hz)) with e | q
      · subst e; exact (irr _ (l1 _ hz)).elim
      · exact q
    · rcases List.mem_cons.mp ((h z).mpr (List.mem_cons_of_mem _ hz)) with e | q
      · subst e; exact (irr _ (m1 _ hz)).elim
      · exact q
theorem isort_perm (tr : ∀ a b c, lt b a = false → lt c b = false → lt c a = false) (as : ∀ a b, lt a b = true → lt b a = false) (l : List α) : (isort lt l).Perm l := by
  rw [← isort_merge tr as l]
  exact List.mergeSort_perm _ _
theorem isort_pw (tr : ∀ a b c, lt b a = false → lt c b = false → lt c a = false) (as : ∀ a b, lt a b = true → lt b a = false) (l : List α) : (isort lt l).Pairwise (fun a b => lt b a = false) := by
  rw [← isort_merge tr as l]
  have := List.pairwise_mergeSort (le := fun a b => !lt b a) (fun a b c h1 h2 => by
    simp only [Bool.not_eq_true'] at h1 h2 ⊢
    exact tr a b c h1 h2) (fun a b => by
    cases h : lt a b with
    | true => rw [as a b h]; rfl
    | false => simp) l
  exact this.imp fun h => by simpa using h
theorem isort_asc (tr : ∀ a b c, lt b a = false → lt c b = false → lt c a = false) (as : ∀ a b, lt a b = true → lt b a = false) (tot : ∀ a b, lt a b = false → lt b a = false → a = b) {l : List α} (nd : l.Nodup) : (isort lt l).Pairwise (fun a b => lt a b = true) := by
  have p := isort_perm tr as l
  have n2 : (isort lt l).Nodup := p.nodup_iff.mpr nd
  refine List.Pairwise.imp₂ (fun a b h1 h2 => ?_) (isort_pw tr as l) n2
  cases h : lt a b with
  | true => rfl
  | false => exact absurd (tot a b h h1) h2
theorem dedup_mem [DecidableEq α] {x : α} : ∀ {l : List α}, x ∈ dedup l ↔ x ∈ l
  | [] => Iff.rfl
  | y :: l => by
    unfold dedup
    split
    · rename_i h
      rw [dedup_mem, List.mem_cons]
      exact ⟨.inr, fun q => q.elim (fun e => by rw [e]; exact h) id⟩
    · rw [List.mem_cons, List.mem_cons, dedup_mem]
theorem dedup_nodup [DecidableEq α] : ∀ l : List α, (dedup l).Nodup
  | [] => List.nodup_nil
  | y :: l => by
    unfold dedup
    split
    · exact dedup_nodup l
    · rename_i h
      exact List.nodup_cons.mpr ⟨fun q => h (dedup_mem.mp q), dedup_nodup l⟩
/-- the sorted set is the one ascending list of the members -/
theorem setS_uniq [DecidableEq α] (tr : ∀ a b c, lt b a = false → lt c b = false → lt c a = false) (as : ∀ a b, lt a b = true → lt b a = false) (tot : ∀ a b, lt a b = false → lt b a = false → a = b) {l m : List α} (hm : m.Pairwise (fun a b => lt a b = true)) (h : ∀ x, x ∈ m ↔ x ∈ l) : m = isort lt (dedup l) :=
  asc_uniq as hm (isort_asc tr as tot (dedup_nodup l)) fun x => by rw [h x, (isort_perm tr as (dedup l)).mem_iff, dedup_mem]
end
theorem ltZ_as (a b : Int) (h : decide (a < b) = true) : decide (b < a) = false := by
  have := of_decide_eq_true h
  exact decide_eq_false (by omega)
theorem ltZ_tr (a b c : Int) (h1 : decide (b < a) = false) (h2 : decide (c < b) = false) : decide (c < a) = false := by
  have := of_decide_eq_false h1
  have := of_decide_eq_false h2
  exact decide_eq_false (by omega)
theorem ltZ_tot (a b : Int) (h1 : decide (a < b) = false) (h2 : decide (b < a) = false) : a = b := by
  have := of_decide_eq_false h1
  have := of_decide_eq_false h2
  omega
theorem ltI_as : ∀ (a b : List Int), ltI a b = true → ltI b a = false
  | [], [], h => by cases h
  | [], _ :: _, _ => rfl
  | _ :: _, [], h => by cases h
  | x :: xs, y :: ys, h => by
    unfold ltI at h ⊢
    by_cases e : x = y
    · rw [if_pos e] at h
      rw [if_pos e.symm]
      exact ltI_as xs ys h
    · rw [if_neg e] at h
      rw [if_neg fun z => e z.symm]
      exact ltZ_as _ _ h
theorem ltI_tot : ∀ (a b : List Int), ltI a b = false → ltI b a = false → a = b
  | [], [], _, _ => rfl
  | [], _ :: _, h, _ => by cases h
  | _ :: _, [], _, h => by cases h
  | x :: xs, y :: ys, h1, h2 => by
    unfold ltI at h1 h2
    by_cases e : x = y
    · rw [if_pos e] at h1
      rw [if_pos e.symm] at h2
      rw [e, ltI_tot xs ys h1 h2]
    · rw [if_neg e] at h1
      rw [if_neg fun z => e z.symm] at h2
      exact absurd (ltZ_tot _ _ h1 h2) e
theorem ltI_tr : ∀ (a b c : List Int), ltI b a = false → ltI c b = false → ltI c a = false
  | [], [], c, _, h => h
  | [], _ :: _, [], _, h => by cases h
  | [], _ :: _, _ :: _, _, _ => rfl
  | _ :: _, [], _, h, _ => by cases h
  | _ :: _, _ :: _, [], _, h => by cases h
  | x :: xs, y :: ys, z :: zs, h1, h2 => by
    unfold ltI at h1 h2 ⊢
    by_cases e1 : y = x
    · rw [if_pos e1] at h1
      subst e1
      by_cases e2 : z = y
      · rw [if_pos e2] at h2
        rw [if_pos e2]
        exact ltI_tr xs ys zs h1 h2
      · rw [if_neg e2] at h2
        rw [if_neg e2]
        exact h2
    · rw [if_neg e1] at h1
      by_cases e2 : z = y
      · subst e2
        rw [if_neg e1]
        exact h1
      · rw [if_neg e2] at h2
        have e3 : ¬ z = x := fun e => by
          subst e
          exact e1 (ltZ_tot _ _ h1 h2)
        rw [if_neg e3]
        exact ltZ_tr _ _ _ h1 h2
/-! ### sorted(xs), sorted(xs, key=..), sorted(set(xs)) -/
section
variable {X : Cx} {a : Expr} {fa : Rho → Option D} {pos p p2 p3 p4 : Pos} {c : Nat → List D → Option D}
theorem starK {e : Env} (hs : starEach [a] e = (false, eval a e) :: starEach [] e) : backTo pos (starEach [a] e) = (false, eval a e) :: backTo pos (starEach [] e) := by
  rw [hs]
  rfl
theorem pd_srt (hu : X.A.units + 65 < cLine) (B : Bl X.mg) (hg : Gl X (Str.ofString "sorted")) (ha : PE X a (tDB X.K fa)) (hs : starEach [a] X.env = (false, eval a X.env) :: starEach [] X.env) :
    PE X (.Call (.Name "sorted" p) [a] [] pos) (tD X.K fun ρ => (fa ρ).bind fun x => srtF c .plain x) := by
  have h := pd_one (pe_callB (p := p) (pos := pos) (cr_sortD hu) hg B.sorted (by decide +kernel) (pa_cons ha pa_nil hs) (he := hs) (hpl := rfl))
  refine ⟨fun pins s σ H Q I ⟨F, ρ, d, e, hf, q⟩ => h.run pins s σ H Q I ⟨F, ρ, d, e, ?_, q⟩⟩
  obtain ⟨x, h1, h2⟩ := some_bind hf
  show (fa ρ).bind _ = some d
  rw [h1, ← h2]
  cases x <;> rfl
/-- what sorted(xs, key=f) asks -/
def rKey (X : Cx) (q0 : Addr) (g : List D → Option (List D)) : List V → List V → Hp → VK → Prop := fun vs zs H Q => ∃ F ds kz v d, vs = [v] ∧ zs = [.ref q0] ∧ TabP X.K H ∧ (∀ a ∈ F, Hs H a) ∧ Rb X.K F H v (.list ds) ∧ g ds = some kz ∧ kz.length = ds.length ∧ sortBy kz ds = some d ∧ ∀ v' H', Sm X.K H H' → Rp X.K (mask F H') v' d → Q v' H'
theorem sortBy_some {ks ds : List D} {d : D} (h : sortBy ks ds = some d) : sortOk ks = true ∧ d = .list ((isort (fun a b => dataLt a.1 b.1) (ks.zip ds)).map (·.2)) := by
  unfold sortBy at h
  split at h
  · rename_i ok
    exact ⟨ok, (Option.some.inj h).symm⟩
  · cases h
theorem cr_key {q0 : Addr} {fd : FuncData} {ps : List Str} {k : Nat} {g : List D → Option D} (hu : X.A.units + 65 < cLine) (Fn : FnOk X.prog X.w X.K X.mg X.base CX0 k q0 fd ps (spD X.K 1 g)) (hb : Binds X.K fd ps []) (hr : Room (k + 2) X.A) :
    CallRK X (.builtin "sorted") [Str.ofString "key"] (rKey X q0 fun ds => mapO (fun d => g [d]) ds) := by
  intro pins s σ H vs zs us ws Q I r rz ⟨F, ds, kz, v, d, e1, e2, hT, hF, hb2, hg, hl, hd, q⟩
  subst e1
  subst e2
  obtain ⟨ok, rfl⟩ := sortBy_some hd
  obtain ⟨l, xs, rfl, h3, h4⟩ := hb2.l
  rw [Vals.ref1 r]
  obtain ⟨w1, rfl, e1⟩ := vals1 rz
  obtain rfl : w1 = Value.ref q0 := e1
  exact sorted_key I h3 h4 hl ok hu hF (fun us hv => turns_def Fn hb hr hv h4 hF hT hg) q
theorem pd_srtFn {f : Nat} {x : Str} {k : Nat} (hu : X.A.units + 65 < cLine) (B : Bl X.mg) (C : Cal X k x 1 (c f)) (hr : Room (k + 2) X.A) (hg : Gl X (Str.ofString "sorted")) (hx : Gl X x) (hd : (x == ("__debug__" : Str)) = false) (ha : PE X a (tDB X.K fa)) (hs : starEach [a] X.env = (false, eval a X.env) :: starEach [] X.env) :
    PE X (.Call (.Name "sorted" p) [a] [⟨some "key", .Name x p2, p3⟩] pos) (tD X.K fun ρ => (fa ρ).bind fun x => srtF c (.fn f) x) := by
  obtain ⟨q0, fd, ps, hF, hm, hk, hb⟩ := C.ex
  have h := pe_callBK (kws := [⟨some "key", .Name x p2, p3⟩]) (p := p) (pos := pos) (cr_key hu hF hb hr) hg B.sorted (by decide +kernel) (pa_cons ha pa_nil hs) (pk_cons (pe_glob hx hm (v := .ref q0) rfl hd) pk_nil) (he := starK hs) (hpl := by rw [starK hs]; rfl)
  refine ⟨fun pins s σ H Q I ⟨F, ρ, d, e, hf, q⟩ => h.run pins s σ H Q I ?_⟩
  obtain ⟨y, h1, h2⟩ := some_bind hf
  cases y <;> simp only [srtF] at h2 <;> try (cases h2; done)
  rename_i ds
  obtain ⟨kz, h3, h4⟩ := some_bind h2
  exact ⟨F, ρ, .list ds, e, h1, fun v H1 s1 r1 => ⟨F, ds, kz, v, d, rfl, rfl, (e.ext s1).tab, hid e s1, r1, h3, (mapO_at h3).1, h4, fun v' H' s' r' => q v' H' (s1.trans s') r'⟩⟩
theorem pd_srtLam {y : Str} {params : Arguments} {body : Expr} {scope : Scope} {k : Nat} (hu : X.A.units + 65 < cLine) (B : Bl X.mg) (L : LamOk y params body scope) (TB : LamX.TabB X.base X.mg (cL X.K) (tL X.K)) (hcode : X.env.code = .ref (cL X.K)) (hq : X.env.qual ++ "<lambda>" = qL)
    (hdef : defaultsOf params X.env = ([], [])) (hr : Room (k + 3) X.A) (hg : Gl X (Str.ofString "sorted")) (ha : PE X a (tDB X.K fa)) (hs : starEach [a] X.env = (false, eval a X.env) :: starEach [] X.env) :
    PE X (.Call (.Name "sorted" p) [a] [⟨some "key", .Lambda params body scope p2, p3⟩] pos) (tD X.K fun ρ => (fa ρ).bind fun x => srtF c .lam x) := by
  refine ⟨fun pins s σ H Q I ⟨F, ρ, d, e, hf, q⟩ => ?_⟩
  obtain ⟨y, h1, h2⟩ := some_bind hf
  cases y <;> simp only [srtF] at h2 <;> try (cases h2; done)
  rename_i ds
  obtain ⟨kz, h3, h4⟩ := some_bind h2
  obtain ⟨ok, rfl⟩ := sortBy_some h4
  have hfree : ∀ y ∈ scope.names, y.2 = .free → ∃ c, X.env.cells.lookup y.1 = some c := fun y hy e => absurd e (L.own y hy).2
  have hclo : cloFrom X.env.cells scope.names [] = [] := by
    cases h : cloFrom X.env.cells scope.names [] with
    | nil => rfl
    | cons p r =>
      obtain ⟨n, c⟩ := p
      rcases cloFrom_mem (cells := X.env.cells) (names := scope.names) (acc := []) (n := n) (c := c) (by rw [h]; exact List.mem_cons_self) with z | ⟨z, _⟩
      · cases z
      · exact absurd rfl (L.own _ z).2
  refine wpAny_Call_Name_kw (ld_blt (u := .builtin "sorted") I hg B.sorted (by decide +kernel) ?_)
  refine PyProof.Rows.callWith_kw (thn ((pa_cons ha pa_nil hs).run pos pins s σ H (fun vs H1 => ∃ v, vs = [v] ∧ Sm X.K H H1 ∧ Rb X.K F H1 v (.list ds)) I ⟨F, ρ, _, e, h1, fun v H1 s1 r1 => ⟨v, rfl, s1, r1⟩⟩) fun us s1 ⟨vs, H1, I1, r1, v, ev, sm1, rb⟩ => ?_) (starK hs) (by rw [starK hs]; rfl) rfl rfl
  subst ev
  obtain ⟨l, xs, rfl, g3, g4⟩ := rb.l
  rw [Vals.ref1 r1]
  show wpAny _ _ (evalAll ((do let v ← eval (.Lambda params body scope p2) X.env; standAt pos; pure v) :: [])) _ _ s1
  have e1 := e.ext sm1
  have T1 : LamX.Tabs [(tL X.K, X.env.qual ++ "<lambda>")] H1 := fun p hp => by
    rw [List.mem_singleton.mp hp, hq]
    exact e1.tab
  refine wpAny_evalAll_cons (wpAny_bind (LamX.lam_make2 I1 TB hcode (List.mem_singleton.mpr rfl) (fun p hp _ => by rw [List.mem_singleton.mp hp]) T1 hdef hfree fun f c' pm ctv H2 s2 I2 eN T2 hf2 hfn hfr hco => wpAny_bind (wpAny_standAt (wpAny_pure (wpAny_evalAll_nil ?_)))))
  rw [hclo] at hf2
  rw [hq] at hf2 hco T2
  have sm2 : Sm X.K H1 H2 := ⟨⟨fun b o n eb => eN b o eb fun ps z => by rw [z] at n; cases n⟩, fun _ => T2 _ (List.mem_singleton.mpr rfl)⟩
  have hF2 := hid e (sm1.trans sm2)
  have T3 := (e.ext (sm1.trans sm2)).tab
  have I3 : Inv X ((f, PySem.W.kla_obj "<lambda>" qL params body scope [] pm c' ctv) :: pins) σ H2 s2 := I2.pins_of fun p hp => by
    rcases List.mem_cons.mp hp with rfl | hp
    · refine ⟨hf2, hfn, fun z => ?_, fun z => hfr ?_, fun v z => by cases z⟩
      · obtain ⟨m, ⟨o, es, ep, ho, hd, _⟩, _⟩ := I2.loc
        have z : f = X.env.locals := z
        rw [← z, hf2] at ho
        cases ho
        cases hd
      · rcases I2.ok.stk with z2 | z2
        · rw [z2]; exact z
        · obtain ⟨z2, z3⟩ := z2
          rw [z2]
          show f ∈ List.filterMap _ (X.env :: X.outer)
          rw [List.filterMap_cons]
          split
          · exact z
          · exact List.mem_cons_of_mem _ z
    · exact I2.pin p (List.mem_append_right _ hp)
  have r4 : RpL X.K (mask F H2) xs ds := g4.up (mm sm2)
  refine wpAny_mono (sorted_key (Q := Q) I3 (sm2.b.lst g3) r4 (mapO_at h3).1 ok hu hF2 (fun us hv => turns_lam L B List.mem_cons_self hco hr hv r4 hF2 T3 h3) fun v' H' s' r' => q v' H' ((sm1.trans sm2).trans s') r') (fun u s' ⟨v, H', I4, rv, hQ⟩ => ⟨v, H', unpin1 I4, rv, hQ⟩) fun _ _ z => z
/-! sets -/
theorem ints_back {K : PySem.W.Frag} {M : Hp} : ∀ {ds : List D} {vs : List V} {ts : List (List Int)}, RpL K M vs ds → mapO tupI ds = some ts →
    ∃ ks : List (Addr × List Int), vs = ks.map (fun p => V.ref p.1) ∧ ks.map (·.2) = ts ∧ ∀ p ∈ ks, SqT K M p.1 (p.2.map V.int)
  | [], _, ts, .nil, h => by
    simp only [mapO, Option.some.injEq] at h
    subst h
    exact ⟨[], rfl, rfl, fun p hp => nomatch hp⟩
  | d :: ds, _, ts, .cons a b, h => by
    simp only [mapO] at h
    obtain ⟨t, h1, h⟩ := some_bind h
    obtain ⟨ys, h2, h⟩ := some_bind h
    cases h
    obtain ⟨ks, e1, e2, e3⟩ := ints_back b h2
    cases d <;> simp only [tupI] at h1 <;> try (cases h1; done)
    obtain ⟨q, xs, rfl, g1, g2⟩ := a.t
    obtain ⟨rfl, _⟩ := g2.ints h1
    refine ⟨(q, t) :: ks, by rw [e1]; rfl, by rw [← e2]; rfl, fun p hp => ?_⟩
    rcases List.mem_cons.mp hp with rfl | hp
    · exact g1
    · exact e3 p hp
theorem rp_decI {K : PySem.W.Frag} {M : Hp} : ∀ {L : List (Addr × List Int)}, (∀ p ∈ L, SqT K M p.1 (p.2.map V.int)) → RpL K M (L.map fun q => V.ref q.1) ((L.map (·.2)).map decI)
  | [], _ => .nil
  | p :: L, h => .cons (.tup (h p List.mem_cons_self) (rpL_ints _)) (rp_decI fun q hq => h q (List.mem_cons_of_mem _ hq))
theorem setS_none {ds : List D} {d : D} (h0 : intsD ds = none) (h : setS ds = some d) : ∃ ts, mapO tupI ds = some ts ∧ ts.length ≤ 60 ∧ (∀ t ∈ ts, t.length = 2 ∧ ∀ i ∈ t, 0 ≤ i ∧ i < 64) ∧ d = .list ((isort ltI (dedup ts)).map decI) := by
  unfold setS at h
  rw [h0] at h
  obtain ⟨ts, h1, h⟩ := some_bind h
  split at h
  · rename_i hc
    obtain ⟨c1, c2⟩ := Bool.and_eq_true_iff.mp hc
    refine ⟨ts, h1, Nat.ble_eq.mp c1, fun t ht => ?_, (Option.some.inj h).symm⟩
    have := List.all_eq_true.mp c2 t ht
    simp only [Bool.and_eq_true, decide_eq_true_eq, List.all_eq_true] at this
    exact this
  · cases h
theorem setS_some {ds : List D} {ns : List Int} {d : D} (h0 : intsD ds = some ns) (h : setS ds = some d) : ns.length ≤ 60 ∧ d = .list ((isort (fun a b => decide (a < b)) (dedup ns)).map PyData.int) := by
  unfold setS at h
  rw [h0] at h
  simp only at h
  split at h
  · rename_i c
    exact ⟨Nat.ble_eq.mp c, (Option.some.inj h).symm⟩
  · cases h
theorem pd_srtSet (hc : X.calm = true) (hu : X.A.units + 65 < cLine) (B : Bl X.mg) (hg : Gl X (Str.ofString "sorted")) (hg2 : Gl X (Str.ofString "set")) (ha : PE X a (tDB X.K fa)) (hs : starEach [a] X.env = (false, eval a X.env) :: starEach [] X.env) :
    PE X (.Call (.Name "sorted" p) [.Call (.Name "set" p2) [a] [] p3] [] pos) (tD X.K fun ρ => (fa ρ).bind fun x => srtF c .setL x) := by
  have hE1 := pe_callB (p := p) (pos := pos) (cr_sortedSet hc) hg B.sorted (by decide +kernel) (pa_cons (pe_callTy (p := p2) (pos := p3) (cr_setI hc) hg2 B.set (by decide +kernel) (pa_cons ha pa_nil hs) (he := hs) (hpl := rfl)) pa_nil rfl) (he := rfl) (hpl := rfl)
  have hE2 := pe_callB (p := p) (pos := pos) (cr_sortedT hc) hg B.sorted (by decide +kernel) (pa_cons (pe_callTy (p := p2) (pos := p3) (cr_setOfT hc (by omega)) hg2 B.set (by decide +kernel) (pa_cons ha pa_nil hs) (he := hs) (hpl := rfl)) pa_nil rfl) (he := rfl) (hpl := rfl)
  refine ⟨fun pins s σ H Q I ⟨F, ρ, d, e, hf, q⟩ => ?_⟩
  obtain ⟨x, h1, h2⟩ := some_bind hf
  have key : ∀ ds, itemsOf x = some ds → setS ds = some d → (∀ ns, intsD ds = some ns → wpAny (model X.prog X.w) X.A (eval (.Call (.Name "sorted" p) [.Call (.Name "set" p2) [a] [] p3] [] pos) X.env) (EP X pins σ Q) X.xe s) := by
    intro ds hi hd ns h0
    obtain ⟨few, rfl⟩ := setS_some h0 hd
    refine hE1.run pins s σ H Q I ⟨F, ρ, x, e, h1, fun v H1 s1 r1 => ?_⟩
    have hsq : ∃ l, v = .ref l ∧ (SqL X.K H1 l (ns.map V.int) ∨ SqT X.K H1 l (ns.map V.int)) := by
      cases x <;> simp only [itemsOf] at hi <;> cases hi
      · obtain ⟨l, xs, rfl, g1, g2⟩ := r1.l
        obtain ⟨rfl, _⟩ := g2.ints h0
        exact ⟨l, rfl, .inl (.inl (.inl g1))⟩
      · obtain ⟨l, xs, rfl, g1, g2⟩ := r1.t
        obtain ⟨rfl, _⟩ := g2.ints h0
        exact ⟨l, rfl, .inr (sqT_un g1)⟩
    obtain ⟨l, rfl, hsq⟩ := hsq
    refine ⟨l, ns, rfl, hsq, by omega, fun p1 c hp1 hcl => ⟨p1, _, c, rfl, upd_same, by omega, fun ns2 p2' hpw hmem _ hp2 => ?_⟩⟩
    have e2 : ns2 = isort (fun a b => decide (a < b)) (dedup ns) := setS_uniq ltZ_tr ltZ_as ltZ_tot (hpw.imp fun h => decide_eq_true h) fun x => by rw [hmem x, decide_eq_true_eq]
    subst e2
    exact q _ _ ((s1.trans (sm_upd hp1)).trans (sm_upd hp2)) (rp_lst (hid e (s1.trans (sm_upd hp1))) hp2 (rpL_ints _))
  cases x <;> simp only [srtF] at h2 <;> try (cases h2; done)
  · rename_i ds
    cases h0 : intsD ds with
    | some ns => exact key ds rfl h2 ns h0
    | none =>
      obtain ⟨ts, h3, few, hts, rfl⟩ := setS_none h0 h2
      refine hE2.run pins s σ H Q I ⟨F, ρ, .list ds, e, h1, fun v H1 s1 r1 => ?_⟩
      obtain ⟨l, xs, rfl, g1, g2⟩ := r1.l
      obtain ⟨ks, rfl, e2, e3⟩ := ints_back g2 h3
      have hkl : ks.length = ts.length := by rw [← e2, List.length_map]
      refine ⟨l, ks, rfl, .inl (.inl g1), fun p hp => sqT_un (e3 p hp), by omega, fun p1 L hp1 hL1 hL2 => ?_⟩
      have hb : ∀ q ∈ L, q.2.length = 2 ∧ TS.Bd 64 q.2 := fun q hq => hts q.2 (by rw [← e2]; exact List.mem_map_of_mem (hL1 q hq))
      have sq2 : ∀ (H2 : Hp) (s2 : Sm X.K H1 H2), ∀ q ∈ L, SqT X.K (mask F H2) q.1 (q.2.map V.int) := fun H2 s2 q hq => (mm s2).seqT (e3 q (hL1 q hq))
      refine ⟨p1, L, 2, 64, rfl, upd_same, fun q hq => sqT_un (sq2 _ (sm_upd hp1) q hq), by omega, hb, fun L' p2' hperm hnd _ hpw hp2 => ?_⟩
      have sm := (sm_upd hp1).trans (sm_upd (K := X.K) (o := HO.lst (L'.map fun q => V.ref q.1)) hp2)
      have asc : (L'.map (·.2)).Pairwise (fun a b => ltI a b = true) := by
        rw [List.pairwise_map]
        have hnd' := List.pairwise_map.mp hnd
        refine List.Pairwise.imp_of_mem (R := fun q r => TS.code 64 q.2 ≤ TS.code 64 r.2 ∧ q.2 ≠ r.2) (fun {q r} hq hr h => ?_) (hpw.and hnd')
        obtain ⟨l1, b1⟩ := hb q (hperm.mem_iff.mp hq)
        obtain ⟨l2, b2⟩ := hb r (hperm.mem_iff.mp hr)
        obtain ⟨q1, qn⟩ := q
        obtain ⟨r1, rn⟩ := r
        match qn, l1, b1, rn, l2, b2, h with
        | [x, y], _, b1, [x', y'], _, b2, h =>
          have c1 := b1 x (by simp)
          have c2 := b1 y (by simp)
          have c3 := b2 x' (by simp)
          have c4 := b2 y' (by simp)
          rcases pair_lt h.1 h.2 c1 c2 c3 c4 with z | ⟨z1, z2⟩
          · unfold ltI
            rw [if_neg (by omega)]
            exact decide_eq_true z
          · subst z1
            unfold ltI
            rw [if_pos rfl]
            unfold ltI
            rw [if_neg (by omega)]
            exact decide_eq_true z2
      have e4 : L'.map (·.2) = isort ltI (dedup ts) := setS_uniq ltI_tr ltI_as ltI_tot asc fun t => by
        constructor
        · intro ht
          obtain ⟨q, hq, rfl⟩ := List.mem_map.mp ht
          rw [← e2]
          exact List.mem_map_of_mem (hL1 q (hperm.mem_iff.mp hq))
        · intro ht
          rw [← e2] at ht
          obtain ⟨q, hq, rfl⟩ := List.mem_map.mp ht
          obtain ⟨r, hr, e5⟩ := List.mem_map.mp (hL2 q hq)
          exact List.mem_map.mpr ⟨r, hperm.mem_iff.mpr hr, e5⟩
      rw [← e4] at q
      refine q _ _ (s1.trans sm) (rp_lst (hid e (s1.trans (sm_upd hp1))) hp2 ?_)
      exact rp_decI fun q hq => sq2 _ (sm_upd hp1) q (hperm.mem_iff.mp hq)
  · rename_i ds
    cases h0 : intsD ds with
    | some ns =>
      rw [h0] at h2
      exact key ds rfl h2 ns h0
    | none =>
      rw [h0] at h2
      cases h2
end
end PV
end
section -- Snd6
/-! Statements: what the evaluator says implies the readings. -/
namespace PV
open PySem PySem.Spec L2
open PyProof.Rows hiding St
/-! ### new lists -/
section
variable {X : Cx} {a : Expr} {fa : Rho → Option D} {pos p : Pos}
theorem pn_nil : PE X (.List [] pos) (tDN X.K fun _ => some (.list [])) := ⟨fun pins s σ H Q I ⟨F, ρ, d, e, hf, q⟩ => by
  cases hf
  exact (pe_lst pa_nil).run pins s σ H Q I ⟨by decide, fun t ht => q t [] [] _ rfl (sm_upd ht) (fun z => z.ne ht) upd_same .nil⟩⟩
theorem pn_list (B : Bl X.mg) (hg : Gl X (Str.ofString "list")) (ha : PE X a (tDB X.K fa)) (hs : starEach [a] X.env = (false, eval a X.env) :: starEach [] X.env) :
    PE X (.Call (.Name "list" p) [a] [] pos) (tDN X.K fun ρ => (fa ρ).bind fun x => f1F .list x) := ⟨fun pins s σ H Q I ⟨F, ρ, d, e, hf, q⟩ => by
  obtain ⟨x, h1, hf⟩ := some_bind hf
  refine (pe_callTy call_list_of hg B.list (by decide +kernel) (pa_cons ha pa_nil hs) (he := hs) (hpl := rfl)).run pins s σ H Q I ⟨F, ρ, x, e, h1, fun v H1 s1 r1 => ?_⟩
  have fin : ∀ (vs : List V) (ds : List D), d = .list ds → RpL X.K (mask F H1) vs ds → ∀ l, H1 l = none → Q (.ref l) (upd H1 l (.lst vs)) := fun vs ds ed rd l hl =>
    q l vs ds _ ed (s1.trans (sm_upd hl)) (fun z => (s1.b.dom l z).ne hl) upd_same (rd.up (mask_more (sb_upd hl) fun a ha => by
      rcases List.mem_cons.mp ha with rfl | ha
      · exact .inr hl
      · exact .inl ha))
  cases x <;> simp only [f1F] at hf <;> cases hf
  · obtain ⟨t, xs, rfl, e1, l1⟩ := r1.l
    exact ⟨t, xs, rfl, .inl (.inl (.inl e1)), fin xs _ rfl l1⟩
  · obtain ⟨t, xs, rfl, e1, l1⟩ := r1.t
    exact ⟨t, xs, rfl, .inr (sqT_un e1), fin xs _ rfl l1⟩⟩
end
/-! ### where a statement stands -/
/-- M₀: the heap at the def's entry; F₀: the lists that its callers own -/
structure SS (K : PySem.W.Frag) (M₀ : Hp) (F₀ : List Addr) (ρ : Rho) (σ : St) (H : Hp) : Prop where
  sb : Sb M₀ H
  tab : TabP K H
  f0 : ∀ a ∈ F₀, Hs M₀ a
  sl : ∃ O, Sl K (mask (O ++ F₀) H) H ρ σ O ∧ O.Nodup ∧ ∀ p ∈ O, ¬ Hs M₀ p
def tS (K : PySem.W.Frag) (f : Rho → Option Out) : TS := fun D σ H => ∃ M₀ F₀ ρ o, SS K M₀ F₀ ρ σ H ∧ f ρ = some o ∧ match o with
  | .nx ρ' => ∀ σ' H', SS K M₀ F₀ ρ' σ' H' → D.nx σ' H'
  | .ret d => ∀ v H', Sb M₀ H' → TabP K H' → Rp K (mask F₀ H') v d → D.rt v H'
section
variable {K : PySem.W.Frag} {M₀ : Hp} {F₀ : List Addr} {ρ ρ' : Rho} {σ σ' : St} {H H' H1 : Hp} {D0 : Ends} {O : List Addr}
theorem sl_es (ss : SS K M₀ F₀ ρ σ H) (h : Sl K (mask (O ++ F₀) H) H ρ σ O) : ES K (O ++ F₀) ρ σ H := ⟨fun a ha => by
  rcases List.mem_append.mp ha with ha | ha
  · obtain ⟨vs, e⟩ := h.there a ha
    exact .l e
  · exact ss.sb.dom a (ss.f0 a ha), ⟨O, h, fun p hp => List.mem_append_left _ hp⟩, ss.tab⟩
theorem nx_some {r : Option Rho} {o : Out} (h : nxO r = some o) : ∃ ρ', r = some ρ' ∧ o = .nx ρ' := by
  obtain ⟨ρ', h1, h2⟩ := some_bind h
  exact ⟨ρ', h1, (Option.some.inj h2).symm⟩
/-- the slots after a step -/
theorem sl_step (h : Sl K (mask (O ++ F₀) H) H ρ σ O) (s : Sm K H H1) : Sl K (mask (O ++ F₀) H1) H1 ρ σ O := Sl.step (mm s) (fun p _ vs e => s.b.lst e) h
theorem ss_at (ss : SS K M₀ F₀ ρ σ H) (s : Sm K H H1) (h : Sl K (mask (O ++ F₀) H1) H1 ρ' σ' O) (nd : O.Nodup) (hn : ∀ p ∈ O, ¬ Hs M₀ p) : SS K M₀ F₀ ρ' σ' H1 := ⟨ss.sb.trans s.b, s.t ss.tab, ss.f0, O, h, nd, hn⟩
theorem rs_asg {fe : Rho → Option D} {t : T} (h : tS K (fun ρ => (fe ρ).bind fun d => nxO (bindT t d ρ)) D0 σ H) : tAsg (tD K fe) (gOf K t) D0 σ H := by
  obtain ⟨M₀, F₀, ρ, o, ss, hf, q⟩ := h
  obtain ⟨d, h1, hf⟩ := some_bind hf
  obtain ⟨ρ', hb, rfl⟩ := nx_some hf
  obtain ⟨O, sl, nd, hn⟩ := id ss.sl
  exact ⟨O ++ F₀, ρ, d, sl_es ss sl, h1, fun v H1 s1 r1 => g_ok (mask_same _ _) t r1 (sl_step sl s1) hb fun σ' hs' _ => q σ' H1 (ss_at ss s1 hs' nd hn)⟩
theorem setO_ok {i : Nat} {d : D} (h : setO ρ i d = some ρ') : ∃ ds, d = .list ds ∧ i < ρ.length ∧ ρ' = ρ.set i (.own ds) := by
  cases d <;> simp only [setO] at h <;> try (cases h; done)
  split at h
  · rename_i c
    exact ⟨_, rfl, Nat.blt_eq.mp c, (Option.some.inj h).symm⟩
  · cases h
/-- a new list goes into a slot -/
theorem sl_new {i : Nat} {p : Addr} {vs : List V} {ds : List D} (ss : SS K M₀ F₀ ρ σ H) (sl : Sl K (mask (O ++ F₀) H) H ρ σ O) (nd : O.Nodup) (hn : ∀ p ∈ O, ¬ Hs M₀ p) (s1 : Sm K H H1) (hp : ¬ Hs H p) (hv : H1 p = some (.lst vs)) (r : RpL K (mask (p :: (O ++ F₀)) H1) vs ds) (hi : i < ρ.length) :
    ∃ O', Sl K (mask (O' ++ F₀) H1) H1 (ρ.set i (.own ds)) (σ.set i (some (.ref p))) O' ∧ O'.Nodup ∧ (∀ q ∈ O', ¬ Hs M₀ q) ∧ ∀ q ∈ O', q = p ∨ q ∈ O := by
  have es := sl_es ss sl
  have pO : p ∉ O := fun z => hp (es.dom p (List.mem_append_left _ z))
  have s2 : Sl K (mask (p :: (O ++ F₀)) H1) H1 ρ σ O := Sl.step (mask_moreN s1.b fun a ha => by
    rcases List.mem_cons.mp ha with rfl | ha
    · exact .inr hp
    · exact .inl ha) (fun p _ vs e => s1.b.lst e) sl
  obtain ⟨O', h1, h2, h3⟩ := Sl.new hv r hi s2
  refine ⟨O', Sl.step (mask_less fun a ha => ?_) (fun _ _ _ e => e) h1, h3 nd pO, fun q hq => ?_, h2⟩
  · rcases List.mem_append.mp ha with ha | ha
    · rcases h2 a ha with rfl | z
      · exact List.mem_cons_self
      · exact List.mem_cons_of_mem _ (List.mem_append_left _ z)
    · exact List.mem_cons_of_mem _ (List.mem_append_right _ ha)
  · rcases h2 q hq with rfl | z
    · exact fun w => hp (ss.sb.dom _ w)
    · exact hn q z
theorem rs_new {fe : Rho → Option D} {i : Nat} (h : tS K (fun ρ => (fe ρ).bind fun d => nxO (setO ρ i d)) D0 σ H) : tAsg (tDN K fe) (gName i) D0 σ H := by
  obtain ⟨M₀, F₀, ρ, o, ss, hf, q⟩ := h
  obtain ⟨d, h1, hf⟩ := some_bind hf
  obtain ⟨ρ', hb, rfl⟩ := nx_some hf
  obtain ⟨ds', rfl, hi, rfl⟩ := setO_ok hb
  obtain ⟨O, sl, nd, hn⟩ := id ss.sl
  refine ⟨O ++ F₀, ρ, _, sl_es ss sl, h1, fun p vs ds H1 ed s1 hp hv r => ?_⟩
  cases ed
  obtain ⟨O', g1, g2, g3, _⟩ := sl_new ss sl nd hn s1 hp hv r hi
  exact q _ H1 (ss_at ss s1 g1 g2 g3)
theorem rs_par2 {fa fb : Rho → Option D} {i j : Nat} (h : tS K (fun ρ => (fa ρ).bind fun x => (fb ρ).bind fun y => nxO ((setV ρ i x).bind fun ρ' => setV ρ' j y)) D0 σ H) :
    (tCons (tD K fa) (tCons (tD K fb) tNil)) σ H fun vs H1 => ∃ v w, vs = [v, w] ∧ ∀ H2, Sm K H1 H2 → D0.nx ((σ.set i (some v)).set j (some w)) H2 := by
  obtain ⟨M₀, F₀, ρ, o, ss, hf, q⟩ := h
  obtain ⟨x, h1, hf⟩ := some_bind hf
  obtain ⟨y, h2, hf⟩ := some_bind hf
  obtain ⟨ρ', hb, rfl⟩ := nx_some hf
  obtain ⟨ρ1, hb1, hb2⟩ := some_bind hb
  obtain ⟨_, o1, rfl⟩ := setV_ok hb1
  obtain ⟨_, o2, rfl⟩ := setV_ok hb2
  obtain ⟨O, sl, nd, hn⟩ := id ss.sl
  have es := sl_es ss sl
  refine ⟨O ++ F₀, ρ, x, es, h1, fun v H1 s1 r1 => ⟨O ++ F₀, ρ, y, es.ext s1, h2, fun w H2 s2 r2 => ⟨v, w, rfl, fun H3 s3 => ?_⟩⟩⟩
  have s := (s1.trans s2).trans s3
  exact q _ H3 (ss_at ss s (Sl.setV (r2.up (mm s3)) (Sl.setV (r1.up (mm (s2.trans s3))) (sl_step sl s) o1) o2) nd hn)
theorem rs_par3 {fa fb fc : Rho → Option D} {i j l : Nat} (h : tS K (fun ρ => (fa ρ).bind fun x => (fb ρ).bind fun y => (fc ρ).bind fun z => nxO ((setV ρ i x).bind fun ρ' => (setV ρ' j y).bind fun ρ' => setV ρ' l z)) D0 σ H) :
    (tCons (tD K fa) (tCons (tD K fb) (tCons (tD K fc) tNil))) σ H fun vs H1 => ∃ v w u, vs = [v, w, u] ∧ ∀ H2, Sm K H1 H2 → D0.nx (((σ.set i (some v)).set j (some w)).set l (some u)) H2 := by
  obtain ⟨M₀, F₀, ρ, o, ss, hf, q⟩ := h
  obtain ⟨x, h1, hf⟩ := some_bind hf
  obtain ⟨y, h2, hf⟩ := some_bind hf
  obtain ⟨z, h3, hf⟩ := some_bind hf
  obtain ⟨ρ', hb, rfl⟩ := nx_some hf
  obtain ⟨ρ1, hb1, hb⟩ := some_bind hb
  obtain ⟨ρ2, hb2, hb3⟩ := some_bind hb
  obtain ⟨_, o1, rfl⟩ := setV_ok hb1
  obtain ⟨_, o2, rfl⟩ := setV_ok hb2
  obtain ⟨_, o3, rfl⟩ := setV_ok hb3
  obtain ⟨O, sl, nd, hn⟩ := id ss.sl
  have es := sl_es ss sl
  refine ⟨O ++ F₀, ρ, x, es, h1, fun v H1 s1 r1 => ⟨O ++ F₀, ρ, y, es.ext s1, h2, fun w H2 s2 r2 => ⟨O ++ F₀, ρ, z, es.ext (s1.trans s2), h3, fun u H3 s3 r3 => ⟨v, w, u, rfl, fun H4 s4 => ?_⟩⟩⟩⟩
  have s := ((s1.trans s2).trans s3).trans s4
  exact q _ H4 (ss_at ss s (Sl.setV (r3.up (mm s4)) (Sl.setV (r2.up (mm (s3.trans s4))) (Sl.setV (r1.up (mm ((s2.trans s3).trans s4))) (sl_step sl s) o1) o2) o3) nd hn)
theorem rs_newP {fa fb : Rho → Option D} {i j : Nat} (h : tS K (fun ρ => (fa ρ).bind fun x => (fb ρ).bind fun y => nxO ((setO ρ i x).bind fun ρ' => setV ρ' j y)) D0 σ H) :
    (tCons (tDN K fa) (tCons (tD K fb) tNil)) σ H fun vs H1 => ∃ v w, vs = [v, w] ∧ ∀ H2, Sm K H1 H2 → D0.nx ((σ.set i (some v)).set j (some w)) H2 := by
  obtain ⟨M₀, F₀, ρ, o, ss, hf, q⟩ := h
  obtain ⟨x, h1, hf⟩ := some_bind hf
  obtain ⟨y, h2, hf⟩ := some_bind hf
  obtain ⟨ρ', hb, rfl⟩ := nx_some hf
  obtain ⟨ρ1, hb1, hb2⟩ := some_bind hb
  obtain ⟨ds', rfl, hi, rfl⟩ := setO_ok hb1
  obtain ⟨_, o2, rfl⟩ := setV_ok hb2
  obtain ⟨O, sl, nd, hn⟩ := id ss.sl
  have es := sl_es ss sl
  refine ⟨O ++ F₀, ρ, _, es, h1, fun p vs ds H1 ed s1 hp hv r => ?_⟩
  cases ed
  have e1 := es.ext s1
  have es1 : ES K (p :: (O ++ F₀)) ρ σ H1 := by
    refine ⟨fun a ha => ?_, ⟨O, Sl.step (mask_moreN s1.b fun a ha => ?_) (fun p _ vs e => s1.b.lst e) sl, fun q hq => List.mem_cons_of_mem _ (List.mem_append_left _ hq)⟩, e1.tab⟩
    · rcases List.mem_cons.mp ha with rfl | ha
      · exact .l hv
      · exact e1.dom a ha
    · rcases List.mem_cons.mp ha with rfl | ha
      · exact .inr hp
      · exact .inl ha
  refine ⟨p :: (O ++ F₀), ρ, y, es1, h2, fun w H2 s2 r2 => ⟨.ref p, w, rfl, fun H3 s3 => ?_⟩⟩
  have s := (s1.trans s2).trans s3
  obtain ⟨O', g1, g2, g3, g4⟩ := sl_new ss sl nd hn s hp ((s2.trans s3).b.lst hv) (r.up (mm (s2.trans s3))) hi
  refine q _ H3 (ss_at ss s (Sl.setV ((r2.up (mm s3)).up (mask_less fun a ha => ?_)) g1 o2) g2 g3)
  rcases List.mem_append.mp ha with ha | ha
  · rcases g4 a ha with rfl | z
    · exact List.mem_cons_self
    · exact List.mem_cons_of_mem _ (List.mem_append_left _ z)
  · exact List.mem_cons_of_mem _ (List.mem_append_right _ ha)
theorem rs_aug {fe : Rho → Option D} {i : Nat} (h : tS K (fun ρ => ((getV ρ i).bind intO).bind fun x => ((fe ρ).bind intO).bind fun y => nxO (setV ρ i (.int (x + y)))) D0 σ H) : tAug i (tD K fe) (ipI fun i j => i + j) D0 σ H := by
  obtain ⟨M₀, F₀, ρ, o, ss, hf, q⟩ := h
  obtain ⟨x, h1, hf⟩ := some_bind hf
  obtain ⟨y, h2, hf⟩ := some_bind hf
  obtain ⟨ρ', hb, rfl⟩ := nx_some hf
  obtain ⟨_, o1, rfl⟩ := setV_ok hb
  obtain ⟨O, sl, nd, hn⟩ := id ss.sl
  obtain ⟨v, g1, g2⟩ := sl.getV (intO_some h1)
  refine ⟨v, g1, O ++ F₀, ρ, _, sl_es ss sl, intO_some h2, fun w H1 s1 r1 => ⟨x, y, g2.i, r1.i, ?_⟩⟩
  exact q _ H1 (ss_at ss s1 (Sl.setV (.int _) (sl_step sl s1) o1) nd hn)
theorem rs_ret {fe : Rho → Option D} (h : tS K (fun ρ => (fe ρ).bind fun d => some (.ret d)) D0 σ H) : tRet (tD K fe) D0 σ H := by
  obtain ⟨M₀, F₀, ρ, o, ss, hf, q⟩ := h
  obtain ⟨d, h1, hf⟩ := some_bind hf
  cases hf
  obtain ⟨O, sl, nd, hn⟩ := id ss.sl
  exact ⟨O ++ F₀, ρ, d, sl_es ss sl, h1, fun v H1 s1 r1 => q v H1 (ss.sb.trans s1.b) (s1.t ss.tab) (r1.up (mask_less fun a ha => List.mem_append_right _ ha))⟩
theorem rs_ex {fe : Rho → Option D} (h : tS K (fun ρ => (fe ρ).bind fun _ => some (.nx ρ)) D0 σ H) : tDrop (tD K fe) D0 σ H := by
  obtain ⟨M₀, F₀, ρ, o, ss, hf, q⟩ := h
  obtain ⟨d, h1, hf⟩ := some_bind hf
  cases hf
  obtain ⟨O, sl, nd, hn⟩ := id ss.sl
  exact ⟨O ++ F₀, ρ, d, sl_es ss sl, h1, fun v H1 s1 r1 => q σ H1 (ss_at ss s1 (sl_step sl s1) nd hn)⟩
theorem rs_ite {ft : Rho → Option D} {fa fb : Rho → Option Out} (h : tS K (fun ρ => ((ft ρ).bind boolO).bind fun x => if x then fa ρ else fb ρ) D0 σ H) : tIfS (tDT K ft) (tS K fa) (tS K fb) D0 σ H := by
  obtain ⟨M₀, F₀, ρ, o, ss, hf, q⟩ := h
  obtain ⟨b, h1, hf⟩ := some_bind hf
  obtain ⟨O, sl, nd, hn⟩ := id ss.sl
  refine ⟨O ++ F₀, ρ, b, sl_es ss sl, boolO_some h1, fun H1 s1 => ?_⟩
  have ss1 := ss_at ss s1 (sl_step sl s1) nd hn
  cases b with
  | true =>
    rw [if_pos rfl] at hf
    exact iteT ⟨M₀, F₀, ρ, o, ss1, hf, q⟩
  | false =>
    rw [if_neg Bool.false_ne_true] at hf
    exact iteF ⟨M₀, F₀, ρ, o, ss1, hf, q⟩
theorem rs_seq {fa fb : Rho → Option Out} (h : tS K (fun ρ => (fa ρ).bind fun o => match o with
    | .nx ρ' => fb ρ'
    | .ret d => some (.ret d)) D0 σ H) : tSeq (tS K fa) (tS K fb) D0 σ H := by
  obtain ⟨M₀, F₀, ρ, o, ss, hf, q⟩ := h
  obtain ⟨o1, h1, hf⟩ := some_bind hf
  refine ⟨M₀, F₀, ρ, o1, ss, h1, ?_⟩
  cases o1 with
  | nx ρ' => exact fun σ' H' ss' => ⟨M₀, F₀, ρ', o, ss', hf, q⟩
  | ret d =>
    cases hf
    exact q
theorem rs_nil (h : tS K (fun ρ => some (.nx ρ)) D0 σ H) : tNext D0 σ H := by
  obtain ⟨M₀, F₀, ρ, o, ss, hf, q⟩ := h
  cases hf
  exact q σ H ss
theorem rs_never (h : tS K (fun _ => none) D0 σ H) : tNever D0 σ H := by
  obtain ⟨M₀, F₀, ρ, o, ss, hf, q⟩ := h
  cases hf
/-- an own list is a value from now on -/
theorem rs_frz {i : Nat} {f : Rho → Option Out} (h : tS K (fun ρ => (((getO ρ i).bind fun ds => some (Out.nx (ρ.set i (.val (.list ds)))))).bind fun o => match o with
    | .nx ρ' => f ρ'
    | .ret d => some (.ret d)) D0 σ H) : tS K f D0 σ H := by
  obtain ⟨M₀, F₀, ρ, o, ss, hf, q⟩ := h
  obtain ⟨o1, h1, hf⟩ := some_bind hf
  obtain ⟨ds, hg, h1⟩ := some_bind h1
  cases h1
  obtain ⟨O, sl, nd, hn⟩ := id ss.sl
  obtain ⟨p, O', k1, k2, k3, k4, k5⟩ := Sl.frz sl nd hg
  obtain ⟨vs, hp⟩ := sl.there p k4
  have pF : p ∉ F₀ := fun z => hn p k4 (ss.f0 p z)
  refine ⟨M₀, F₀, _, o, ⟨ss.sb, ss.tab, ss.f0, O', k3 _ (mask_less fun a ha => ?_) ⟨vs, hp, ?_⟩, nd.sublist k1, fun q hq => hn q (k1.subset hq)⟩, hf, q⟩
  · rcases List.mem_append.mp ha with ha | ha
    · exact List.mem_append_left _ (k1.subset ha)
    · exact List.mem_append_right _ ha
  · rw [mask_out fun z => (List.mem_append.mp z).elim k2 pF]
    exact hp
/-! ### own lists are changed -/
/-- an own list gets another content -/
theorem ss_put {i : Nat} {p : Addr} {vs : List V} {ds es : List D} {xs : List V} (ss : SS K M₀ F₀ ρ σ H) (sl : Sl K (mask (O ++ F₀) H) H ρ σ O) (nd : O.Nodup) (hn : ∀ p ∈ O, ¬ Hs M₀ p) (hg : getO ρ i = some es) (hs : σ[i]? = some (some (.ref p))) (hO : p ∈ O) (hx : H p = some (.lst xs)) (r : RpL K (mask (O ++ F₀) H) vs ds) :
    SS K M₀ F₀ (ρ.set i (.own ds)) σ (upd H p (.lst vs)) ∧ Sl K (mask (O ++ F₀) (upd H p (.lst vs))) (upd H p (.lst vs)) (ρ.set i (.own ds)) σ O := by
  have e : mask (O ++ F₀) (upd H p (.lst vs)) = mask (O ++ F₀) H := mask_grow (List.mem_append_left _ hO)
  have h1 : Sl K (mask (O ++ F₀) (upd H p (.lst vs))) (upd H p (.lst vs)) (ρ.set i (.own ds)) σ O := by
    rw [e]
    exact Sl.put r sl nd hg hs
  refine ⟨⟨⟨fun b o n q => ?_⟩, tab_lst hx ss.tab, ss.f0, O, h1, nd, hn⟩, h1⟩
  rw [upd_ne]
  · exact ss.sb.at_ b o n q
  · rintro rfl
    exact hn _ hO ⟨o, q, n⟩
theorem idxO_some {d : D} {n j : Nat} (h : idxO d n = some j) : ∃ k, d = .int k ∧ L2.ixN n k = some j := by
  obtain ⟨k, h1, h2⟩ := some_bind h
  cases d <;> simp only [intO] at h1 <;> cases h1
  exact ⟨_, rfl, h2⟩
/-- x[k] = v -/
theorem put_read {c : Bool → Nat → List D → Option D} {i : Nat} {k : E} {d : D} {v : V} {Q : St → Hp → Prop} (ss : SS K M₀ F₀ ρ σ H) (sl : Sl K (mask (O ++ F₀) H) H ρ σ O) (nd : O.Nodup) (hn : ∀ p ∈ O, ¬ Hs M₀ p) (rv : Rp K (mask (O ++ F₀) H) v d) (hp : putIx c i k d ρ = some ρ')
    (q : ∀ H2, SS K M₀ F₀ ρ' σ H2 → Sl K (mask (O ++ F₀) H2) H2 ρ' σ O → Sb (mask (O ++ F₀) H) (mask (O ++ F₀) H2) → Q σ H2) : gSub (tVar i) (tD K (evE c k)) rSetL v σ H Q := by
  obtain ⟨j, h1, hp⟩ := some_bind hp
  obtain ⟨ds, h2, hp⟩ := some_bind hp
  obtain ⟨n, h3, hp⟩ := some_bind hp
  cases hp
  obtain ⟨p, vs, g1, g2, g3, g4⟩ := sl.getO h2
  obtain ⟨m, rfl, h4⟩ := idxO_some h3
  refine ⟨_, g1, O ++ F₀, ρ, _, sl_es ss sl, h1, fun w H1 s1 r1 => ⟨p, vs, m, n, rfl, r1.i, s1.b.lst g3, by rw [g4.len]; exact h4, ?_⟩⟩
  have ss1 := ss_at ss s1 (sl_step sl s1) nd hn
  obtain ⟨k1, k2⟩ := ss_put ss1 (sl_step sl s1) nd hn h2 g1 g2 (s1.b.lst g3) (RpL.set (rv.up (mm s1)) n (g4.up (mm s1)))
  refine q _ k1 k2 ?_
  rw [mask_grow (List.mem_append_left _ g2)]
  exact mm s1
theorem rs_setIx {c : Bool → Nat → List D → Option D} {fe : Rho → Option D} {i : Nat} {k : E} (h : tS K (fun ρ => (fe ρ).bind fun d => (putIx c i k d ρ).bind fun ρ' => some (.nx ρ')) D0 σ H) : tAsg (tD K fe) (gSub (tVar i) (tD K (evE c k)) rSetL) D0 σ H := by
  obtain ⟨M₀, F₀, ρ, o, ss, hf, q⟩ := h
  obtain ⟨d, h1, hf⟩ := some_bind hf
  obtain ⟨ρ', hp, hf⟩ := some_bind hf
  cases hf
  obtain ⟨O, sl, nd, hn⟩ := id ss.sl
  exact ⟨O ++ F₀, ρ, d, sl_es ss sl, h1, fun v H1 s1 r1 => put_read (ss_at ss s1 (sl_step sl s1) nd hn) (sl_step sl s1) nd hn r1 hp fun H2 ss2 _ _ => q _ H2 ss2⟩
/-- x[a], x[b] = v, w -/
theorem rs_swp {c : Bool → Nat → List D → Option D} {fa fb : Rho → Option D} {i : Nat} {a b : E} (h : tS K (fun ρ => (fa ρ).bind fun x => (fb ρ).bind fun y => (putIx c i a x ρ).bind fun ρ' => (putIx c i b y ρ').bind fun ρ' => some (.nx ρ')) D0 σ H) :
    tAsg (tTup (tCons (tD K fa) (tCons (tD K fb) tNil))) (gTup K 2 (gCons (gSub (tVar i) (tD K (evE c a)) rSetL) (gCons (gSub (tVar i) (tD K (evE c b)) rSetL) gNil))) D0 σ H := by
  obtain ⟨M₀, F₀, ρ, o, ss, hf, q⟩ := h
  obtain ⟨x, h1, hf⟩ := some_bind hf
  obtain ⟨y, h2, hf⟩ := some_bind hf
  obtain ⟨ρ1, hp1, hf⟩ := some_bind hf
  obtain ⟨ρ2, hp2, hf⟩ := some_bind hf
  cases hf
  obtain ⟨O, sl, nd, hn⟩ := id ss.sl
  have es := sl_es ss sl
  refine ⟨O ++ F₀, ρ, x, es, h1, fun v H1 s1 r1 => ⟨O ++ F₀, ρ, y, es.ext s1, h2, fun w H2 s2 r2 => ⟨by show 2 ≤ sizeLine; decide, fun t ht => ?_⟩⟩⟩
  have s3 : Sm K H2 (upd H2 t (.tup [v, w])) := sm_upd ht
  have s := (s1.trans s2).trans s3
  refine ⟨t, [v, w], rfl, .inl (.inl upd_same), rfl, v, [w], rfl, ?_⟩
  refine put_read (ss_at ss s (sl_step sl s) nd hn) (sl_step sl s) nd hn (r1.up (mm (s2.trans s3))) hp1 fun H4 ss4 sl4 sb4 => ⟨w, [], rfl, ?_⟩
  exact put_read ss4 sl4 nd hn ((r2.up (mm s3)).up sb4) hp2 fun H5 ss5 _ _ => ⟨rfl, q _ H5 ss5⟩
theorem rs_app {fe : Rho → Option D} {i : Nat} (h : tS K (fun ρ => (fe ρ).bind fun d => (getO ρ i).bind fun ds => if small ds.length then some (.nx (ρ.set i (.own (ds ++ [d])))) else none) D0 σ H) : tDrop (tBM K "list" rAppend (tVar i) (tCons (tD K fe) tNil)) D0 σ H := by
  obtain ⟨M₀, F₀, ρ, o, ss, hf, q⟩ := h
  obtain ⟨d, h1, hf⟩ := some_bind hf
  obtain ⟨ds, h2, hf⟩ := some_bind hf
  split at hf
  · rename_i hc
    cases hf
    obtain ⟨O, sl, nd, hn⟩ := id ss.sl
    obtain ⟨p, vs, g1, g2, g3, g4⟩ := sl.getO h2
    refine ⟨_, g1, .inl ⟨rfl, vs, .inl (.inl g3)⟩, O ++ F₀, ρ, d, sl_es ss sl, h1, fun w H1 s1 r1 => ⟨p, vs, w, rfl, rfl, s1.b.lst g3, ?_, ?_⟩⟩
    · rw [g4.len]
      exact Nat.lt_of_le_of_lt (small_le hc) (by decide)
    · exact q _ _ (ss_put (ss_at ss s1 (sl_step sl s1) nd hn) (sl_step sl s1) nd hn h2 g1 g2 (s1.b.lst g3) ((g4.up (mm s1)).app (.cons r1 .nil))).1
  · cases hf
theorem ixN_small {n j : Nat} {k : Int} (h : ixN n k = some j) (hn : n ≤ 2 ^ 62) : -(2 ^ 63) ≤ k ∧ k < 2 ^ 63 := by
  obtain ⟨_, _, h3, h4⟩ := ixN_seq h
  omega
theorem rs_pop {fe : Rho → Option D} {i j : Nat} (h : tS K (fun ρ => (fe ρ).bind fun k => (getO ρ i).bind fun ds => (idxO k ds.length).bind fun k => (ds[k]?).bind fun d => if i = j then none else if small ds.length then nxO (setV (ρ.set i (.own (ds.eraseIdx k))) j d) else none) D0 σ H) : tAsg (tBM K "list" rPopAt (tVar i) (tCons (tD K fe) tNil)) (gName j) D0 σ H := by
  obtain ⟨M₀, F₀, ρ, o, ss, hf, q⟩ := h
  obtain ⟨k, h1, hf⟩ := some_bind hf
  obtain ⟨ds, h2, hf⟩ := some_bind hf
  obtain ⟨n, h3, hf⟩ := some_bind hf
  obtain ⟨d, h4, hf⟩ := some_bind hf
  split at hf
  · cases hf
  · rename_i hij
    split at hf
    · rename_i hsm
      obtain ⟨ρ', hb, rfl⟩ := nx_some hf
      obtain ⟨_, o1, rfl⟩ := setV_ok hb
      obtain ⟨O, sl, nd, hn⟩ := id ss.sl
      obtain ⟨p, vs, g1, g2, g3, g4⟩ := sl.getO h2
      obtain ⟨m, rfl, h5⟩ := idxO_some h3
      obtain ⟨v, h6, h7⟩ := g4.get h4
      have hl := small_le hsm
      obtain ⟨b1, b2⟩ := ixN_small h5 (by omega)
      obtain ⟨h8, _, _, _⟩ := ixN_seq h5
      refine ⟨_, g1, .inl ⟨rfl, vs, .inl (.inl g3)⟩, O ++ F₀, ρ, _, sl_es ss sl, h1, fun w H1 s1 r1 => ⟨p, vs, m, n, v, rfl, by rw [r1.i], s1.b.lst g3, b1, b2, by rw [g4.len]; exact h8, h6, ?_⟩⟩
      obtain ⟨k1, k2⟩ := ss_put (ss_at ss s1 (sl_step sl s1) nd hn) (sl_step sl s1) nd hn h2 g1 g2 (s1.b.lst g3) (RpL.erase n (g4.up (mm s1)))
      have e : mask (O ++ F₀) (upd H1 p (.lst (vs.eraseIdx n))) = mask (O ++ F₀) H1 := mask_grow (List.mem_append_left _ g2)
      exact q _ _ ⟨k1.sb, k1.tab, k1.f0, O, Sl.setV (by rw [e]; exact h7.up (mm s1)) k2 o1, nd, hn⟩
    · cases hf
/-! ### loops -/
theorem loop_step {f : D → Rho → Option Out} {ds : List D} {i : Nat} {d : D} {o : Out} (hd : ds[i]? = some d) (h : loopO f (ds.drop i) ρ = some o) : ∃ o1, f d ρ = some o1 ∧ match o1 with
    | .nx ρ' => loopO f (ds.drop (i + 1)) ρ' = some o
    | .ret x => o = .ret x := by
  obtain ⟨hi, e⟩ := List.getElem?_eq_some_iff.mp hd
  rw [List.drop_eq_getElem_cons hi, e] at h
  simp only [loopO] at h
  obtain ⟨o1, h1, h2⟩ := some_bind h
  refine ⟨o1, h1, ?_⟩
  cases o1 with
  | nx ρ' => exact h2
  | ret x => exact (Option.some.inj h2).symm
theorem rs_for {fi : Rho → Option (List D)} {t : T} {fb : Rho → Option Out} (h : tS K (fun ρ => (fi ρ).bind fun ds => loopO (fun d ρ => (bindT t d ρ).bind fun ρ' => fb ρ') ds ρ) D0 σ H) : tFor (tDI K fi) (gOf K t) (tS K fb) D0 σ H := by
  obtain ⟨M₀, F₀, ρ, o, ss, hf, q⟩ := h
  obtain ⟨ds, h1, hf⟩ := some_bind hf
  obtain ⟨O, sl, nd, hn⟩ := id ss.sl
  have es := sl_es ss sl
  refine ⟨O ++ F₀, ρ, ds, es, h1, fun J H1 s1 wk => ?_⟩
  have W := wk O fun a ha => List.mem_append_left _ ha
  have ss1 := ss_at ss s1 (sl_step sl s1) nd hn
  -- the heap that the whole loop keeps
  have hb0 : Sb M₀ (mask O H1) := by
    have := mask_moreN (F := []) (G := O) ss1.sb fun a ha => .inr (hn a ha)
    rwa [mask_nil] at this
  have nO : ∀ p ∈ O, ¬ Hs (mask O H1) p := fun p hp z => z.ne (mask_in hp)
  have ss2 : SS K (mask O H1) F₀ ρ σ H1 := ⟨mask_same _ _, ss1.tab, fun a ha => hb0.dom a (ss.f0 a ha), O, sl_step sl s1, nd, nO⟩
  have back : ∀ {ρ' σ' H'}, SS K (mask O H1) F₀ ρ' σ' H' → SS K M₀ F₀ ρ' σ' H' := fun s => ⟨hb0.trans s.sb, s.tab, ss.f0, let ⟨O', a, b, c⟩ := s.sl; ⟨O', a, b, fun p hp z => c p hp (hb0.dom p z)⟩⟩
  refine ⟨fun i m σ' H' => i + m = ds.length ∧ ∃ ρ', SS K (mask O H1) F₀ ρ' σ' H' ∧ loopO (fun d ρ => (bindT t d ρ).bind fun ρ' => fb ρ') (ds.drop i) ρ' = some o, ⟨ds.length, by omega, ρ, ss2, hf⟩, fun i m σ' H' hW => ?_⟩
  obtain ⟨him, ρ1, ss3, hl⟩ := hW
  by_cases hi : i < ds.length
  · have hd := List.getElem?_eq_getElem hi
    obtain ⟨o1, ho1, hnext⟩ := loop_step hd hl
    obtain ⟨ρ2, hb, ho1⟩ := some_bind ho1
    refine .inr ⟨((W H' ss3.sb i).1 _ hd).1, fun σ2 H2 => (i + 1) + (m - 1) = ds.length ∧ ∃ ρ', SS K (mask O H1) F₀ ρ' σ2 H2 ∧ loopO (fun d ρ => (bindT t d ρ).bind fun ρ' => fb ρ') (ds.drop (i + 1)) ρ' = some o, fun σ2 H2 hN => ⟨m - 1, by omega, hN⟩, fun x H2 hy => ?_⟩
    obtain ⟨s2, rx⟩ := ((W H' ss3.sb i).1 _ hd).2 x H2 hy
    obtain ⟨O3, sl3, nd3, hn3⟩ := id ss3.sl
    have es3 := sl_es ss3 sl3
    have rx' : Rp K (mask (O3 ++ F₀) H2) x ds[i] := rx (O3 ++ F₀) (fun a ha => by
      rcases List.mem_append.mp ha with ha | ha
      · by_cases hO : a ∈ O
        · exact .inl (List.mem_append_left _ hO)
        · exact .inr (hn3 a ha)
      · exact .inl (List.mem_append_right _ ha)) es3.dom
    refine g_ok (mask_same _ _) t rx' (sl_step sl3 s2) hb fun σ3 hs3 _ => ⟨mask O H1, F₀, ρ2, o1, ss_at ss3 s2 hs3 nd3 hn3, ho1, ?_⟩
    cases o1 with
    | nx ρ3 => exact fun σ4 H4 ss4 => ⟨by omega, ρ3, ss4, hnext⟩
    | ret d =>
      subst hnext
      exact fun v H4 a b c => q v H4 (hb0.trans a) b c
  · have e : ds.drop i = [] := List.drop_eq_nil_of_le (by omega)
    rw [e] at hl
    simp only [loopO, Option.some.injEq] at hl
    subst hl
    exact .inl ⟨(W H' ss3.sb i).2 (by omega), q σ' H' (back ss3)⟩
theorem rs_whl {ft : Rho → Option D} {fb : Rho → Option Out} {n : Nat} (h : tS K (fun ρ => whileO (fun ρ => (ft ρ).bind boolO) fb n ρ) D0 σ H) : tWhile (tDT K ft) (tS K fb) D0 σ H := by
  obtain ⟨M₀, F₀, ρ, o, ss, hf, q⟩ := h
  refine ⟨fun m σ' H' => ∃ ρ', SS K M₀ F₀ ρ' σ' H' ∧ whileO (fun ρ => (ft ρ).bind boolO) fb m ρ' = some o, ⟨n, ρ, ss, hf⟩, fun m σ' H' ⟨ρ1, ss1, hw⟩ => ?_⟩
  cases m with
  | zero => simp [whileO] at hw
  | succ m =>
    simp only [whileO] at hw
    obtain ⟨b, h1, hw⟩ := some_bind hw
    obtain ⟨O, sl, nd, hn⟩ := id ss1.sl
    refine ⟨O ++ F₀, ρ1, b, sl_es ss1 sl, boolO_some h1, fun H2 s2 => ?_⟩
    have ss2 := ss_at ss1 s2 (sl_step sl s2) nd hn
    cases b with
    | true =>
      rw [if_pos rfl] at hw
      obtain ⟨o1, h2, hw⟩ := some_bind hw
      refine iteT ⟨fun σ3 H3 => ∃ ρ', SS K M₀ F₀ ρ' σ3 H3 ∧ whileO (fun ρ => (ft ρ).bind boolO) fb m ρ' = some o, fun σ3 H3 h3 => ⟨m, by omega, h3⟩, M₀, F₀, ρ1, o1, ss2, h2, ?_⟩
      cases o1 with
      | nx ρ2 => exact fun σ4 H4 ss4 => ⟨ρ2, ss4, hw⟩
      | ret d =>
        cases hw
        exact q
    | false =>
      rw [if_neg Bool.false_ne_true] at hw
      cases hw
      exact iteF (q σ' H2 ss2)
end
end PV
end
section -- Snd7
/-! The check of an expression against its text; what passes it does what the evaluator says. -/
namespace PV
open PySem PySem.Spec L2
open PyProof.Rows hiding St
/-- how an expression is read: as a value, as a test, walked by a loop, walked by a comprehension -/
inductive Md where
  | val | tst | itr | itB
  deriving DecidableEq
/-- where it stands: the slots' names, the scope, the names that may be stored although they are cells, whether the lambda's maker; the defs' names and arities -/
structure Ct where
  N : List Str
  sc : Scope
  fnb : Str → Bool
  lam : Bool
  fs : List (Str × Nat)
def Ct.blk (ct : Ct) (scope : Scope) : Ct := { ct with sc := relS scope ct.sc, fnb := fun x => scope.names.lookup x == some .cell, lam := false }
def nmB (x : Str) : Bool := !(x == ("__debug__" : Str)) && !(x == ("__classdict__" : Str))
def visB (ct : Ct) (i : Nat) (x : Str) : Bool := decide (ct.N[i]? = some x) && nmB x && (match ct.sc.names.lookup x with
  | some .local => true
  | some .cell => true
  | some .free => true
  | _ => false)
def locB (ct : Ct) (i : Nat) (x : Str) : Bool := decide (ct.N[i]? = some x) && (match ct.sc.names.lookup x with
  | some .local => true
  | some .cell => ct.fnb x
  | _ => false)
def glB (ct : Ct) (x : Str) : Bool := decide (ct.sc.names.lookup x = some .globalImplicit)
def notStar : Expr → Bool
  | .Starred _ _ => false
  | _ => true
def notSet : Expr → Bool
  | .Set _ _ _ => false
  | _ => true
def notSlice : Expr → Bool
  | .Slice _ _ _ _ => false
  | _ => true
def isTup : Expr → Bool
  | .Tuple _ _ _ => true
  | _ => false
def plainT : Expr → Bool
  | .Name _ _ => true
  | .Call _ _ _ _ => true
  | .Subscript _ _ _ => true
  | .Constant _ _ _ => true
  | _ => false
def okM (m : Md) (x : Expr) : Bool := match m with
  | .tst => plainT x
  | _ => true
def needT : E → Bool
  | .zip _ _ => true
  | .enum _ _ => true
  | _ => false
mutual
def chkTg : T → Ct → Expr → Bool
  | .one i, ct, x => match x with
    | .Name y _ => locB ct i y
    | _ => false
  | .tup ts, ct, x => match x with
    | .Tuple es _ _ => chkTgs ts ct es
    | _ => false
def chkTgs : List T → Ct → List Expr → Bool
  | [], _, es => match es with
    | [] => true
    | _ => false
  | t :: ts, ct, es => match es with
    | e :: es => notStar e && chkTg t ct e && chkTgs ts ct es
    | [] => false
end
/-- (len(lot), lot) -/
def lamB (params : Arguments) (body : Expr) (scope : Scope) : Bool :=
  (match params with
    | ⟨[], [a], none, [], [], none, []⟩ => decide (a.arg = Str.ofString "lot")
    | _ => false) && (match body with
    | .Tuple [.Call (.Name l _) [.Name a _] [] _, .Name b _] 0 _ => decide (l = Str.ofString "len") && decide (a = Str.ofString "lot") && decide (b = Str.ofString "lot")
    | _ => false) && decide (scope.kind = .function) && !scope.isCoroutine && !scope.isGenerator && (scope.names.all fun y => !decide (y.2 = .cell) && !decide (y.2 = .free)) && decide (scope.names.lookup (Str.ofString "lot") = some .local) && decide (scope.names.lookup (Str.ofString "len") = some .globalImplicit)
mutual
def chk : E → Ct → Md → Expr → Bool
  | .var i, ct, m, x => okM m x && (match x with
    | .Name y _ => visB ct i y
    | _ => false)
  | .cN, ct, m, x => okM m x && (match x with
    | .Constant .none _ _ => true
    | _ => false)
  | .cB b, ct, m, x => okM m x && (match x with
    | .Constant (.bool b') _ _ => decide (b' = b)
    | _ => false)
  | .cI i, ct, m, x => okM m x && (match x with
    | .Constant (.int j) _ _ => decide (j = i)
    | _ => false)
  | .cS s, ct, m, x => okM m x && (match x with
    | .Constant (.str t) _ _ => decide (t = s)
    | _ => false)
  | .gl o, ct, m, x => okM m x && (match x with
    | .Name y _ => glB ct y && decide (y = Str.ofString (if o then "ONE" else "NONE"))
    | _ => false)
  | .tup es, ct, m, x => okM m x && (match x with
    | .Tuple xs _ _ => chkL es ct xs
    | _ => false)
  | .lst es, ct, m, x => okM m x && (match x with
    | .List xs _ => chkL es ct xs
    | _ => false)
  | .star _, _, _, _ => false
  | .bin o a b, ct, m, x => okM m x && (match x with
    | .BinOp y op z _ => decide (op = pyOp o) && chk a ct .val y && chk b ct .val z
    | _ => false)
  | .neg a, ct, m, x => okM m x && (match x with
    | .UnaryOp .USub y _ => chk a ct .val y
    | _ => false)
  | .not a, ct, m, x => match x with
    | .UnaryOp .Not y _ => (match m with
      | .val => chk a ct .val y
      | .tst => chk a ct .tst y
      | _ => false)
    | _ => false
  | .cmp o a b, ct, m, x => match x with
    | .Compare y [op] [z] _ => (m == .val || m == .tst) && decide (op = pyCm o) && chk a ct .val y && chk b ct .val z && notSet z
    | _ => false
  | .isN no a, ct, m, x => match x with
    | .Compare y [op] [.Constant .none _ _] _ => (m == .val || m == .tst) && decide (op = if no then .IsNot else .Is) && chk a ct .val y
    | _ => false
  | .chain a b d, ct, m, x => match x with
    | .Compare y [.LtE, .Lt] [z, w] _ => m == .tst && chk a ct .val y && chk b ct .val z && chk d ct .val w
    | _ => false
  | .and a b, ct, m, x => match x with
    | .BoolOp .And (y :: ys) pos => (m == .val || m == .tst) && chk a ct m y && (match ys with
      | [z] => chk b ct m z
      | z :: w :: zs => chk b ct m (.BoolOp .And (z :: w :: zs) pos)
      | [] => false)
    | _ => false
  | .or a b, ct, m, x => match x with
    | .BoolOp .Or (y :: ys) pos => (m == .val || m == .tst) && chk a ct m y && (match ys with
      | [z] => chk b ct m z
      | z :: w :: zs => chk b ct m (.BoolOp .Or (z :: w :: zs) pos)
      | [] => false)
    | _ => false
  | .ite t a b, ct, m, x => okM m x && (match x with
    | .IfExp y z w _ => chk t ct .tst y && chk a ct .val z && chk b ct .val w
    | _ => false)
  | .ix a b, ct, m, x => okM m x && (match x with
    | .Subscript y z _ => chk a ct .val y && chk b ct .val z && notSlice z
    | _ => false)
  | .sl a lo hi, ct, m, x => okM m x && (match x with
    | .Subscript y (.Slice l h none _) _ => chk a ct .val y && chkO lo ct l && chkO hi ct h
    | _ => false)
  | .call f es, ct, m, x => okM m x && (match x with
    | .Call (.Name y _) (z :: zs) [] _ => decide ((ct.fs[f]?).map (·.1) = some y) && glB ct y && nmB y && chkL es ct (z :: zs) && (z :: zs).all notStar
    | _ => false)
  | .f1 f a, ct, m, x => okM m x && (match x with
    | .Call (.Name y _) [z] [] _ => glB ct y && (if f = .lrng then decide (y = Str.ofString "list") && (match z with
        | .Call (.Name w _) [v] [] _ => decide (w = Str.ofString "range") && glB ct w && chk a ct .val v && notStar v
        | _ => false) else decide (y = nm1 f) && chk a ct .val z && notStar z)
    | _ => false)
  | .f2 f a b, ct, m, x => okM m x && (match x with
    | .Call (.Name y _) [z, w] [] _ => glB ct y && decide (y = nm2 f) && chk a ct .val z && chk b ct .val w && notStar z && notStar w
    | _ => false)
  | .isi a t, ct, m, x => okM m x && (match x with
    | .Call (.Name y _) [z, .Name w _] [] _ => glB ct y && decide (y = Str.ofString "isinstance") && glB ct w && decide (w = tyN t) && chk a ct .val z && notStar z
    | _ => false)
  | .isi2 a t u, ct, m, x => okM m x && (match x with
    | .Call (.Name y _) [z, .Tuple [.Name w _, .Name v _] _ _] [] _ => glB ct y && decide (y = Str.ofString "isinstance") && glB ct w && decide (w = tyN t) && glB ct v && decide (v = tyN u) && chk a ct .val z && notStar z
    | _ => false)
  | .srt k a, ct, m, x => okM m x && (match x with
    | .Call (.Name y _) [z] kws _ => glB ct y && decide (y = Str.ofString "sorted") && notStar z && (match k with
      | .plain => (match kws with
        | [] => chk a ct .val z
        | _ => false)
      | .setL => (match kws, z with
        | [], .Call (.Name w _) [v] [] _ => decide (w = Str.ofString "set") && glB ct w && chk a ct .val v && notStar v
        | _, _ => false)
      | .fn f => (match kws with
        | [⟨some key, .Name w _, _⟩] => decide (key = Str.ofString "key") && decide (ct.fs[f]? = some (w, 1)) && glB ct w && nmB w && chk a ct .val z
        | _ => false)
      | .lam => (match kws with
        | [⟨some key, .Lambda params body scope _, _⟩] => decide (key = Str.ofString "key") && ct.lam && lamB params body scope && chk a ct .val z
        | _ => false))
    | _ => false)
  | .rng1 a, ct, m, x => match x with
    | .Call (.Name y _) [z] [] _ => (m == .itr || m == .itB) && glB ct y && decide (y = Str.ofString "range") && chk a ct .val z && notStar z
    | _ => false
  | .rng2 a b, ct, m, x => match x with
    | .Call (.Name y _) [z, w] [] _ => (m == .itr || m == .itB) && glB ct y && decide (y = Str.ofString "range") && chk a ct .val z && chk b ct .val w && notStar z && notStar w
    | _ => false
  | .zip a b, ct, m, x => match x with
    | .Call (.Name y _) [z, w] [] _ => (m == .itr || m == .itB) && glB ct y && decide (y = Str.ofString "zip") && chk a ct .val z && chk b ct .val w && notStar z && notStar w
    | _ => false
  | .enum o a, ct, m, x => match x with
    | .Call (.Name y _) [z] [] _ => ((m == .itr && !o) || m == .itB) && glB ct y && decide (y = Str.ofString "enumerate") && chk a ct .val z && notStar z
    | _ => false
  | .lc elt tg it q ws, ct, m, x => okM m x && (match x with
    | .ListComp y [⟨t, i, ifs, 0⟩] sc _ => chk it ct .itB i && notSet i && blkC ct.N ct.sc sc ws && (!needT it || isTup t) && chkTg tg (ct.blk sc) t && (slots tg).all (fun i => decide (i ∈ ws.map (·.2))) && chkQ q (ct.blk sc) ifs && chk elt (ct.blk sc) .val y
    | _ => false)
  | .lc2 elt tg it tg2 it2 q ws vs, ct, m, x => okM m x && (match x with
    | .ListComp y [⟨t, i, [], 0⟩, ⟨t2, i2, ifs, 0⟩] sc _ => chk it ct .itB i && notSet i && blkC ct.N ct.sc sc ws && (!needT it || isTup t) && chkTg tg (ct.blk sc) t && (slots tg).all (fun i => decide (i ∈ ws.map (·.2))) &&
        chk it2 (ct.blk sc) .itr i2 && notSet i2 && (!needT it2 || isTup t2) && chkTg tg2 (ct.blk sc) t2 && (slots tg2).all (fun i => decide (i ∈ vs)) && vs.all (fun i => decide (i ∈ ws.map (·.2))) && chkQ q (ct.blk sc) ifs && chk elt (ct.blk sc) .val y
    | _ => false)
def chkL : List E → Ct → List Expr → Bool
  | [], _, xs => match xs with
    | [] => true
    | _ => false
  | .star e :: es, ct, xs => match xs with
    | .Starred x _ :: xs => chk e ct .val x && chkL es ct xs
    | _ => false
  | e :: es, ct, xs => match xs with
    | x :: xs => notStar x && chk e ct .val x && chkL es ct xs
    | [] => false
def chkO : Option E → Ct → Option Expr → Bool
  | none, _, x => match x with
    | none => true
    | _ => false
  | some e, ct, x => match x with
    | some x => chk e ct .val x
    | none => false
def chkQ : Option E → Ct → List Expr → Bool
  | none, _, x => match x with
    | [] => true
    | _ => false
  | some e, ct, x => match x with
    | [x] => chk e ct .tst x
    | _ => false
end
end PV
end
section -- Snd8
/-! The check is sound: expressions. -/
namespace PV
open PySem PySem.Spec L2
open PyProof.Rows hiding St
structure CxOk (c : Bool → Nat → List D → Option D) (ct : Ct) (X : Cx) (k : Nat) : Prop where
  N : X.N = ct.N
  nd : X.N.Nodup
  sc : X.env.scope = ct.sc
  calm : X.calm = true
  B : Bl X.mg
  g0 : ∃ t, X.mg (Str.ofString "NONE") = some (.ref t) ∧ ∀ M : Hp, SqT X.K M t [.int 0, .int 1]
  g1 : ∃ t, X.mg (Str.ofString "ONE") = some (.ref t) ∧ ∀ M : Hp, SqT X.K M t [.int 1, .int 1]
  room : Room (k + 3) X.A
  cal : ∀ f x n, ct.fs[f]? = some (x, n) → Cal X (k + 3) x n (c false f)
  key : ∀ f x n, ct.fs[f]? = some (x, n) → Cal X (k + 1) x n (c true f)
  fn : ∀ x, ct.fnb x = true → X.fn x = true
  lam : ct.lam = true → LamX.TabB X.base X.mg (cL X.K) (tL X.K) ∧ X.env.code = .ref (cL X.K) ∧ X.env.qual ++ Str.ofString "<lambda>" = qL
section
variable {c : Bool → Nat → List D → Option D} {ct : Ct} {X : Cx} {k : Nat}
theorem CxOk.blk (h : CxOk c ct X k) (s : Shared) (H : Hp) (scope : Scope) (C : Addr) (cl : List (Str × Addr)) (fp : List Addr) : CxOk c (ct.blk scope) (X.blk s H scope (compEnvC scope cl C X.env) fp) k where
  N := h.N
  nd := h.nd
  sc := by
    show relS scope X.env.scope = relS scope ct.sc
    rw [h.sc]
  calm := h.calm
  B := h.B
  g0 := h.g0
  g1 := h.g1
  room := h.room
  cal := fun f x n e => by
    obtain ⟨h1, h2⟩ := h.cal f x n e
    exact ⟨h1, h2⟩
  key := fun f x n e => by
    obtain ⟨h1, h2⟩ := h.key f x n e
    exact ⟨h1, h2⟩
  fn := fun x e => e
  lam := fun e => by cases e
theorem CxOk.hu (h : CxOk c ct X k) : X.A.units + 65 < cLine := by
  have := h.room.un
  omega
theorem CxOk.gl (h : CxOk c ct X k) {x : Str} (e : glB ct x = true) : Gl X x := by
  show X.env.scope.names.lookup x = some .globalImplicit
  rw [h.sc]
  exact of_decide_eq_true e
theorem nmB_some {x : Str} (e : nmB x = true) : (x == ("__debug__" : Str)) = false ∧ (x == ("__classdict__" : Str)) = false := by
  simp only [nmB, Bool.and_eq_true, Bool.not_eq_true'] at e
  exact e
theorem CxOk.vis (h : CxOk c ct X k) {i : Nat} {x : Str} (e : visB ct i x = true) : X.N[i]? = some x ∧ Vis X.env.scope x ∧ (x == ("__debug__" : Str)) = false ∧ (x == ("__classdict__" : Str)) = false := by
  simp only [visB, Bool.and_eq_true, decide_eq_true_eq] at e
  obtain ⟨⟨h1, h2⟩, h3⟩ := e
  obtain ⟨h4, h5⟩ := nmB_some h2
  refine ⟨by rw [h.N]; exact h1, ?_, h4, h5⟩
  rw [h.sc]
  split at h3 <;> first | exact .inl (by assumption) | exact .inr (.inl (by assumption)) | exact .inr (.inr (by assumption)) | cases h3
theorem CxOk.loc (h : CxOk c ct X k) {i : Nat} {x : Str} (e : locB ct i x = true) : X.N[i]? = some x ∧ Loc X.env.scope x ∧ (X.fn x = true ∨ X.env.scope.names.lookup x = some .local) := by
  simp only [locB, Bool.and_eq_true, decide_eq_true_eq] at e
  obtain ⟨h1, h2⟩ := e
  rw [h.sc]
  refine ⟨by rw [h.N]; exact h1, ?_⟩
  split at h2
  · rename_i q
    exact ⟨.inl q, .inr q⟩
  · rename_i q
    exact ⟨.inr q, .inl (h.fn x h2)⟩
  · cases h2
theorem star_ns {a : Expr} {es : List Expr} {e : Env} (h : notStar a = true) : starEach (a :: es) e = (false, eval a e) :: starEach es e := by
  cases a <;> first | rfl | cases h
theorem star_all {pos : Pos} {e : Env} : ∀ {es : List Expr}, es.all notStar = true → (backTo pos (starEach es e)).any (·.1) = false
  | [], _ => rfl
  | a :: es, h => by
    obtain ⟨h1, h2⟩ := Bool.and_eq_true_iff.mp h
    rw [star_ns h1]
    have := star_all (pos := pos) (e := e) h2
    unfold backTo at this ⊢
    rw [List.map_cons, List.any_cons, this]
    rfl
theorem asg_ns {a : Expr} {es : List Expr} {e : Env} (h : notStar a = true) : assignEach (a :: es) e = (false, assign a e) :: assignEach es e := by
  cases a <;> first | rfl | cases h
theorem fold_ns {a : Expr} (h : notSet a = true) (e : Env) (x : Value) : foldedSetIterable a e x = pure x := by
  cases a <;> first | rfl | cases h
theorem plain_ix {a : Expr} (h : notSlice a = true) : PlainIx a := by
  intro o i
  cases a <;> first | rfl | cases h
theorem isTrue_pl {x : Expr} {e : Env} (h : plainT x = true) (whole : Sem Value) : isTrue x e whole = (do let v ← whole; standAt x.pos; holding [v] (truthy v)) := by
  cases x <;> first | rfl | cases h
theorem behind_ns {x : Expr} {op : CmpOp} (h : notSet x = true) : behindInMarks op x = false := by
  cases x <;> first | rfl | cases h
/-! targets -/
mutual
theorem tg_ok : ∀ (t : T) {ct : Ct} {X : Cx} {x : Expr}, CxOk c ct X k → chkTg t ct x = true → PG X x (gOf X.K t)
  | .one i, ct, X, x, h, e => by
    simp only [chkTg] at e
    split at e
    · obtain ⟨h1, h2, h3⟩ := h.loc e
      exact pg_name h.nd h1 h2 h3
    · cases e
  | .tup ts, ct, X, x, h, e => by
    simp only [chkTg] at e
    split at e
    · obtain ⟨h1, h2, h3⟩ := tgs_ok ts h e
      exact pg_tup h.calm h1 h2 h3
    · cases e
theorem tgs_ok : ∀ (ts : List T) {ct : Ct} {X : Cx} {es : List Expr}, CxOk c ct X k → chkTgs ts ct es = true → PGs X es (gOfs X.K ts) ∧ (assignEach es X.env).length = ts.length ∧ (assignEach es X.env).findIdx? (·.1) = none
  | [], ct, X, es, h, e => by
    cases es with
    | nil => exact ⟨pgs_nil, rfl, rfl⟩
    | cons _ _ => cases e
  | t :: ts, ct, X, es, h, e => by
    cases es with
    | nil => cases e
    | cons x es =>
      simp only [chkTgs, Bool.and_eq_true] at e
      obtain ⟨⟨h1, h2⟩, h3⟩ := e
      obtain ⟨g1, g2, g3⟩ := tgs_ok ts h h3
      have hs := asg_ns (es := es) (e := X.env) h1
      refine ⟨pgs_cons (tg_ok t h h2) g1 (by rw [hs]; rfl), by rw [hs, List.length_cons, g2, List.length_cons], ?_⟩
      rw [hs, List.findIdx?_cons, g3]
      rfl
end
/-- what passes the check is read so -/
def Good (c : Bool → Nat → List D → Option D) (X : Cx) (m : Md) (e : E) (x : Expr) : Prop := match m with
  | .val => PE X x (tD X.K (evE c e)) ∧ PE X x (tDB X.K fun ρ => bor ρ e (evE c e ρ))
  | .tst => PT X x (tDT X.K (evE c e))
  | .itr => ∀ tg, (needT e = true → isTup tg = true) → PI X tg x (tDI X.K fun ρ => (evE c e ρ).bind itemsOf)
  | .itB => ∀ tg, (needT e = true → isTup tg = true) → PI X tg x (tDIB X.K fun ρ => (bor ρ e (evE c e ρ)).bind itemsOf)
def novar : E → Bool
  | .var _ => false
  | _ => true
theorem bor_nv {e : E} (h : novar e = true) (ρ : Rho) (r : Option D) : bor ρ e r = r := by
  cases e <;> first | rfl | cases h
/-- a value -/
theorem good_val {m : Md} {e : E} {x : Expr} (hv : novar e = true) (hm : okM m x = true) (h : PE X x (tD X.K (evE c e))) : Good c X m e x := by
  have hb : PE X x (tDB X.K fun ρ => bor ρ e (evE c e ρ)) := by
    rw [show (fun ρ => bor ρ e (evE c e ρ)) = evE c e from funext fun ρ => bor_nv hv ρ _]
    exact pd_borrow h
  cases m with
  | val => exact ⟨h, hb⟩
  | tst => exact pt_of h (isTrue_pl hm)
  | itr => exact fun tg _ => pid_e h
  | itB => exact fun tg _ => pid_eB hb
theorem good_imp {e : E} {x : Expr} {f : Rho → Option D} (h : PE X x (tD X.K f)) (hf : f = evE c e) : PE X x (tD X.K (evE c e)) := by
  rw [← hf]
  exact h
theorem lam_ok {params : Arguments} {body : Expr} {scope : Scope} (h : lamB params body scope = true) : LamOk (Str.ofString "lot") params body scope ∧ ∀ e : Env, defaultsOf params e = ([], []) := by
  unfold lamB at h
  simp only [Bool.and_eq_true, decide_eq_true_eq, Bool.not_eq_true', List.all_eq_true, decide_eq_false_iff_not] at h
  obtain ⟨⟨⟨⟨⟨⟨⟨h1, h2⟩, h3⟩, h4⟩, h5⟩, h6⟩, h7⟩, h8⟩ := h
  split at h1
  · rename_i a
    obtain ⟨n, an, pos⟩ := a
    have e1 : n = Str.ofString "lot" := of_decide_eq_true h1
    subst e1
    split at h2
    · simp only [Bool.and_eq_true, decide_eq_true_eq] at h2
      obtain ⟨⟨e2, e3⟩, e4⟩ := h2
      subst e2
      subst e3
      subst e4
      exact ⟨⟨h3, h4, h5, fun y hy => h6 y hy, h7, h8, ⟨_, _, _, _, _, rfl⟩, fun q cl pm cv ctv u => rfl, by decide, by decide⟩, fun e => rfl⟩
    · cases h2
  · cases h1
end
end PV
end
section -- Snd9
/-! The check is sound: expressions, the induction. -/
namespace PV
open PySem PySem.Spec L2
open PyProof.Rows hiding St
section
variable {c : Bool → Nat → List D → Option D} {k : Nat}
/-- what a list of tests says -/
def tQ (c : Bool → Nat → List D → Option D) (q : Option E) : Rho → Option (Option D) := fun ρ => evQ c q ρ
theorem md_val {m : Md} (h : (m == .val || m == .tst) = true) : m = .val ∨ m = .tst := by
  cases m <;> first | exact .inl rfl | exact .inr rfl | cases h
theorem md_itr {m : Md} (h : (m == .itr || m == .itB) = true) : m = .itr ∨ m = .itB := by
  cases m <;> first | exact .inl rfl | exact .inr rfl | cases h
/-- both a value and a test -/
theorem good_two {X : Cx} {m : Md} {e : E} {x : Expr} (hv : novar e = true) (hm : m = .val ∨ m = .tst) (h1 : m = .val → PE X x (tD X.K (evE c e))) (h2 : m = .tst → PT X x (tDT X.K (evE c e))) : Good c X m e x := by
  rcases hm with rfl | rfl
  · exact good_val hv rfl (h1 rfl)
  · exact h2 rfl
theorem good_it {X : Cx} {m : Md} {e : E} {x : Expr} (hv : novar e = true) (hm : m = .itr ∨ m = .itB) (h : ∀ tg, (needT e = true → isTup tg = true) → PI X tg x (tDI X.K fun ρ => (evE c e ρ).bind itemsOf)) : Good c X m e x := by
  rcases hm with rfl | rfl
  · exact h
  · intro tg ht
    have := pid_B (h tg ht)
    rwa [show (fun ρ => (bor ρ e (evE c e ρ)).bind itemsOf) = fun ρ => (evE c e ρ).bind itemsOf from funext fun ρ => by rw [bor_nv hv]]
theorem tup_is {tg : Expr} (h : isTup tg = true) : ∃ es kk p, tg = .Tuple es kk p := by
  cases tg <;> first | exact ⟨_, _, _, rfl⟩ | cases h
theorem pw_bool {X : Cx} {op : BoolOp} {vs : List Expr} {pos : Pos} {t : TT} (h : PT X (.BoolOp op vs pos) t) : PW X (.BoolOp op vs pos) t := ⟨fun wh pins s σ H Q I q => by
  have e : isTrue (.BoolOp op vs pos) X.env wh = isTrue (.BoolOp op vs pos) X.env (eval (.BoolOp op vs pos) X.env) := by first | rfl | rw [isTrue, isTrue]
  rw [e]
  exact h.run pins s σ H Q I q⟩
theorem lrng_bor (a : E) (ρ : Rho) : ((evE c a ρ).bind fun x => f1F .lrng x) = evE c (.f1 .lrng a) ρ := by
  simp only [evE]
  cases a with
  | var i =>
    simp only [evE, bor, getV, getB]
    cases ρ[i]? with
    | none => rfl
    | some z => cases z <;> rfl
  | _ => rfl
mutual
theorem chk_ok : ∀ (e : E) {ct : Ct} {m : Md} {x : Expr} {X : Cx}, CxOk c ct X k → chk e ct m x = true → Good c X m e x
  | .var i, ct, m, x, X, h, e => by
    simp only [chk, Bool.and_eq_true] at e
    obtain ⟨hm, e⟩ := e
    split at e
    · rename_i y pos
      obtain ⟨h1, h2, h3, h4⟩ := h.vis e
      have hv : PE X (.Name y pos) (tD X.K (evE c (.var i))) := pd_var h1 h2 h3 h4
      have hb := pd_varB (pos := pos) h1 h2 h3 h4
      cases m with
      | val => exact ⟨hv, hb⟩
      | tst => exact pt_of hv (isTrue_pl hm)
      | itr => exact fun tg _ => pid_e hv
      | itB => exact fun tg _ => pid_eB hb
    · cases e
  | .cN, ct, m, x, X, h, e => by
    simp only [chk, Bool.and_eq_true] at e
    obtain ⟨hm, e⟩ := e
    split at e
    · exact good_val rfl hm pd_cN
    · cases e
  | .cB b, ct, m, x, X, h, e => by
    simp only [chk, Bool.and_eq_true] at e
    obtain ⟨hm, e⟩ := e
    split at e
    · obtain rfl := of_decide_eq_true e
      exact good_val rfl hm pd_cB
    · cases e
  | .cI b, ct, m, x, X, h, e => by
    simp only [chk, Bool.and_eq_true] at e
    obtain ⟨hm, e⟩ := e
    split at e
    · obtain rfl := of_decide_eq_true e
      exact good_val rfl hm pd_cI
    · cases e
  | .cS b, ct, m, x, X, h, e => by
    simp only [chk, Bool.and_eq_true] at e
    obtain ⟨hm, e⟩ := e
    split at e
    · obtain rfl := of_decide_eq_true e
      exact good_val rfl hm pd_cS
    · cases e
  | .gl o, ct, m, x, X, h, e => by
    simp only [chk, Bool.and_eq_true] at e
    obtain ⟨hm, e⟩ := e
    split at e
    · simp only [Bool.and_eq_true, decide_eq_true_eq] at e
      obtain ⟨e1, e2⟩ := e
      subst e2
      cases o with
      | true =>
        obtain ⟨t, g1, g2⟩ := h.g1
        exact good_val rfl hm (pd_gl (h.gl e1) g1 g2 (by decide))
      | false =>
        obtain ⟨t, g1, g2⟩ := h.g0
        exact good_val rfl hm (pd_gl (h.gl e1) g1 g2 (by decide))
    · cases e
  | .tup es, ct, m, x, X, h, e => by
    simp only [chk, Bool.and_eq_true] at e
    obtain ⟨hm, e⟩ := e
    split at e
    · exact good_val rfl hm (pd_tup (chkL_ok es h e))
    · cases e
  | .lst es, ct, m, x, X, h, e => by
    simp only [chk, Bool.and_eq_true] at e
    obtain ⟨hm, e⟩ := e
    split at e
    · exact good_val rfl hm (pd_lst (chkL_ok es h e))
    · cases e
  | .star a, ct, m, x, X, h, e => by
    simp [chk] at e
  | .bin o a b, ct, m, x, X, h, e => by
    simp only [chk, Bool.and_eq_true] at e
    obtain ⟨hm, e⟩ := e
    split at e
    · simp only [Bool.and_eq_true, decide_eq_true_eq] at e
      obtain ⟨⟨e1, e2⟩, e3⟩ := e
      subst e1
      exact good_val rfl hm (pd_bin (chk_ok a h e2).1 (chk_ok b h e3).1)
    · cases e
  | .neg a, ct, m, x, X, h, e => by
    simp only [chk, Bool.and_eq_true] at e
    obtain ⟨hm, e⟩ := e
    split at e
    · exact good_val rfl hm (pd_neg (chk_ok a h e).1)
    · cases e
  | .not a, ct, m, x, X, h, e => by
    simp only [chk] at e
    split at e
    · cases m with
      | val => exact good_val rfl rfl (pd_not (chk_ok a h e).1)
      | tst => exact ptd_not (chk_ok a h e)
      | itr => cases e
      | itB => cases e
    · cases e
  | .cmp o a b, ct, m, x, X, h, e => by
    simp only [chk] at e
    split at e
    · simp only [Bool.and_eq_true, decide_eq_true_eq] at e
      obtain ⟨⟨⟨⟨e0, e1⟩, e2⟩, e3⟩, e4⟩ := e
      subst e1
      refine good_two rfl (md_val e0) (fun _ => pd_cmp h.hu (chk_ok a h e2).2 (chk_ok b h e3).1 (behind_ns e4)) (fun _ => ptd_cmp h.hu (chk_ok a h e2).2 (chk_ok b h e3).1 (behind_ns e4))
    · cases e
  | .isN no a, ct, m, x, X, h, e => by
    simp only [chk] at e
    split at e
    · simp only [Bool.and_eq_true, decide_eq_true_eq] at e
      obtain ⟨⟨e0, e1⟩, e2⟩ := e
      subst e1
      cases no with
      | true => exact good_two rfl (md_val e0) (fun _ => pd_notN (chk_ok a h e2).1) (fun _ => ptd_notN (chk_ok a h e2).1)
      | false => exact good_two rfl (md_val e0) (fun _ => pd_isN (chk_ok a h e2).1) (fun _ => ptd_isN (chk_ok a h e2).1)
    · cases e
  | .chain a b d, ct, m, x, X, h, e => by
    simp only [chk] at e
    split at e
    · simp only [Bool.and_eq_true] at e
      obtain ⟨⟨⟨e0, e1⟩, e2⟩, e3⟩ := e
      cases m <;> try (cases e0; done)
      exact ptd_chain (chk_ok a h e1).1 (chk_ok b h e2).1 (chk_ok d h e3).1
    · cases e
  | .and a b, ct, m, x, X, h, e => by
    simp only [chk] at e
    split at e
    · rename_i y ys pos
      simp only [Bool.and_eq_true] at e
      obtain ⟨⟨e0, e1⟩, e2⟩ := e
      have hb : ∃ z zs, ys = z :: zs ∧ ((zs = [] ∧ chk b ct m z = true) ∨ chk b ct m (.BoolOp .And (z :: zs) pos) = true) := by
        split at e2
        · exact ⟨_, _, rfl, .inl ⟨rfl, e2⟩⟩
        · exact ⟨_, _, rfl, .inr e2⟩
        · cases e2
      obtain ⟨z, zs, rfl, hb⟩ := hb
      refine good_two rfl (md_val e0) (fun hm => ?_) (fun hm => ?_)
      · subst hm
        refine pd_and (chk_ok a h e1).1 ?_
        rcases hb with ⟨rfl, hb⟩ | hb
        · exact pe_one (chk_ok b h hb).1
        · exact (chk_ok b h hb).1
      · subst hm
        refine PW.pt (pwd_and (chk_ok a h e1) ?_)
        rcases hb with ⟨rfl, hb⟩ | hb
        · exact pw_and1 (chk_ok b h hb)
        · exact pw_bool (chk_ok b h hb)
    · cases e
  | .or a b, ct, m, x, X, h, e => by
    simp only [chk] at e
    split at e
    · rename_i y ys pos
      simp only [Bool.and_eq_true] at e
      obtain ⟨⟨e0, e1⟩, e2⟩ := e
      have hb : ∃ z zs, ys = z :: zs ∧ ((zs = [] ∧ chk b ct m z = true) ∨ chk b ct m (.BoolOp .Or (z :: zs) pos) = true) := by
        split at e2
        · exact ⟨_, _, rfl, .inl ⟨rfl, e2⟩⟩
        · exact ⟨_, _, rfl, .inr e2⟩
        · cases e2
      obtain ⟨z, zs, rfl, hb⟩ := hb
      refine good_two rfl (md_val e0) (fun hm => ?_) (fun hm => ?_)
      · subst hm
        refine pd_or (chk_ok a h e1).1 ?_
        rcases hb with ⟨rfl, hb⟩ | hb
        · exact pe_one (chk_ok b h hb).1
        · exact (chk_ok b h hb).1
      · subst hm
        refine PW.pt (pwd_or (chk_ok a h e1) ?_)
        rcases hb with ⟨rfl, hb⟩ | hb
        · exact pw_or1 (chk_ok b h hb)
        · exact pw_bool (chk_ok b h hb)
    · cases e
  | .ite t a b, ct, m, x, X, h, e => by
    simp only [chk, Bool.and_eq_true] at e
    obtain ⟨hm, e⟩ := e
    split at e
    · simp only [Bool.and_eq_true] at e
      obtain ⟨⟨e1, e2⟩, e3⟩ := e
      exact good_val rfl hm (pd_ite (chk_ok t h e1) (chk_ok a h e2).1 (chk_ok b h e3).1)
    · cases e
  | .ix a b, ct, m, x, X, h, e => by
    simp only [chk, Bool.and_eq_true] at e
    obtain ⟨hm, e⟩ := e
    split at e
    · simp only [Bool.and_eq_true] at e
      obtain ⟨⟨e1, e2⟩, e3⟩ := e
      exact good_val rfl hm (pd_ix (chk_ok a h e1).2 (chk_ok b h e2).1 (plain_ix e3))
    · cases e
  | .sl a lo hi, ct, m, x, X, h, e => by
    simp only [chk, Bool.and_eq_true] at e
    obtain ⟨hm, e⟩ := e
    split at e
    · simp only [Bool.and_eq_true] at e
      obtain ⟨⟨e1, e2⟩, e3⟩ := e
      exact good_val rfl hm (pd_sl (chk_ok a h e1).1 (chkO_ok lo h e2) (chkO_ok hi h e3))
    · cases e
  | .call f es, ct, m, x, X, h, e => by
    simp only [chk, Bool.and_eq_true] at e
    obtain ⟨hm, e⟩ := e
    split at e
    · simp only [Bool.and_eq_true, decide_eq_true_eq] at e
      obtain ⟨⟨⟨⟨e1, e2⟩, e3⟩, e4⟩, e5⟩ := e
      obtain ⟨⟨y, n⟩, g1, g2⟩ := Option.map_eq_some_iff.mp e1
      have g2 : y = _ := g2
      subst g2
      obtain ⟨g3, g4⟩ := Bool.and_eq_true_iff.mp e5
      exact good_val rfl hm (pd_call (h.cal f _ n g1) h.room (h.gl e2) (chkL_ok es h e4) (nmB_some e3).1 (star_ns g3) (star_all g4))
    · cases e
  | .f1 f a, ct, m, x, X, h, e => by
    simp only [chk, Bool.and_eq_true] at e
    obtain ⟨hm, e⟩ := e
    split at e
    · simp only [Bool.and_eq_true] at e
      obtain ⟨e1, e2⟩ := e
      split at e2
      · rename_i hf
        subst hf
        simp only [Bool.and_eq_true, decide_eq_true_eq] at e2
        obtain ⟨e2, e3⟩ := e2
        subst e2
        split at e3
        · simp only [Bool.and_eq_true, decide_eq_true_eq] at e3
          obtain ⟨⟨⟨e3, e4⟩, e5⟩, e6⟩ := e3
          subst e3
          refine good_val rfl hm (good_imp (pd_lrng h.calm h.B (h.gl e1) (h.gl e4) (chk_ok a h e5).1 (star_ns e6)) ?_)
          exact funext fun ρ => lrng_bor a ρ
        · cases e3
      · rename_i hf
        simp only [Bool.and_eq_true, decide_eq_true_eq] at e2
        obtain ⟨⟨e2, e3⟩, e4⟩ := e2
        subst e2
        exact good_val rfl hm (pd_f1 h.calm h.B hf (h.gl e1) (chk_ok a h e3).2 (star_ns e4))
    · cases e
  | .f2 f a b, ct, m, x, X, h, e => by
    simp only [chk, Bool.and_eq_true] at e
    obtain ⟨hm, e⟩ := e
    split at e
    · simp only [Bool.and_eq_true, decide_eq_true_eq] at e
      obtain ⟨⟨⟨⟨⟨e1, e2⟩, e3⟩, e4⟩, e5⟩, e6⟩ := e
      subst e2
      exact good_val rfl hm (pd_f2 h.calm h.B (h.gl e1) (chk_ok a h e3).1 (chk_ok b h e4).1 (star_ns e5) (star_ns e6))
    · cases e
  | .isi a t, ct, m, x, X, h, e => by
    simp only [chk, Bool.and_eq_true] at e
    obtain ⟨hm, e⟩ := e
    split at e
    · simp only [Bool.and_eq_true, decide_eq_true_eq] at e
      obtain ⟨⟨⟨⟨⟨e1, e2⟩, e3⟩, e4⟩, e5⟩, e6⟩ := e
      subst e2
      subst e4
      exact good_val rfl hm (pd_isi h.B (h.gl e1) (h.gl e3) (chk_ok a h e5).1 (star_ns e6))
    · cases e
  | .isi2 a t u, ct, m, x, X, h, e => by
    simp only [chk, Bool.and_eq_true] at e
    obtain ⟨hm, e⟩ := e
    split at e
    · simp only [Bool.and_eq_true, decide_eq_true_eq] at e
      obtain ⟨⟨⟨⟨⟨⟨⟨e1, e2⟩, e3⟩, e4⟩, e5⟩, e6⟩, e7⟩, e8⟩ := e
      subst e2
      subst e4
      subst e6
      exact good_val rfl hm (pd_isi2 h.B (h.gl e1) (h.gl e3) (h.gl e5) (chk_ok a h e7).1 (star_ns e8))
    · cases e
  | .srt sk a, ct, m, x, X, h, e => by
    simp only [chk, Bool.and_eq_true] at e
    obtain ⟨hm, e⟩ := e
    split at e
    · simp only [Bool.and_eq_true, decide_eq_true_eq] at e
      obtain ⟨⟨⟨e1, e2⟩, e3⟩, e4⟩ := e
      subst e2
      cases sk with
      | plain =>
        simp only at e4
        split at e4
        · exact good_val rfl hm (pd_srt h.hu h.B (h.gl e1) (chk_ok a h e4).2 (star_ns e3))
        · cases e4
      | setL =>
        simp only at e4
        split at e4
        · simp only [Bool.and_eq_true, decide_eq_true_eq] at e4
          obtain ⟨⟨⟨e4, e5⟩, e6⟩, e7⟩ := e4
          subst e4
          exact good_val rfl hm (pd_srtSet h.calm h.hu h.B (h.gl e1) (h.gl e5) (chk_ok a h e6).2 (star_ns e7))
        · cases e4
      | fn f =>
        simp only at e4
        split at e4
        · simp only [Bool.and_eq_true, decide_eq_true_eq] at e4
          obtain ⟨⟨⟨⟨e4, e5⟩, e6⟩, e7⟩, e8⟩ := e4
          subst e4
          exact good_val rfl hm (pd_srtFn h.hu h.B (h.key f _ 1 e5) h.room (h.gl e1) (h.gl e6) (nmB_some e7).1 (chk_ok a h e8).2 (star_ns e3))
        · cases e4
      | lam =>
        simp only at e4
        split at e4
        · simp only [Bool.and_eq_true, decide_eq_true_eq] at e4
          obtain ⟨⟨⟨e4, e5⟩, e6⟩, e7⟩ := e4
          subst e4
          obtain ⟨l1, l2⟩ := lam_ok e6
          obtain ⟨g1, g2, g3⟩ := h.lam e5
          exact good_val rfl hm (pd_srtLam h.hu h.B l1 g1 g2 g3 (l2 _) h.room (h.gl e1) (chk_ok a h e7).2 (star_ns e3))
        · cases e4
    · cases e
  | .rng1 a, ct, m, x, X, h, e => by
    simp only [chk] at e
    split at e
    · simp only [Bool.and_eq_true, decide_eq_true_eq] at e
      obtain ⟨⟨⟨⟨e0, e1⟩, e2⟩, e3⟩, e4⟩ := e
      subst e2
      exact good_it rfl (md_itr e0) fun tg _ => pid_rng1 h.B (h.gl e1) (chk_ok a h e3).1 (star_ns e4)
    · cases e
  | .rng2 a b, ct, m, x, X, h, e => by
    simp only [chk] at e
    split at e
    · simp only [Bool.and_eq_true, decide_eq_true_eq] at e
      obtain ⟨⟨⟨⟨⟨⟨e0, e1⟩, e2⟩, e3⟩, e4⟩, e5⟩, e6⟩ := e
      subst e2
      exact good_it rfl (md_itr e0) fun tg _ => pid_rng2 h.B (h.gl e1) (chk_ok a h e3).1 (chk_ok b h e4).1 (star_ns e5) (star_ns e6)
    · cases e
  | .zip a b, ct, m, x, X, h, e => by
    simp only [chk] at e
    split at e
    · simp only [Bool.and_eq_true, decide_eq_true_eq] at e
      obtain ⟨⟨⟨⟨⟨⟨e0, e1⟩, e2⟩, e3⟩, e4⟩, e5⟩, e6⟩ := e
      subst e2
      refine good_it rfl (md_itr e0) fun tg ht => ?_
      obtain ⟨es, kk, p, rfl⟩ := tup_is (ht rfl)
      exact pid_zip h.B (h.gl e1) (chk_ok a h e3).1 (chk_ok b h e4).1 (star_ns e5) (star_ns e6)
    · cases e
  | .enum o a, ct, m, x, X, h, e => by
    simp only [chk] at e
    split at e
    · simp only [Bool.and_eq_true, decide_eq_true_eq] at e
      obtain ⟨⟨⟨⟨e0, e1⟩, e2⟩, e3⟩, e4⟩ := e
      subst e2
      cases o with
      | false =>
        refine good_it rfl (by cases m <;> first | exact .inl rfl | exact .inr rfl | cases e0) fun tg ht => ?_
        obtain ⟨es, kk, p, rfl⟩ := tup_is (ht rfl)
        exact pid_enum h.B (h.gl e1) (chk_ok a h e3).1 (star_ns e4)
      | true =>
        cases m <;> try (cases e0; done)
        intro tg ht
        obtain ⟨es, kk, p, rfl⟩ := tup_is (ht rfl)
        exact pid_enumB h.B (h.gl e1) (chk_ok a h e3).2 (star_ns e4)
    · cases e
  | .lc elt tg it q ws, ct, m, x, X, h, e => by
    simp only [chk, Bool.and_eq_true] at e
    obtain ⟨hm, e⟩ := e
    split at e
    · simp only [Bool.and_eq_true, List.all_eq_true, decide_eq_true_eq] at e
      obtain ⟨⟨⟨⟨⟨⟨⟨e1, e2⟩, e3⟩, e4⟩, e5⟩, e6⟩, e7⟩, e8⟩ := e
      rw [← h.sc, ← h.N] at e3
      exact good_val rfl hm (pd_lc h.calm h.nd (blkOk_by e3) (chk_ok it h e1 _ (fun z => by rw [z] at e4; simpa using e4)) (fun s H C cl fp => tg_ok tg (h.blk s H _ C cl fp) e5) (fun s H C cl fp => chkQ_ok q (h.blk s H _ C cl fp) e7)
        (fun s H C cl fp => (chk_ok elt (h.blk s H _ C cl fp) e8).1) (fold_ns e2 _) e6)
    · cases e
  | .lc2 elt tg it tg2 it2 q ws vs, ct, m, x, X, h, e => by
    simp only [chk, Bool.and_eq_true] at e
    obtain ⟨hm, e⟩ := e
    split at e
    · simp only [Bool.and_eq_true, List.all_eq_true, decide_eq_true_eq] at e
      obtain ⟨⟨⟨⟨⟨⟨⟨⟨⟨⟨⟨⟨⟨e1, e2⟩, e3⟩, e4⟩, e5⟩, e6⟩, e7⟩, e8⟩, e9⟩, f1⟩, f2⟩, f3⟩, f4⟩, f5⟩ := e
      rw [← h.sc, ← h.N] at e3
      exact good_val rfl hm (pd_lc2 h.calm h.nd (blkOk_by e3) f3 (chk_ok it h e1 _ (fun z => by rw [z] at e4; simpa using e4)) (fun s H C cl fp => tg_ok tg (h.blk s H _ C cl fp) e5)
        (fun s H C cl fp => chk_ok it2 (h.blk s H _ C cl fp) e7 _ (fun z => by rw [z] at e9; simpa using e9)) (fun s H C cl fp => tg_ok tg2 (h.blk s H _ C cl fp) f1)
        (fun s H C cl fp => chkQ_ok q (h.blk s H _ C cl fp) f4) (fun s H C cl fp => (chk_ok elt (h.blk s H _ C cl fp) f5).1) (fold_ns e2 _) (fun env => fold_ns e8 env) e6 f2)
    · cases e
theorem chkL_ok : ∀ (es : List E) {ct : Ct} {xs : List Expr} {X : Cx}, CxOk c ct X k → chkL es ct xs = true → PA X xs (tDL X.K (evL c es))
  | [], ct, xs, X, h, e => by
    cases xs with
    | nil => exact pdl_nil
    | cons _ _ => simp [chkL] at e
  | .star a :: es, ct, xs, X, h, e => by
    simp only [chkL] at e
    split at e
    · obtain ⟨e1, e2⟩ := Bool.and_eq_true_iff.mp e
      exact pdl_star (chk_ok a h e1).1 (chkL_ok es h e2)
    · cases e
  | (.var i) :: es, ct, xs, X, h, e => by
    simp only [chkL] at e
    split at e
    · simp only [Bool.and_eq_true] at e
      obtain ⟨⟨e1, e2⟩, e3⟩ := e
      exact pdl_cons (chk_ok (.var i) h e2).1 (chkL_ok es h e3) (star_ns e1)
    · cases e
  | .cN :: es, ct, xs, X, h, e => by
    simp only [chkL] at e
    split at e
    · simp only [Bool.and_eq_true] at e
      obtain ⟨⟨e1, e2⟩, e3⟩ := e
      exact pdl_cons (chk_ok .cN h e2).1 (chkL_ok es h e3) (star_ns e1)
    · cases e
  | (.cB b) :: es, ct, xs, X, h, e => by
    simp only [chkL] at e
    split at e
    · simp only [Bool.and_eq_true] at e
      obtain ⟨⟨e1, e2⟩, e3⟩ := e
      exact pdl_cons (chk_ok (.cB b) h e2).1 (chkL_ok es h e3) (star_ns e1)
    · cases e
  | (.cI i) :: es, ct, xs, X, h, e => by
    simp only [chkL] at e
    split at e
    · simp only [Bool.and_eq_true] at e
      obtain ⟨⟨e1, e2⟩, e3⟩ := e
      exact pdl_cons (chk_ok (.cI i) h e2).1 (chkL_ok es h e3) (star_ns e1)
    · cases e
  | (.cS s) :: es, ct, xs, X, h, e => by
    simp only [chkL] at e
    split at e
    · simp only [Bool.and_eq_true] at e
      obtain ⟨⟨e1, e2⟩, e3⟩ := e
      exact pdl_cons (chk_ok (.cS s) h e2).1 (chkL_ok es h e3) (star_ns e1)
    · cases e
  | (.gl o) :: es, ct, xs, X, h, e => by
    simp only [chkL] at e
    split at e
    · simp only [Bool.and_eq_true] at e
      obtain ⟨⟨e1, e2⟩, e3⟩ := e
      exact pdl_cons (chk_ok (.gl o) h e2).1 (chkL_ok es h e3) (star_ns e1)
    · cases e
  | (.tup a) :: es, ct, xs, X, h, e => by
    simp only [chkL] at e
    split at e
    · simp only [Bool.and_eq_true] at e
      obtain ⟨⟨e1, e2⟩, e3⟩ := e
      exact pdl_cons (chk_ok (.tup a) h e2).1 (chkL_ok es h e3) (star_ns e1)
    · cases e
  | (.lst a) :: es, ct, xs, X, h, e => by
    simp only [chkL] at e
    split at e
    · simp only [Bool.and_eq_true] at e
      obtain ⟨⟨e1, e2⟩, e3⟩ := e
      exact pdl_cons (chk_ok (.lst a) h e2).1 (chkL_ok es h e3) (star_ns e1)
    · cases e
  | (.bin o a b) :: es, ct, xs, X, h, e => by
    simp only [chkL] at e
    split at e
    · simp only [Bool.and_eq_true] at e
      obtain ⟨⟨e1, e2⟩, e3⟩ := e
      exact pdl_cons (chk_ok (.bin o a b) h e2).1 (chkL_ok es h e3) (star_ns e1)
    · cases e
  | (.neg a) :: es, ct, xs, X, h, e => by
    simp only [chkL] at e
    split at e
    · simp only [Bool.and_eq_true] at e
      obtain ⟨⟨e1, e2⟩, e3⟩ := e
      exact pdl_cons (chk_ok (.neg a) h e2).1 (chkL_ok es h e3) (star_ns e1)
    · cases e
  | (.not a) :: es, ct, xs, X, h, e => by
    simp only [chkL] at e
    split at e
    · simp only [Bool.and_eq_true] at e
      obtain ⟨⟨e1, e2⟩, e3⟩ := e
      exact pdl_cons (chk_ok (.not a) h e2).1 (chkL_ok es h e3) (star_ns e1)
    · cases e
  | (.cmp o a b) :: es, ct, xs, X, h, e => by
    simp only [chkL] at e
    split at e
    · simp only [Bool.and_eq_true] at e
      obtain ⟨⟨e1, e2⟩, e3⟩ := e
      exact pdl_cons (chk_ok (.cmp o a b) h e2).1 (chkL_ok es h e3) (star_ns e1)
    · cases e
  | (.isN n a) :: es, ct, xs, X, h, e => by
    simp only [chkL] at e
    split at e
    · simp only [Bool.and_eq_true] at e
      obtain ⟨⟨e1, e2⟩, e3⟩ := e
      exact pdl_cons (chk_ok (.isN n a) h e2).1 (chkL_ok es h e3) (star_ns e1)
    · cases e
  | (.chain a b d) :: es, ct, xs, X, h, e => by
    simp only [chkL] at e
    split at e
    · simp only [Bool.and_eq_true] at e
      obtain ⟨⟨e1, e2⟩, e3⟩ := e
      exact pdl_cons (chk_ok (.chain a b d) h e2).1 (chkL_ok es h e3) (star_ns e1)
    · cases e
  | (.and a b) :: es, ct, xs, X, h, e => by
    simp only [chkL] at e
    split at e
    · simp only [Bool.and_eq_true] at e
      obtain ⟨⟨e1, e2⟩, e3⟩ := e
      exact pdl_cons (chk_ok (.and a b) h e2).1 (chkL_ok es h e3) (star_ns e1)
    · cases e
  | (.or a b) :: es, ct, xs, X, h, e => by
    simp only [chkL] at e
    split at e
    · simp only [Bool.and_eq_true] at e
      obtain ⟨⟨e1, e2⟩, e3⟩ := e
      exact pdl_cons (chk_ok (.or a b) h e2).1 (chkL_ok es h e3) (star_ns e1)
    · cases e
  | (.ite t a b) :: es, ct, xs, X, h, e => by
    simp only [chkL] at e
    split at e
    · simp only [Bool.and_eq_true] at e
      obtain ⟨⟨e1, e2⟩, e3⟩ := e
      exact pdl_cons (chk_ok (.ite t a b) h e2).1 (chkL_ok es h e3) (star_ns e1)
    · cases e
  | (.ix a b) :: es, ct, xs, X, h, e => by
    simp only [chkL] at e
    split at e
    · simp only [Bool.and_eq_true] at e
      obtain ⟨⟨e1, e2⟩, e3⟩ := e
      exact pdl_cons (chk_ok (.ix a b) h e2).1 (chkL_ok es h e3) (star_ns e1)
    · cases e
  | (.sl a l u) :: es, ct, xs, X, h, e => by
    simp only [chkL] at e
    split at e
    · simp only [Bool.and_eq_true] at e
      obtain ⟨⟨e1, e2⟩, e3⟩ := e
      exact pdl_cons (chk_ok (.sl a l u) h e2).1 (chkL_ok es h e3) (star_ns e1)
    · cases e
  | (.call f a) :: es, ct, xs, X, h, e => by
    simp only [chkL] at e
    split at e
    · simp only [Bool.and_eq_true] at e
      obtain ⟨⟨e1, e2⟩, e3⟩ := e
      exact pdl_cons (chk_ok (.call f a) h e2).1 (chkL_ok es h e3) (star_ns e1)
    · cases e
  | (.f1 f a) :: es, ct, xs, X, h, e => by
    simp only [chkL] at e
    split at e
    · simp only [Bool.and_eq_true] at e
      obtain ⟨⟨e1, e2⟩, e3⟩ := e
      exact pdl_cons (chk_ok (.f1 f a) h e2).1 (chkL_ok es h e3) (star_ns e1)
    · cases e
  | (.f2 f a b) :: es, ct, xs, X, h, e => by
    simp only [chkL] at e
    split at e
    · simp only [Bool.and_eq_true] at e
      obtain ⟨⟨e1, e2⟩, e3⟩ := e
      exact pdl_cons (chk_ok (.f2 f a b) h e2).1 (chkL_ok es h e3) (star_ns e1)
    · cases e
  | (.isi a t) :: es, ct, xs, X, h, e => by
    simp only [chkL] at e
    split at e
    · simp only [Bool.and_eq_true] at e
      obtain ⟨⟨e1, e2⟩, e3⟩ := e
      exact pdl_cons (chk_ok (.isi a t) h e2).1 (chkL_ok es h e3) (star_ns e1)
    · cases e
  | (.isi2 a t u) :: es, ct, xs, X, h, e => by
    simp only [chkL] at e
    split at e
    · simp only [Bool.and_eq_true] at e
      obtain ⟨⟨e1, e2⟩, e3⟩ := e
      exact pdl_cons (chk_ok (.isi2 a t u) h e2).1 (chkL_ok es h e3) (star_ns e1)
    · cases e
  | (.srt sk a) :: es, ct, xs, X, h, e => by
    simp only [chkL] at e
    split at e
    · simp only [Bool.and_eq_true] at e
      obtain ⟨⟨e1, e2⟩, e3⟩ := e
      exact pdl_cons (chk_ok (.srt sk a) h e2).1 (chkL_ok es h e3) (star_ns e1)
    · cases e
  | (.rng1 a) :: es, ct, xs, X, h, e => by
    simp only [chkL] at e
    split at e
    · simp only [Bool.and_eq_true] at e
      obtain ⟨⟨e1, e2⟩, e3⟩ := e
      exact pdl_cons (chk_ok (.rng1 a) h e2).1 (chkL_ok es h e3) (star_ns e1)
    · cases e
  | (.rng2 a b) :: es, ct, xs, X, h, e => by
    simp only [chkL] at e
    split at e
    · simp only [Bool.and_eq_true] at e
      obtain ⟨⟨e1, e2⟩, e3⟩ := e
      exact pdl_cons (chk_ok (.rng2 a b) h e2).1 (chkL_ok es h e3) (star_ns e1)
    · cases e
  | (.zip a b) :: es, ct, xs, X, h, e => by
    simp only [chkL] at e
    split at e
    · simp only [Bool.and_eq_true] at e
      obtain ⟨⟨e1, e2⟩, e3⟩ := e
      exact pdl_cons (chk_ok (.zip a b) h e2).1 (chkL_ok es h e3) (star_ns e1)
    · cases e
  | (.enum o a) :: es, ct, xs, X, h, e => by
    simp only [chkL] at e
    split at e
    · simp only [Bool.and_eq_true] at e
      obtain ⟨⟨e1, e2⟩, e3⟩ := e
      exact pdl_cons (chk_ok (.enum o a) h e2).1 (chkL_ok es h e3) (star_ns e1)
    · cases e
  | (.lc a b d q w) :: es, ct, xs, X, h, e => by
    simp only [chkL] at e
    split at e
    · simp only [Bool.and_eq_true] at e
      obtain ⟨⟨e1, e2⟩, e3⟩ := e
      exact pdl_cons (chk_ok (.lc a b d q w) h e2).1 (chkL_ok es h e3) (star_ns e1)
    · cases e
  | (.lc2 a b d f g q w v) :: es, ct, xs, X, h, e => by
    simp only [chkL] at e
    split at e
    · simp only [Bool.and_eq_true] at e
      obtain ⟨⟨e1, e2⟩, e3⟩ := e
      exact pdl_cons (chk_ok (.lc2 a b d f g q w v) h e2).1 (chkL_ok es h e3) (star_ns e1)
    · cases e
theorem chkO_ok : ∀ (e0 : Option E) {ct : Ct} {x : Option Expr} {X : Cx}, CxOk c ct X k → chkO e0 ct x = true → PO X x (tDO X.K (evO c e0))
  | none, ct, x, X, h, e => by
    cases x with
    | none => exact pod_none
    | some _ => simp [chkO] at e
  | some a, ct, x, X, h, e => by
    cases x with
    | none => simp [chkO] at e
    | some y =>
      simp only [chkO] at e
      exact pod_some (chk_ok a h e).1
theorem chkQ_ok : ∀ (q : Option E) {ct : Ct} {xs : List Expr} {X : Cx}, CxOk c ct X k → chkQ q ct xs = true → PTs X xs (tDQ X.K (evQ c q))
  | none, ct, xs, X, h, e => by
    cases xs with
    | nil => exact ptq_nil
    | cons _ _ => simp [chkQ] at e
  | some a, ct, xs, X, h, e => by
    simp only [chkQ] at e
    split at e
    · exact ptq_one (chk_ok a h e)
    · cases e
end
end
end PV
end
section -- Snd10
/-! The check of a statement against its text, and that it is sound. -/
namespace PV
open PySem PySem.Spec L2
open PyProof.Rows hiding St
/-- no comprehension but a list's -/
def compB : Expr → Bool
  | .SetComp _ _ _ _ => false
  | .DictComp _ _ _ _ _ => false
  | _ => true
def notComp : Expr → Bool
  | .ListComp _ _ _ _ => false
  | x => compB x
def isLocal (ct : Ct) (x : Str) : Bool := ct.sc.names.lookup x == some NameKind.local
/-- a comprehension whose list is stored on the same line into a local name -/
def swB (ct : Ct) (y : Str) (p : Pos) : Expr → Bool
  | .ListComp _ _ s vp => isLocal ct y && p.line == vp.line && !(s.names.any fun (n, k) => n == y && (k == .local || k == .cell))
  | _ => false
def newE : E → Bool
  | .lst [] => true
  | .f1 .list _ => true
  | .lc _ _ _ _ _ => true
  | _ => false
/-- x, y = u, v: none: not covered; true: the names are stored from the right -/
def parB (ct : Ct) (y : Str) (p : Pos) (z : Str) (q : Pos) (u v : Expr) : Option Bool :=
  if isLocal ct y && isLocal ct z then (if q.line == p.line && !([u, v].all (foldedForSure 8)) && !([u, v].all (constantsAlone 8)) then some true else none) else some false
def fnK (ct : Ct) : Bool := decide (ct.sc.kind = .function)
mutual
def chkS : S → Ct → Stmt → Bool
  | .asg t e, ct, st => match st with
    | .Assign [.Name y p] x _ => (match t with
      | .one i => locB ct i y && chk e ct .val x && compB x
      | _ => false)
    | .Assign [.Tuple ts kt pt] x _ => chkTg t ct (.Tuple ts kt pt) && chk e ct .val x && !isTup x && compB x
    | _ => false
  | .new i e, ct, st => match st with
    | .Assign [.Name y p] x _ => locB ct i y && chk e ct .val x && newE e && compB x
    | _ => false
  | .par2 i j a b, ct, st => match st with
    | .Assign [.Tuple [.Name y p, .Name z q] _ _] (.Tuple [u, v] _ _) _ => decide (i ≠ j) && locB ct i y && locB ct j z && chk a ct .val u && chk b ct .val v && notStar u && notStar v && (parB ct y p z q u v).isSome
    | _ => false
  | .par3 i j l a b d, ct, st => match st with
    | .Assign [.Tuple [.Name y p, .Name z q, .Name w r] _ _] (.Tuple [u, v, t] _ _) _ => decide (i ≠ j) && decide (i ≠ l) && decide (j ≠ l) && locB ct i y && locB ct j z && locB ct l w && chk a ct .val u && chk b ct .val v && chk d ct .val t && notStar u && notStar v && notStar t &&
        isLocal ct y && isLocal ct z && isLocal ct w && q.line == p.line && r.line == p.line && !([u, v, t].all (foldedForSure 8)) && !([u, v, t].all (constantsAlone 8))
    | _ => false
  | .newP i j a b, ct, st => match st with
    | .Assign [.Tuple [.Name y p, .Name z q] _ _] (.Tuple [u, v] _ _) _ => decide (i ≠ j) && locB ct i y && locB ct j z && chk a ct .val u && newE a && chk b ct .val v && notStar u && notStar v && (parB ct y p z q u v).isSome
    | _ => false
  | .aug i e, ct, st => match st with
    | .AugAssign (.Name y _) .Add x _ => locB ct i y && chk e ct .val x
    | _ => false
  | .setIx i k e, ct, st => match st with
    | .Assign [.Subscript (.Name y _) z _] x _ => visB ct i y && chk k ct .val z && chk e ct .val x && notSlice z && compB x
    | _ => false
  | .swp i a b, ct, st => match st with
    | .Assign [.Tuple [.Subscript (.Name y p1) z1 p2, .Subscript (.Name w q1) z2 q2] _ _] (.Tuple [u, v] _ _) _ => visB ct i y && visB ct i w && chk a ct .val z1 && chk b ct .val z2 && notSlice z1 && notSlice z2 && chk (.ix (.var i) b) ct .val u && chk (.ix (.var i) a) ct .val v && notStar u && notStar v
    | _ => false
  | .app i e, ct, st => match st with
    | .Expr (.Call (.Attribute (.Name y _) nm ap) [x] [] cp) _ => visB ct i y && decide (nm = Str.ofString "append") && chk e ct .val x && notStar x && ap.endLine == cp.line
    | _ => false
  | .pop j i e, ct, st => match st with
    | .Assign [.Name z _] (.Call (.Attribute (.Name y _) nm ap) [x] [] cp) _ => locB ct j z && visB ct i y && decide (nm = Str.ofString "pop") && chk e ct .val x && notStar x && ap.endLine == cp.line
    | _ => false
  | .ret e, ct, st => match st with
    | .Return (some x) _ => chk e ct .val x
    | _ => false
  | .ite t a b, ct, st => match st with
    | .If x s1 s2 _ => chk t ct .tst x && chkSs a ct s1 && chkSs b ct s2
    | _ => false
  | .for_ t it b, ct, st => match st with
    | .For tg x body [] _ => chkTg t ct tg && chk it ct .itr x && notSet x && (!needT it || isTup tg) && chkSs b ct body
    | _ => false
  | .whl t b, ct, st => match st with
    | .While x body [] _ => chk t ct .tst x && chkSs b ct body
    | _ => false
  | .ex e, ct, st => match st with
    | .Expr x _ => chk e ct .val x && notComp x
    | _ => false
  | .never, _, _ => true
  | .frz _, _, _ => false
def chkSs : List S → Ct → List Stmt → Bool
  | [], _, sts => match sts with
    | [] => true
    | _ => false
  | .frz _ :: r, ct, sts => chkSs r ct sts
  | s :: r, ct, sts => match sts with
    | st :: sts => chkS s ct st && chkSs r ct sts
    | [] => false
end
section
variable {c : Bool → Nat → List D → Option D} {ct : Ct} {X : Cx} {k : Nat}
theorem PS.to {X : Cx} {st : Stmt} {t u : TS} (h : PS X st t) (hi : ∀ D σ H, u D σ H → t D σ H) : PS X st u := ⟨fun pins s σ H D I q => h.run pins s σ H D I (hi D σ H q)⟩
theorem PSs.to {X : Cx} {st : List Stmt} {t u : TS} (h : PSs X st t) (hi : ∀ D σ H, u D σ H → t D σ H) : PSs X st u := ⟨fun pins s σ H D I q => h.run pins s σ H D I (hi D σ H q)⟩
theorem bk_fn (h : CxOk c ct X k) (hf : fnK ct = true) : X.env.blockKind = .function := by
  have hk : X.env.scope.kind = .function := by rw [h.sc]; exact of_decide_eq_true hf
  unfold Env.blockKind
  rw [hk]
  rfl
theorem sw_name (h : CxOk c ct X k) (hf : fnK ct = true) {y : Str} {p : Pos} {x : Expr} (hc : compB x = true) (line : Nat) : swapsWith x (some (.Name y p)) line X.env = pure (swB ct y p x) := by
  have hk := bk_fn h hf
  cases x <;> first
    | rfl
    | (cases hc; done)
    | skip
  rename_i elt gens s vp
  simp only [swapsWith, swB, hk, isLocal, Env.kindOf, h.sc]
  first | rfl | (congr 1; simp [Expr.pos])
theorem sw_none (h : CxOk c ct X k) {x : Expr} (hc : notComp x = true) (line : Nat) : swapsWith x none line X.env = pure false := by
  cases x <;> first
    | rfl
    | (cases hc; done)
theorem sw_other {tg x : Expr} (ht : ∀ y p, tg ≠ .Name y p) (e : Env) (line : Nat) : swapsWith x (some tg) line e = pure false := by
  cases x <;> cases tg <;> first
    | rfl
    | exact absurd rfl (ht _ _)
/-- a new list -/
theorem new_ok {e : E} {x : Expr} (hn : newE e = true) (h : CxOk c ct X k) (hx : chk e ct .val x = true) : PE X x (tDN X.K (evE c e)) := by
  cases e with
  | lst es =>
    cases es with
    | nil =>
      simp only [chk, Bool.and_eq_true] at hx
      obtain ⟨_, hx⟩ := hx
      split at hx
      · rename_i xs pos _
        cases xs with
        | nil => exact pn_nil
        | cons _ _ => simp [chkL] at hx
      · cases hx
    | cons _ _ => cases hn
  | f1 f a =>
    cases f <;> try (cases hn; done)
    simp only [chk, Bool.and_eq_true] at hx
    obtain ⟨_, hx⟩ := hx
    split at hx
    · simp only [Bool.and_eq_true] at hx
      obtain ⟨e1, e2⟩ := hx
      rw [if_neg (by decide)] at e2
      simp only [Bool.and_eq_true, decide_eq_true_eq] at e2
      obtain ⟨⟨e2, e3⟩, e4⟩ := e2
      subst e2
      exact pn_list h.B (h.gl e1) (chk_ok a h e3).2 (star_ns e4)
    · cases hx
  | lc elt tg it q ws =>
    simp only [chk, Bool.and_eq_true] at hx
    obtain ⟨hm, e⟩ := hx
    split at e
    · simp only [Bool.and_eq_true, List.all_eq_true, decide_eq_true_eq] at e
      obtain ⟨⟨⟨⟨⟨⟨⟨e1, e2⟩, e3⟩, e4⟩, e5⟩, e6⟩, e7⟩, e8⟩ := e
      rw [← h.sc, ← h.N] at e3
      exact ⟨fun pins s σ H Q I q0 => (pe_lc h.calm h.nd (chk_ok it h e1 _ (fun z => by rw [z] at e4; simpa using e4)) (blkOk_by e3) (fun s H C cl fp => tg_ok tg (h.blk s H _ C cl fp) e5) (fun s H C cl fp => chkQ_ok q (h.blk s H _ C cl fp) e7)
        (fun s H C cl fp => (chk_ok elt (h.blk s H _ C cl fp) e8).1) (fold_ns e2 _)).run pins s σ H Q I (lc_readN e6 q0)⟩
    · cases e
  | _ => cases hn
theorem nova {e : E} {f : Rho → Option D} : True := trivial
/-- name = a list comprehension on the same line -/
theorem lc_ps {e : E} {x : Expr} {y : Str} {p pos : Pos} {i : Nat} (h : CxOk c ct X k) (hx : chk e ct .val x = true) (hsw : swapsWith x (some (.Name y p)) pos.line X.env = pure true) (hc : swB ct y p x = true) (hi : X.N[i]? = some y) : PS X (.Assign [.Name y p] x pos) (tAsg (tDN X.K (evE c e)) (gName i)) := by
  cases x <;> try (cases hc; done)
  rename_i elt gens sc vp
  have hyl : X.env.scope.names.lookup y = some .local := by
    rw [h.sc]
    simp only [swB, Bool.and_eq_true, isLocal] at hc
    exact eq_of_beq hc.1.1
  cases e <;> simp only [chk, Bool.and_eq_true] at hx <;> try (first | (cases hx; done) | (obtain ⟨_, hx⟩ := hx; cases hx; done))
  case lc elt tg it q ws =>
    obtain ⟨hm, e⟩ := hx
    split at e
    · simp only [Bool.and_eq_true, List.all_eq_true, decide_eq_true_eq] at e
      rename_i heq
      injection heq with q1 q2 q3 q4
      subst q1 q2 q3 q4
      obtain ⟨⟨⟨⟨⟨⟨⟨e1, e2⟩, e3⟩, e4⟩, e5⟩, e6⟩, e7⟩, e8⟩ := e
      rw [← h.sc, ← h.N] at e3
      exact PS.to (ps_setLc h.calm h.nd hi hyl hsw (chk_ok it h e1 _ (fun z => by rw [z] at e4; simpa using e4)) (blkOk_by e3) (fun s H C cl fp => tg_ok tg (h.blk s H _ C cl fp) e5) (fun s H C cl fp => chkQ_ok q (h.blk s H _ C cl fp) e7)
        (fun s H C cl fp => (chk_ok elt (h.blk s H _ C cl fp) e8).1) (fold_ns e2 _)) fun D σ H q0 => lc_readN e6 q0
    · cases e
  case lc2 elt tg it tg2 it2 q ws vs =>
    obtain ⟨hm, e⟩ := hx
    split at e
    · simp only [Bool.and_eq_true, List.all_eq_true, decide_eq_true_eq] at e
      rename_i heq
      injection heq with q1 q2 q3 q4
      subst q1 q2 q3 q4
      obtain ⟨⟨⟨⟨⟨⟨⟨⟨⟨⟨⟨⟨⟨e1, e2⟩, e3⟩, e4⟩, e5⟩, e6⟩, e7⟩, e8⟩, e9⟩, f1⟩, f2⟩, f3⟩, f4⟩, f5⟩ := e
      rw [← h.sc, ← h.N] at e3
      exact PS.to (ps_setLc2 h.calm h.nd hi hyl hsw (chk_ok it h e1 _ (fun z => by rw [z] at e4; simpa using e4)) (blkOk_by e3) f3 (fun s H C cl fp => tg_ok tg (h.blk s H _ C cl fp) e5)
        (fun s H C cl fp => pts_nil) (fun s H C cl fp => chk_ok it2 (h.blk s H _ C cl fp) e7 _ (fun z => by rw [z] at e9; simpa using e9)) (fun s H C cl fp => tg_ok tg2 (h.blk s H _ C cl fp) f1)
        (fun s H C cl fp => chkQ_ok q (h.blk s H _ C cl fp) f4) (fun s H C cl fp => (chk_ok elt (h.blk s H _ C cl fp) f5).1) (fold_ns e2 _) (fun env => fold_ns e8 env)) fun D σ H q0 => lc2_readN e6 f2 q0
    · cases e
/-- a name gets a value; a new list -/
theorem name_ps {e : E} {x : Expr} {y : Str} {p pos : Pos} {i : Nat} (h : CxOk c ct X k) (hf : fnK ct = true) (hl : locB ct i y = true) (hx : chk e ct .val x = true) (hc : compB x = true) :
    PS X (.Assign [.Name y p] x pos) (tAsg (tD X.K (evE c e)) (gName i)) ∧ (newE e = true → PS X (.Assign [.Name y p] x pos) (tAsg (tDN X.K (evE c e)) (gName i))) := by
  obtain ⟨h1, h2, h3⟩ := h.loc hl
  have hsw := sw_name (p := p) h hf (y := y) hc pos.line
  cases hb : swB ct y p x with
  | true =>
    rw [hb] at hsw
    have := lc_ps h hx hsw hb h1
    exact ⟨PS.to this fun D σ H q0 => tD_N q0, fun _ => this⟩
  | false =>
    rw [hb] at hsw
    exact ⟨ps_set h.nd h1 h2 (chk_ok e h hx).1 hsw h3, fun hn => ps_set h.nd h1 h2 (new_ok hn h hx) hsw h3⟩
theorem all2 {f : Expr → Bool} {u v : Expr} : ([u, v].all f) = (f u && (f v && true)) := rfl
theorem swap_yes {ct : Ct} {y z : Str} {p q pt : Pos} {kt k2 : Nat} {pt2 : Pos} {u v : Expr} (h : CxOk c ct X k) (hf : fnK ct = true) (hu : notStar u = true) (hv : notStar v = true) (hyz : y ≠ z) (hp : parB ct y p z q u v = some true) :
    X.env.scope.names.lookup y = some .local ∧ X.env.scope.names.lookup z = some .local ∧ swappedStores [.Tuple [.Name y p, .Name z q] kt pt] (.Tuple [u, v] k2 pt2) X.env = pure (some [y, z]) := by
  have hk := bk_fn h hf
  unfold parB at hp
  split at hp
  · rename_i hl
    split at hp
    · rename_i hd
      simp only [Bool.and_eq_true, isLocal, Bool.not_eq_true'] at hl hd
      obtain ⟨l1, l2⟩ := hl
      obtain ⟨⟨d1, d2⟩, d3⟩ := hd
      have e1 : X.env.kindOf y = some .local := by
        show X.env.scope.names.lookup y = _
        rw [h.sc]; exact eq_of_beq l1
      have e2 : X.env.kindOf z = some .local := by
        show X.env.scope.names.lookup z = _
        rw [h.sc]; exact eq_of_beq l2
      refine ⟨e1, e2, ?_⟩
      have hzy : (z == y) = false := beq_eq_false_iff_ne.mpr (Ne.symm hyz)
      unfold swappedStores
      simp only [hk, e1, e2, d2, d3]
      simp [Expr.pos, e1, e2, eq_of_beq d1, hyz, hzy, List.filterMap, List.eraseDups, List.eraseDupsBy, List.eraseDupsBy.loop, hyz.symm]
      rintro (a | a)
      · cases u <;> first | (cases a; done) | (cases hu; done)
      · cases v <;> first | (cases a; done) | (cases hv; done)
    · cases hp
  · cases hp
theorem swap_no {ct : Ct} {y z : Str} {p q pt : Pos} {kt k2 : Nat} {pt2 : Pos} {u v : Expr} (h : CxOk c ct X k) (hf : fnK ct = true) (hu : notStar u = true) (hv : notStar v = true) (hp : parB ct y p z q u v = some false) :
    swappedStores [.Tuple [.Name y p, .Name z q] kt pt] (.Tuple [u, v] k2 pt2) X.env = pure none := by
  have hk := bk_fn h hf
  unfold parB at hp
  split at hp
  · split at hp <;> cases hp
  · rename_i hl
    have hu' : (match u with | .Starred .. => true | _ => false) = false := by cases u <;> first | rfl | (cases hu; done)
    have hv' : (match v with | .Starred .. => true | _ => false) = false := by cases v <;> first | rfl | (cases hv; done)
    have e1 : X.env.kindOf y = ct.sc.names.lookup y := by
      show X.env.scope.names.lookup y = _
      rw [h.sc]
    have e2 : X.env.kindOf z = ct.sc.names.lookup z := by
      show X.env.scope.names.lookup z = _
      rw [h.sc]
    have hl2 : ¬ X.env.kindOf y = some .local ∨ ¬ X.env.kindOf z = some .local := by
      rw [e1, e2]
      by_cases a : ct.sc.names.lookup y = some .local
      · refine .inr fun b => hl ?_
        simp [isLocal, a, b]
      · exact .inl a
    unfold swappedStores
    simp only [hk]
    rcases hl2 with a | a
    · by_cases b : X.env.kindOf z = some .local
      · by_cases d : q.line = p.line
        · simp [Expr.pos, hu', hv', a, b, d, List.filterMap]
        · simp [Expr.pos, hu', hv', a, b, d, List.filterMap]
      · simp [Expr.pos, hu', hv', a, b, List.filterMap]
    · by_cases b : X.env.kindOf y = some .local
      · simp [Expr.pos, hu', hv', a, b, List.filterMap]
      · simp [Expr.pos, hu', hv', a, b, List.filterMap]
theorem swap3_yes {ct : Ct} {y z w : Str} {p q r pt : Pos} {kt k2 : Nat} {pt2 : Pos} {u v t : Expr} (h : CxOk c ct X k) (hf : fnK ct = true) (hu : notStar u = true) (hv : notStar v = true) (ht : notStar t = true) (hyz : y ≠ z) (hyw : y ≠ w) (hzw : z ≠ w) (l1 : isLocal ct y = true) (l2 : isLocal ct z = true) (l3 : isLocal ct w = true)
    (d1 : (q.line == p.line) = true) (d2 : (r.line == p.line) = true) (d3 : [u, v, t].all (foldedForSure 8) = false) (d4 : [u, v, t].all (constantsAlone 8) = false) :
    swappedStores [.Tuple [.Name y p, .Name z q, .Name w r] kt pt] (.Tuple [u, v, t] k2 pt2) X.env = pure (some [y, z, w]) := by
  have hk := bk_fn h hf
  have e1 : X.env.kindOf y = some .local := by
    show X.env.scope.names.lookup y = _
    rw [h.sc]; exact eq_of_beq l1
  have e2 : X.env.kindOf z = some .local := by
    show X.env.scope.names.lookup z = _
    rw [h.sc]; exact eq_of_beq l2
  have e3 : X.env.kindOf w = some .local := by
    show X.env.scope.names.lookup w = _
    rw [h.sc]; exact eq_of_beq l3
  have a1 : (z == y) = false := beq_eq_false_iff_ne.mpr (Ne.symm hyz)
  have a2 : (w == y) = false := beq_eq_false_iff_ne.mpr (Ne.symm hyw)
  have a3 : (w == z) = false := beq_eq_false_iff_ne.mpr (Ne.symm hzw)
  unfold swappedStores
  simp only [hk, e1, e2, e3, d3, d4]
  simp [Expr.pos, e1, e2, e3, eq_of_beq d1, eq_of_beq d2, hyz, hyw, hzw, a1, a2, a3, List.filterMap, List.eraseDups, List.eraseDupsBy, List.eraseDupsBy.loop]
  rintro (a | a | a)
  · cases u <;> first | (cases a; done) | (cases hu; done)
  · cases v <;> first | (cases a; done) | (cases hv; done)
  · cases t <;> first | (cases a; done) | (cases ht; done)
theorem ne_slots {N : List Str} (nd : N.Nodup) {i j : Nat} {x y : Str} (h1 : N[i]? = some x) (h2 : N[j]? = some y) (h : i ≠ j) : x ≠ y := fun e => h (nodup_ix nd h1 (e ▸ h2))
theorem sw_tup {x : Expr} {ts : List Expr} {kt : Nat} {pt : Pos} {e : Env} {line : Nat} : swapsWithSole [.Tuple ts kt pt] x line e = pure false := sw_other (tg := .Tuple ts kt pt) (fun y p z => Expr.noConfusion z) e line
/-- x, y = u, v by names -/
theorem par_ps {ta : TA} {y z : Str} {p q pt pos : Pos} {kt k2 : Nat} {pt2 : Pos} {u v : Expr} {i j : Nat} (h : CxOk c ct X k) (hf : fnK ct = true) (hij : i ≠ j) (h1 : locB ct i y = true) (h2 : locB ct j z = true) (ha : PA X [u, v] ta) (hu : notStar u = true) (hv : notStar v = true) (hp : (parB ct y p z q u v).isSome = true) {tu : TS}
    (hr : ∀ D σ H, tu D σ H → ta σ H fun vs H1 => ∃ v w, vs = [v, w] ∧ ∀ H2, Sm X.K H1 H2 → D.nx ((σ.set i (some v)).set j (some w)) H2) (hw : ∀ σ H (Q Q' : List V → Hp → Prop), ta σ H Q → (∀ vs H1, Q vs H1 → Q' vs H1) → ta σ H Q') :
    PS X (.Assign [.Tuple [.Name y p, .Name z q] kt pt] (.Tuple [u, v] k2 pt2) pos) tu := by
  obtain ⟨n1, n2, n3⟩ := h.loc h1
  obtain ⟨m1, m2, m3⟩ := h.loc h2
  have hyz := ne_slots h.nd n1 m1 hij
  obtain ⟨b, hb⟩ := Option.isSome_iff_exists.mp hp
  cases b with
  | true =>
    obtain ⟨g1, g2, g3⟩ := swap_yes (kt := kt) (pt := pt) (k2 := k2) (pt2 := pt2) h hf hu hv hyz hb
    refine PS.to (ps_par h.calm h.nd n1 m1 hij g1 g2 ha g3 sw_tup) fun D σ H q0 => ?_
    exact hw _ _ _ _ (hr D σ H q0) fun vs H1 ⟨v, w, e, q⟩ => ⟨v, w, e, q H1 (Sm.refl H1)⟩
  | false =>
    have g := swap_no (kt := kt) (pt := pt) (k2 := k2) (pt2 := pt2) h hf hu hv hb
    refine PS.to (ps_asg (pe_tup ha) (pg_tup h.calm (pgs_cons (pg_name h.nd n1 n2 n3) (pgs_cons (pg_name h.nd m1 m2 m3) pgs_nil))) sw_tup g) fun D σ H q0 => ?_
    exact hw _ _ _ _ (hr D σ H q0) fun vs H1 ⟨v, w, e, q⟩ => by
      subst e
      exact ⟨by show 2 ≤ sizeLine; decide, fun t ht => ⟨t, [v, w], rfl, .inl (.inl upd_same), rfl, v, [w], rfl, w, [], rfl, rfl, q _ (sm_upd ht)⟩⟩
end
end PV
end
section -- Snd11
/-! The check of statements is sound. -/
namespace PV
open PySem PySem.Spec L2
open PyProof.Rows hiding St
theorem asg_sub {o z : Expr} {pos : Pos} {e : Env} (hz : notSlice z = true) (v : Value) : assign (.Subscript o z pos) e v = (do
      let ov ← holding [v] (eval o e)
      let iv ← holding [v, ov] (eval z e)
      standAt pos
      holding [v, ov, iv] (setItem ov iv v)
      release [v, ov, iv] []) := by
  cases z <;> first | rfl | cases hz
theorem sw_ntup {x : Expr} {ts : List Expr} {kt : Nat} {pt : Pos} {e : Env} (h : isTup x = false) : swappedStores [.Tuple ts kt pt] x e = pure none := by
  cases x <;> first | rfl | cases h
theorem sw_sub {x o z : Expr} {p : Pos} {e : Env} : swappedStores [.Subscript o z p] x e = pure none := by
  cases x <;> rfl
theorem sw_sub2 {x o z : Expr} {p : Pos} {e : Env} {line : Nat} : swapsWithSole [.Subscript o z p] x line e = pure false := sw_other (tg := .Subscript o z p) (fun y p z => Expr.noConfusion z) e line
theorem sw_subs {u v o1 z1 o2 z2 : Expr} {p1 p2 pt pt2 : Pos} {kt k2 : Nat} {e : Env} (hf : e.blockKind = .function) : swappedStores [.Tuple [.Subscript o1 z1 p1, .Subscript o2 z2 p2] kt pt] (.Tuple [u, v] k2 pt2) e = pure none := by
  unfold swappedStores
  simp only [hf]
  simp [Expr.pos, List.filterMap]
theorem tD_mono {K : PySem.W.Frag} {f : Rho → Option D} {σ : St} {H : Hp} {Q Q' : VK} (h : tD K f σ H Q) (hq : ∀ v H1, Q v H1 → Q' v H1) : tD K f σ H Q' := by
  obtain ⟨F, ρ, d, e, hf, q⟩ := h
  exact ⟨F, ρ, d, e, hf, fun v H' s r => hq _ _ (q v H' s r)⟩
theorem tDN_mono {K : PySem.W.Frag} {f : Rho → Option D} {σ : St} {H : Hp} {Q Q' : VK} (h : tDN K f σ H Q) (hq : ∀ v H1, Q v H1 → Q' v H1) : tDN K f σ H Q' := by
  obtain ⟨F, ρ, d, e, hf, q⟩ := h
  exact ⟨F, ρ, d, e, hf, fun p vs ds H' e s n hp r => hq _ _ (q p vs ds H' e s n hp r)⟩
theorem two_mono {K : PySem.W.Frag} {fa fb : Rho → Option D} {σ : St} {H : Hp} {Q Q' : List V → Hp → Prop} (h : tCons (tD K fa) (tCons (tD K fb) tNil) σ H Q) (hq : ∀ v H1, Q v H1 → Q' v H1) : tCons (tD K fa) (tCons (tD K fb) tNil) σ H Q' :=
  tD_mono h fun _ _ h2 => tD_mono h2 fun _ _ h3 => hq _ _ h3
theorem twoN_mono {K : PySem.W.Frag} {fa fb : Rho → Option D} {σ : St} {H : Hp} {Q Q' : List V → Hp → Prop} (h : tCons (tDN K fa) (tCons (tD K fb) tNil) σ H Q) (hq : ∀ v H1, Q v H1 → Q' v H1) : tCons (tDN K fa) (tCons (tD K fb) tNil) σ H Q' :=
  tDN_mono h fun _ _ h2 => tD_mono h2 fun _ _ h3 => hq _ _ h3
section
variable {c : Bool → Nat → List D → Option D} {ct : Ct} {X : Cx} {k : Nat}
theorem app_few {x : Expr} {cp : Pos} {e : Env} (h : notStar x = true) : ((backTo cp (starEach [x] e)).all (fun x => !x.1) && (backToKw cp (keywordEach [] e)).all (fun x => x.1.isSome)
      && decide (([x] : List Expr).length + ([] : List Keyword).length + (if ([] : List Keyword).isEmpty then 0 else 1) < 30)) = true := by
  rw [star_ns h]
  rfl
mutual
theorem chkS_ok : ∀ (s : S) {st : Stmt}, CxOk c ct X k → fnK ct = true → PassesOwn (model X.prog X.w) X.A X.env X.xe → chkS s ct st = true → PS X st (tS X.K (exS c s))
  | .asg t e, st, h, hf, hp, hs => by
    simp only [chkS] at hs
    split at hs
    · rename_i y p x pos
      split at hs
      · simp only [Bool.and_eq_true] at hs
        obtain ⟨⟨h1, h2⟩, h3⟩ := hs
        exact PS.to (name_ps h hf h1 h2 h3).1 fun D σ H q => rs_asg q
      · cases hs
    · simp only [Bool.and_eq_true, Bool.not_eq_true'] at hs
      obtain ⟨⟨⟨h1, h2⟩, h3⟩, h4⟩ := hs
      exact PS.to (ps_asg (chk_ok e h h2).1 (tg_ok t h h1) sw_tup (sw_ntup h3)) fun D σ H q => rs_asg q
    · cases hs
  | .new i e, st, h, hf, hp, hs => by
    simp only [chkS] at hs
    split at hs
    · simp only [Bool.and_eq_true] at hs
      obtain ⟨⟨⟨h1, h2⟩, h3⟩, h4⟩ := hs
      exact PS.to ((name_ps h hf h1 h2 h4).2 h3) fun D σ H q => rs_new q
    · cases hs
  | .par2 i j a b, st, h, hf, hp, hs => by
    simp only [chkS] at hs
    split at hs
    · simp only [Bool.and_eq_true, decide_eq_true_eq] at hs
      obtain ⟨⟨⟨⟨⟨⟨⟨h1, h2⟩, h3⟩, h4⟩, h5⟩, h6⟩, h7⟩, h8⟩ := hs
      exact par_ps h hf h1 h2 h3 (pa_cons (chk_ok a h h4).1 (pa_cons (chk_ok b h h5).1 pa_nil (star_ns h7)) (star_ns h6)) h6 h7 h8 (fun D σ H q => rs_par2 q) fun σ H Q Q' q hq => two_mono q hq
    · cases hs
  | .par3 i j l a b d, st, h, hf, hp, hs => by
    simp only [chkS] at hs
    split at hs
    · simp only [Bool.and_eq_true, decide_eq_true_eq, Bool.not_eq_true'] at hs
      obtain ⟨⟨⟨⟨⟨⟨⟨⟨⟨⟨⟨⟨⟨⟨⟨⟨⟨⟨h1, h2⟩, h3⟩, h4⟩, h5⟩, h6⟩, h7⟩, h8⟩, h9⟩, g1⟩, g2⟩, g3⟩, g4⟩, g5⟩, g6⟩, g7⟩, g8⟩, g9⟩, f1⟩ := hs
      obtain ⟨n1, n2, n3⟩ := h.loc h4
      obtain ⟨m1, m2, m3⟩ := h.loc h5
      obtain ⟨l1, l2, l3⟩ := h.loc h6
      have lk : ∀ {x : Str}, isLocal ct x = true → X.env.scope.names.lookup x = some .local := fun {x} e => by
        rw [h.sc]; exact eq_of_beq e
      refine PS.to (ps_par3 h.calm h.nd n1 m1 l1 h1 h2 h3 (lk g4) (lk g5) (lk g6) (pa_cons (chk_ok a h h7).1 (pa_cons (chk_ok b h h8).1 (pa_cons (chk_ok d h h9).1 pa_nil (star_ns g3)) (star_ns g2)) (star_ns g1))
        (swap3_yes h hf g1 g2 g3 (ne_slots h.nd n1 m1 h1) (ne_slots h.nd n1 l1 h2) (ne_slots h.nd m1 l1 h3) g4 g5 g6 g7 g8 g9 f1) sw_tup) fun D σ H q => ?_
      have q2 := rs_par3 q
      exact tD_mono q2 fun _ _ h2 => tD_mono h2 fun _ _ h3 => tD_mono h3 fun _ _ ⟨v, w, u, e, q⟩ => ⟨v, w, u, e, q _ (Sm.refl _)⟩
    · cases hs
  | .newP i j a b, st, h, hf, hp, hs => by
    simp only [chkS] at hs
    split at hs
    · simp only [Bool.and_eq_true, decide_eq_true_eq] at hs
      obtain ⟨⟨⟨⟨⟨⟨⟨⟨h1, h2⟩, h3⟩, h4⟩, h9⟩, h5⟩, h6⟩, h7⟩, h8⟩ := hs
      exact par_ps h hf h1 h2 h3 (pa_cons (new_ok h9 h h4) (pa_cons (chk_ok b h h5).1 pa_nil (star_ns h7)) (star_ns h6)) h6 h7 h8 (fun D σ H q => rs_newP q) fun σ H Q Q' q hq => twoN_mono q hq
    · cases hs
  | .aug i e, st, h, hf, hp, hs => by
    simp only [chkS] at hs
    split at hs
    · simp only [Bool.and_eq_true] at hs
      obtain ⟨h1, h2⟩ := hs
      obtain ⟨n1, n2, n3⟩ := h.loc h1
      exact PS.to (ps_aug h.nd n1 n2 (chk_ok e h h2).1 ip_add n3) fun D σ H q => rs_aug q
    · cases hs
  | .setIx i kx e, st, h, hf, hp, hs => by
    simp only [chkS] at hs
    split at hs
    · simp only [Bool.and_eq_true] at hs
      obtain ⟨⟨⟨⟨h1, h2⟩, h3⟩, h4⟩, h5⟩ := hs
      obtain ⟨n1, n2, n3, n4⟩ := h.vis h1
      exact PS.to (ps_asg (chk_ok e h h3).1 (pg_sub (pe_var n1 n2 n3 n4) (chk_ok kx h h2).1 set_list (asg_sub h4)) sw_sub2 sw_sub) fun D σ H q => rs_setIx q
    · cases hs
  | .swp i a b, st, h, hf, hp, hs => by
    simp only [chkS] at hs
    split at hs
    · simp only [Bool.and_eq_true] at hs
      obtain ⟨⟨⟨⟨⟨⟨⟨⟨⟨h1, h2⟩, h3⟩, h4⟩, h5⟩, h6⟩, h7⟩, h8⟩, h9⟩, g1⟩ := hs
      obtain ⟨n1, n2, n3, n4⟩ := h.vis h1
      obtain ⟨m1, m2, m3, m4⟩ := h.vis h2
      have pu := (chk_ok (.ix (.var i) b) h h7).1
      have pv := (chk_ok (.ix (.var i) a) h h8).1
      refine PS.to (ps_asg (pe_tup (pa_cons pu (pa_cons pv pa_nil (star_ns g1)) (star_ns h9))) (pg_tup h.calm (pgs_cons (pg_sub (pe_var n1 n2 n3 n4) (chk_ok a h h3).1 set_list (asg_sub h5)) (pgs_cons (pg_sub (pe_var m1 m2 m3 m4) (chk_ok b h h4).1 set_list (asg_sub h6)) pgs_nil))) sw_tup (sw_subs (bk_fn h hf))) fun D σ H q => rs_swp q
    · cases hs
  | .app i e, st, h, hf, hp, hs => by
    simp only [chkS] at hs
    split at hs
    · simp only [Bool.and_eq_true, decide_eq_true_eq] at hs
      obtain ⟨⟨⟨⟨h1, h2⟩, h3⟩, h4⟩, h5⟩ := hs
      subst h2
      obtain ⟨n1, n2, n3, n4⟩ := h.vis h1
      exact PS.to (ps_expr (pe_bm PySem.F.plainAttrs_list PySem.F.slot_list_append PySem.F.type_list_append mt_append (pe_var n1 n2 n3 n4) (pa_cons (chk_ok e h h3).1 pa_nil (star_ns h4)) rfl (app_few h4) h5 (star_ns h4) rfl)) fun D σ H q => rs_app q
    · cases hs
  | .pop j i e, st, h, hf, hp, hs => by
    simp only [chkS] at hs
    split at hs
    · simp only [Bool.and_eq_true, decide_eq_true_eq] at hs
      obtain ⟨⟨⟨⟨⟨h0, h1⟩, h2⟩, h3⟩, h4⟩, h5⟩ := hs
      subst h2
      obtain ⟨n1, n2, n3, n4⟩ := h.vis h1
      obtain ⟨m1, m2, m3⟩ := h.loc h0
      exact PS.to (ps_set h.nd m1 m2 (pe_bm PySem.F.plainAttrs_list PySem.F.slot_list_pop PySem.F.type_list_pop mt_popAt (pe_var n1 n2 n3 n4) (pa_cons (chk_ok e h h3).1 pa_nil (star_ns h4)) rfl (app_few h4) h5 (star_ns h4) rfl) rfl m3) fun D σ H q => rs_pop q
    · cases hs
  | .ret e, st, h, hf, hp, hs => by
    simp only [chkS] at hs
    split at hs
    · exact PS.to (ps_ret (chk_ok e h hs).1) fun D σ H q => rs_ret q
    · cases hs
  | .ite t a b, st, h, hf, hp, hs => by
    simp only [chkS] at hs
    split at hs
    · simp only [Bool.and_eq_true] at hs
      obtain ⟨⟨h1, h2⟩, h3⟩ := hs
      exact PS.to (ps_if (chk_ok t h h1) (chkSs_ok a h hf hp h2) (chkSs_ok b h hf hp h3)) fun D σ H q => rs_ite q
    · cases hs
  | .for_ t it b, st, h, hf, hp, hs => by
    simp only [chkS] at hs
    split at hs
    · simp only [Bool.and_eq_true] at hs
      obtain ⟨⟨⟨⟨h1, h2⟩, h3⟩, h4⟩, h5⟩ := hs
      exact PS.to (ps_for hp h.calm (chk_ok it h h2 _ (fun z => by rw [z] at h4; simpa using h4)) (tg_ok t h h1) (chkSs_ok b h hf hp h5) (fold_ns h3 _)) fun D σ H q => rs_for q
    · cases hs
  | .whl t b, st, h, hf, hp, hs => by
    simp only [chkS] at hs
    split at hs
    · simp only [Bool.and_eq_true] at hs
      obtain ⟨h1, h2⟩ := hs
      exact PS.to (ps_while hp (chk_ok t h h1) (chkSs_ok b h hf hp h2)) fun D σ H q => rs_whl q
    · cases hs
  | .ex e, st, h, hf, hp, hs => by
    simp only [chkS] at hs
    split at hs
    · simp only [Bool.and_eq_true] at hs
      obtain ⟨h1, h2⟩ := hs
      exact PS.to (ps_expr (chk_ok e h h1).1 (sw_none h h2 _)) fun D σ H q => rs_ex q
    · cases hs
  | .never, st, h, hf, hp, hs => PS.to ps_never fun D σ H q => rs_never q
  | .frz i, st, h, hf, hp, hs => by simp [chkS] at hs
theorem chkSs_ok : ∀ (ss : List S) {sts : List Stmt}, CxOk c ct X k → fnK ct = true → PassesOwn (model X.prog X.w) X.A X.env X.xe → chkSs ss ct sts = true → PSs X sts (tS X.K (exL c ss))
  | [], sts, h, hf, hp, hs => by
    cases sts with
    | nil => exact PSs.to pss_nil fun D σ H q => rs_nil q
    | cons _ _ => simp [chkSs] at hs
  | .frz i :: r, sts, h, hf, hp, hs => by
    simp only [chkSs] at hs
    exact PSs.to (chkSs_ok r h hf hp hs) fun D σ H q => rs_frz q
  | (.asg t e) :: r, sts, h, hf, hp, hs => by
    simp only [chkSs] at hs
    split at hs
    · obtain ⟨h1, h2⟩ := Bool.and_eq_true_iff.mp hs
      exact PSs.to (pss_cons (chkS_ok (.asg t e) h hf hp h1) (chkSs_ok r h hf hp h2)) fun D σ H q => rs_seq q
    · cases hs
  | (.new i e) :: r, sts, h, hf, hp, hs => by
    simp only [chkSs] at hs
    split at hs
    · obtain ⟨h1, h2⟩ := Bool.and_eq_true_iff.mp hs
      exact PSs.to (pss_cons (chkS_ok (.new i e) h hf hp h1) (chkSs_ok r h hf hp h2)) fun D σ H q => rs_seq q
    · cases hs
  | (.par2 i j a b) :: r, sts, h, hf, hp, hs => by
    simp only [chkSs] at hs
    split at hs
    · obtain ⟨h1, h2⟩ := Bool.and_eq_true_iff.mp hs
      exact PSs.to (pss_cons (chkS_ok (.par2 i j a b) h hf hp h1) (chkSs_ok r h hf hp h2)) fun D σ H q => rs_seq q
    · cases hs
  | (.par3 i j l a b d) :: r, sts, h, hf, hp, hs => by
    simp only [chkSs] at hs
    split at hs
    · obtain ⟨h1, h2⟩ := Bool.and_eq_true_iff.mp hs
      exact PSs.to (pss_cons (chkS_ok (.par3 i j l a b d) h hf hp h1) (chkSs_ok r h hf hp h2)) fun D σ H q => rs_seq q
    · cases hs
  | (.newP i j a b) :: r, sts, h, hf, hp, hs => by
    simp only [chkSs] at hs
    split at hs
    · obtain ⟨h1, h2⟩ := Bool.and_eq_true_iff.mp hs
      exact PSs.to (pss_cons (chkS_ok (.newP i j a b) h hf hp h1) (chkSs_ok r h hf hp h2)) fun D σ H q => rs_seq q
    · cases hs
  | (.aug i e) :: r, sts, h, hf, hp, hs => by
    simp only [chkSs] at hs
    split at hs
    · obtain ⟨h1, h2⟩ := Bool.and_eq_true_iff.mp hs
      exact PSs.to (pss_cons (chkS_ok (.aug i e) h hf hp h1) (chkSs_ok r h hf hp h2)) fun D σ H q => rs_seq q
    · cases hs
  | (.setIx i kx e) :: r, sts, h, hf, hp, hs => by
    simp only [chkSs] at hs
    split at hs
    · obtain ⟨h1, h2⟩ := Bool.and_eq_true_iff.mp hs
      exact PSs.to (pss_cons (chkS_ok (.setIx i kx e) h hf hp h1) (chkSs_ok r h hf hp h2)) fun D σ H q => rs_seq q
    · cases hs
  | (.swp i a b) :: r, sts, h, hf, hp, hs => by
    simp only [chkSs] at hs
    split at hs
    · obtain ⟨h1, h2⟩ := Bool.and_eq_true_iff.mp hs
      exact PSs.to (pss_cons (chkS_ok (.swp i a b) h hf hp h1) (chkSs_ok r h hf hp h2)) fun D σ H q => rs_seq q
    · cases hs
  | (.app i e) :: r, sts, h, hf, hp, hs => by
    simp only [chkSs] at hs
    split at hs
    · obtain ⟨h1, h2⟩ := Bool.and_eq_true_iff.mp hs
      exact PSs.to (pss_cons (chkS_ok (.app i e) h hf hp h1) (chkSs_ok r h hf hp h2)) fun D σ H q => rs_seq q
    · cases hs
  | (.pop j i e) :: r, sts, h, hf, hp, hs => by
    simp only [chkSs] at hs
    split at hs
    · obtain ⟨h1, h2⟩ := Bool.and_eq_true_iff.mp hs
      exact PSs.to (pss_cons (chkS_ok (.pop j i e) h hf hp h1) (chkSs_ok r h hf hp h2)) fun D σ H q => rs_seq q
    · cases hs
  | (.ret e) :: r, sts, h, hf, hp, hs => by
    simp only [chkSs] at hs
    split at hs
    · obtain ⟨h1, h2⟩ := Bool.and_eq_true_iff.mp hs
      exact PSs.to (pss_cons (chkS_ok (.ret e) h hf hp h1) (chkSs_ok r h hf hp h2)) fun D σ H q => rs_seq q
    · cases hs
  | (.ite t a b) :: r, sts, h, hf, hp, hs => by
    simp only [chkSs] at hs
    split at hs
    · obtain ⟨h1, h2⟩ := Bool.and_eq_true_iff.mp hs
      exact PSs.to (pss_cons (chkS_ok (.ite t a b) h hf hp h1) (chkSs_ok r h hf hp h2)) fun D σ H q => rs_seq q
    · cases hs
  | (.for_ t it b) :: r, sts, h, hf, hp, hs => by
    simp only [chkSs] at hs
    split at hs
    · obtain ⟨h1, h2⟩ := Bool.and_eq_true_iff.mp hs
      exact PSs.to (pss_cons (chkS_ok (.for_ t it b) h hf hp h1) (chkSs_ok r h hf hp h2)) fun D σ H q => rs_seq q
    · cases hs
  | (.whl t b) :: r, sts, h, hf, hp, hs => by
    simp only [chkSs] at hs
    split at hs
    · obtain ⟨h1, h2⟩ := Bool.and_eq_true_iff.mp hs
      exact PSs.to (pss_cons (chkS_ok (.whl t b) h hf hp h1) (chkSs_ok r h hf hp h2)) fun D σ H q => rs_seq q
    · cases hs
  | (.ex e) :: r, sts, h, hf, hp, hs => by
    simp only [chkSs] at hs
    split at hs
    · obtain ⟨h1, h2⟩ := Bool.and_eq_true_iff.mp hs
      exact PSs.to (pss_cons (chkS_ok (.ex e) h hf hp h1) (chkSs_ok r h hf hp h2)) fun D σ H q => rs_seq q
    · cases hs
  | .never :: r, sts, h, hf, hp, hs => by
    simp only [chkSs] at hs
    split at hs
    · obtain ⟨h1, h2⟩ := Bool.and_eq_true_iff.mp hs
      exact PSs.to (pss_cons (chkS_ok .never h hf hp h1) (chkSs_ok r h hf hp h2)) fun D σ H q => rs_seq q
    · cases hs
end
end
end PV
end
section -- Snd12
/-! Each def of the table does what the evaluator says. -/
namespace PV
open PySem PySem.Spec L2
open PyProof.Rows hiding St
/-- what is known of the module -/
structure Wd (K : PySem.W.Frag) (mg : Str → Option Value) (base : Heap) : Prop where
  B : Bl mg
  g0 : ∃ t, mg (Str.ofString "NONE") = some (.ref t) ∧ ∀ M : Hp, SqT K M t [.int 0, .int 1]
  g1 : ∃ t, mg (Str.ofString "ONE") = some (.ref t) ∧ ∀ M : Hp, SqT K M t [.int 1, .int 1]
  lam : LamX.TabB base mg (cL K) (tL K)
/-- a def of the table as it stands behind the top -/
structure DefOk (K : PySem.W.Frag) (mg : Str → Option Value) (fs : List (Str × Nat)) (x : Str) (m : Nat) (df : Df) : Prop where
  ex : ∃ (params : Arguments) (body : List Stmt) (scope : Scope) (fa : Addr) (fd : FuncData) (ps N : List Str) (lam : Bool), FunD K x x params body scope [] [] fa fd ∧ mg x = some (.ref fa) ∧ Binds K fd ps [] ∧ ps.length = m ∧ FnScope N ps scope ∧ df.k = m ∧ df.n = N.length ∧
    chkSs df.body ⟨N, scope, fun _ => true, lam, fs⟩ body = true ∧ (lam = true → x = Str.ofString "sets_of" ∧ fa = He.fAd K (Str.ofString "sets_of", none))
section
variable {P : Program} {w : World} {K : PySem.W.Frag} {mg : Str → Option Value} {base : Heap} {fs : List (Str × Nat)} {tab : List Df}
theorem rpl_vals {M : Hp} : ∀ {ds : List D} {vs : List V}, RpL K M vs ds → ∀ (H : Hp) (σ : St) (ρ : Rho) (O : List Addr), Sl K M H ρ σ O → Sl K M H (ds.map Cel.val ++ ρ) (vs.map some ++ σ) O
  | [], _, .nil, H, σ, ρ, O, h => h
  | d :: ds, _, .cons a b, H, σ, ρ, O, h => .val a (rpl_vals b H σ ρ O h)
theorem sl_un {M H : Hp} : ∀ n : Nat, Sl K M H (List.replicate n .un) (List.replicate n none) []
  | 0 => .nil
  | n + 1 => .un (sl_un n)
theorem start_sl {M H : Hp} {ds : List D} {vs : List V} {N : List Str} {n : Nat} (r : RpL K M vs ds) (hn : n = N.length) : Sl K M H (startR n ds) (L2.start N vs) [] := by
  unfold startR L2.start
  rw [hn, r.len]
  exact rpl_vals r H _ _ [] (sl_un _)
theorem fnOk_false {k : Nat} {fa : Addr} {fd : FuncData} {ps : List Str} {m : Nat} : FnOk P w K mg base CX0 k fa fd ps (spD K m fun _ => none) :=
  ⟨(fun vs H Q E h => by
    obtain ⟨_, F, ds, d, _, _, _, hg, _⟩ := h
    cases hg), (fun A outer s H args us vs Q E _ _ _ _ h => by
    obtain ⟨_, F, ds, d, _, _, _, hg, _⟩ := h
    cases hg)⟩
theorem runF_len {n : Nat} {f : Nat} {df : Df} (ht : tab[f]? = some df) {ds : List D} {d : D} (h : runF tab n f ds = some d) : ds.length = df.k := by
  match n, h with
  | 0, h => cases h
  | 1, h => cases h
  | 2, h => cases h
  | 3, h => cases h
  | n + 4, h =>
    simp only [runF, ht, Option.bind_some, runDf] at h
    split at h
    · assumption
    · cases h
/-- THE DEFS of the table -/
theorem fns_ok (W : Wd K mg base) (hd : ∀ (f : Nat) (x : Str) (m : Nat), fs[f]? = some (x, m) → ∃ df, tab[f]? = some df ∧ DefOk K mg fs x m df) : ∀ (n f : Nat) (x : Str) (m : Nat), fs[f]? = some (x, m) →
    ∃ (fa : Addr) (fd : FuncData) (ps : List Str), FnOk P w K mg base CX0 n fa fd ps (spD K m (runF tab n f)) ∧ mg x = some (.ref fa) ∧ PySem.W.keepIn K (.ref fa) = true ∧ Binds K fd ps [] := by
  intro n
  induction n using Nat.strongRecOn with
  | _ n ih =>
    intro f x m hf
    obtain ⟨df, ht, hD⟩ := hd f x m hf
    obtain ⟨params, body, scope, fa, fd, ps, N, lam, F, hm, hb, hl, hS, hk, hn, hc, hla⟩ := hD.ex
    refine ⟨fa, fd, ps, ?_, hm, F.kp, hb⟩
    match n, ih with
    | 0, _ => exact fnOk_false
    | 1, _ => exact fnOk_false
    | 2, _ => exact fnOk_false
    | 3, _ => exact fnOk_false
    | n + 4, ih =>
      obtain ⟨oc, od, dV, kV, doc, pm, an, cdv, cty, osl, hfd, lk, hcd, _, _⟩ := id F.ex
      have len : ∀ vs H Q E, spD K m (runF tab (n + 4) f) vs H Q E → vs.length = ps.length := fun vs H Q E ⟨h, _⟩ => by rw [hl]; exact h
      subst hfd
      refine fn_of (K := K) lk hcd hS len fun A outer s H vs Q E hr ⟨hlen, F0, ds, d, hT, hF, hR, hg, q⟩ => ?_
      refine ⟨tS K (exL (fun k => if k then runF tab (n + 1) else runF tab (n + 3)) df.body), PSs.nox (chkSs_ok (c := fun k => if k then runF tab (n + 1) else runF tab (n + 3)) (ct := ⟨N, scope, fun _ => true, lam, fs⟩) (k := n) df.body ?_ ?_ PassesOwn.never hc), ?_⟩
      · exact {
          N := rfl
          nd := hS.nd
          sc := rfl
          calm := rfl
          B := W.B
          g0 := W.g0
          g1 := W.g1
          room := hr
          cal := fun g y j hg => by
            obtain ⟨fa', fd', ps', h1, h2, h3, h4⟩ := ih (n + 3) (by omega) g y j hg
            obtain ⟨df', ht', hD'⟩ := hd g y j hg
            obtain ⟨_, _, _, _, _, _, _, _, _, _, _, _, _, hk', _⟩ := hD'.ex
            exact ⟨⟨fa', fd', ps', h1, h2, h3, h4⟩, fun ds d e => by rw [← hk']; exact runF_len ht' e⟩
          key := fun g y j hg => by
            obtain ⟨fa', fd', ps', h1, h2, h3, h4⟩ := ih (n + 1) (by omega) g y j hg
            obtain ⟨df', ht', hD'⟩ := hd g y j hg
            obtain ⟨_, _, _, _, _, _, _, _, _, _, _, _, _, hk', _⟩ := hD'.ex
            exact ⟨⟨fa', fd', ps', h1, h2, h3, h4⟩, fun ds d e => by rw [← hk']; exact runF_len ht' e⟩
          fn := fun _ _ => rfl
          lam := fun e => by
            obtain ⟨e1, e2⟩ := hla e
            subst e1
            obtain ⟨cc, ec⟩ := He.codeIn_ref hcd
            subst ec
            have e3 : cL K = cc := He.codeOf_eq (p := ("sets_of", none)) (K := K) (by rw [e2] at lk; exact lk) rfl
            refine ⟨W.lam, ?_, rfl⟩
            show Value.ref cc = Value.ref (cL K)
            rw [e3] }
      · show decide (scope.kind = .function) = true
        exact decide_eq_true hS.kind
      · simp only [runF, ht, Option.bind_some, runDf] at hg
        split at hg <;> try (cases hg; done)
        obtain ⟨o, ho, hg⟩ := some_bind hg
        have sl := start_sl (H := H) (N := N) hR hn
        refine ⟨H, F0, startR df.n ds, o, ⟨Sb.refl H, hT, hF, [], sl, List.nodup_nil, (fun p hp => by cases hp)⟩, ho, ?_⟩
        cases o with
        | nx ρ' =>
          cases hg
          exact fun σ' H' ss => q .non H' ⟨ss.sb, fun _ => ss.tab⟩ .non
        | ret d' =>
          cases hg
          exact fun v H' h1 h2 h3 => q v H' ⟨h1, fun _ => h2⟩ h3
end
end PV
end
section -- Tab
/-! The defs as the evaluator's texts (printed by gen_ir.py). -/
namespace PV
open PySem
def nms_0 : List Str := ["thing"]
/-- is_number -/
def df_0 : Df := ⟨1, 1, [.ret (.and (.isi (.var 0) .int) (.not (.isi (.var 0) .bool)))]⟩
def nms_1 : List Str := ["thing"]
/-- is_count -/
def df_1 : Df := ⟨1, 1, [.ret (.and (.call 0 [(.var 0)]) (.cmp .ge (.var 0) (.cI 0)))]⟩
def nms_2 : List Str := ["thing", "size"]
/-- is_tuple_of -/
def df_2 : Df := ⟨2, 2, [.ret (.and (.isi (.var 0) .tuple) (.cmp .eq (.f1 .len (.var 0)) (.var 1)))]⟩
def nms_3 : List Str := ["thing"]
/-- is_fraction -/
def df_3 : Df := ⟨1, 1, [.ite (.or (.not (.call 2 [(.var 0), (.cI 2)])) (.or (.not (.call 0 [(.ix (.var 0) (.cI 0))])) (.not (.call 0 [(.ix (.var 0) (.cI 1))])))) [.ret (.cB false)] [], .ret (.and (.cmp .ge (.ix (.var 0) (.cI 1)) (.cI 1)) (.cmp .eq (.f2 .gcd (.ix (.var 0) (.cI 0)) (.ix (.var 0) (.cI 1))) (.cI 1)))]⟩
def nms_4 : List Str := ["thing", "part"]
/-- tupled -/
def df_4 : Df := ⟨2, 1, [.ret (.ite (.isi2 (.var 0) .list .tuple) (.f1 .tuple (.lc (.call 4 [(.var 1)]) (.one 1) (.var 0) none [("part", 1)])) (.var 0))]⟩
def nms_5 : List Str := ["thing", "near", "far"]
/-- rises -/
def df_5 : Df := ⟨3, 1, [.ret (.f1 .all (.lc (.cmp .lt (.var 1) (.var 2)) (.tup [(.one 1), (.one 2)]) (.zip (.var 0) (.sl (.var 0) (some (.cI 1)) none)) none [("near", 1), ("far", 2)]))]⟩
def nms_6 : List Str := ["things"]
/-- set_of -/
def df_6 : Df := ⟨1, 1, [.ret (.f1 .tuple (.srt .setL (.var 0)))]⟩
def nms_7 : List Str := ["thing", "part"]
/-- is_number_set -/
def df_7 : Df := ⟨2, 1, [.ret (.and (.isi (.var 0) .tuple) (.and (.f1 .all (.lc (.call 1 [(.var 1)]) (.one 1) (.var 0) none [("part", 1)])) (.call 5 [(.var 0)])))]⟩
def nms_8 : List Str := ["things", "found", "part", "lot"]
/-- sets_of -/
def df_8 : Df := ⟨4, 1, [.asg (.one 1) (.lst [(.tup [])]), .for_ (.one 2) (.var 0) [.asg (.one 1) (.bin .add (.var 1) (.lc (.tup [(.star (.var 3)), (.var 2)]) (.one 3) (.var 1) none [("lot", 3)]))], .ret (.srt .lam (.var 1))]⟩
def nms_9 : List Str := ["top", "bottom", "common"]
/-- fraction_of -/
def df_9 : Df := ⟨3, 2, [.asg (.one 2) (.f2 .gcd (.var 0) (.var 1)), .ite (.cmp .lt (.var 1) (.cI 0)) [.asg (.one 2) (.neg (.var 2))] [], .ret (.tup [(.bin .fdiv (.var 0) (.var 2)), (.bin .fdiv (.var 1) (.var 2))])]⟩
def nms_10 : List Str := ["one", "other"]
/-- added -/
def df_10 : Df := ⟨2, 2, [.ite (.and (.cmp .eq (.ix (.var 0) (.cI 1)) (.cI 1)) (.cmp .eq (.ix (.var 1) (.cI 1)) (.cI 1))) [.ret (.tup [(.bin .add (.ix (.var 0) (.cI 0)) (.ix (.var 1) (.cI 0))), (.cI 1)])] [], .ret (.call 9 [(.bin .add (.bin .mul (.ix (.var 0) (.cI 0)) (.ix (.var 1) (.cI 1))) (.bin .mul (.ix (.var 1) (.cI 0)) (.ix (.var 0) (.cI 1)))), (.bin .mul (.ix (.var 0) (.cI 1)) (.ix (.var 1) (.cI 1)))])]⟩
def nms_11 : List Str := ["one"]
/-- negative -/
def df_11 : Df := ⟨1, 1, [.ret (.tup [(.neg (.ix (.var 0) (.cI 0))), (.ix (.var 0) (.cI 1))])]⟩
def nms_12 : List Str := ["one", "other"]
/-- lessened -/
def df_12 : Df := ⟨2, 2, [.ret (.call 10 [(.var 0), (.call 11 [(.var 1)])])]⟩
def nms_13 : List Str := ["one", "other"]
/-- multiplied -/
def df_13 : Df := ⟨2, 2, [.ite (.and (.cmp .eq (.ix (.var 0) (.cI 1)) (.cI 1)) (.cmp .eq (.ix (.var 1) (.cI 1)) (.cI 1))) [.ret (.tup [(.bin .mul (.ix (.var 0) (.cI 0)) (.ix (.var 1) (.cI 0))), (.cI 1)])] [], .ret (.call 9 [(.bin .mul (.ix (.var 0) (.cI 0)) (.ix (.var 1) (.cI 0))), (.bin .mul (.ix (.var 0) (.cI 1)) (.ix (.var 1) (.cI 1)))])]⟩
def nms_14 : List Str := ["one", "other"]
/-- parted -/
def df_14 : Df := ⟨2, 2, [.ret (.call 9 [(.bin .mul (.ix (.var 0) (.cI 0)) (.ix (.var 1) (.cI 1))), (.bin .mul (.ix (.var 0) (.cI 1)) (.ix (.var 1) (.cI 0)))])]⟩
def nms_15 : List Str := ["row", "other", "near", "far"]
/-- row_added -/
def df_15 : Df := ⟨4, 2, [.ret (.f1 .tuple (.lc (.call 10 [(.var 2), (.var 3)]) (.tup [(.one 2), (.one 3)]) (.zip (.var 0) (.var 1)) none [("near", 2), ("far", 3)]))]⟩
def nms_16 : List Str := ["row", "much", "part"]
/-- row_times -/
def df_16 : Df := ⟨3, 2, [.ret (.f1 .tuple (.lc (.call 13 [(.var 2), (.var 1)]) (.one 2) (.var 0) none [("part", 2)]))]⟩
def nms_17 : List Str := ["rows", "size", "row", "place"]
/-- columns_of -/
def df_17 : Df := ⟨4, 2, [.ret (.f1 .tuple (.lc (.f1 .tuple (.lc (.ix (.var 2) (.var 3)) (.one 2) (.var 0) none [("row", 2)])) (.one 3) (.rng1 (.var 1)) none [("place", 3)]))]⟩
def nms_18 : List Str := ["row", "part"]
/-- is_nothing -/
def df_18 : Df := ⟨2, 1, [.ret (.f1 .all (.lc (.cmp .eq (.var 1) (.gl false)) (.one 1) (.var 0) none [("part", 1)]))]⟩
def nms_19 : List Str := ["row", "place"]
/-- lead_of -/
def df_19 : Df := ⟨2, 1, [.asg (.one 1) (.cI 0), .whl (.cmp .eq (.ix (.var 0) (.var 1)) (.gl false)) [.aug 1 (.cI 1)], .ret (.var 1)]⟩
def nms_20 : List Str := ["rows", "row", "own", "much"]
/-- lessened_by -/
def df_20 : Df := ⟨4, 2, [.for_ (.one 2) (.var 0) [.asg (.one 3) (.ix (.var 1) (.call 19 [(.var 2)])), .ite (.cmp .ne (.var 3) (.gl false)) [.asg (.one 1) (.call 15 [(.var 1), (.call 16 [(.var 2), (.call 11 [(.var 3)])])])] []], .ret (.var 1)]⟩
def nms_21 : List Str := ["rows", "found", "row", "own", "other"]
/-- reduced_rows -/
def df_21 : Df := ⟨5, 1, [.asg (.one 1) (.lst []), .for_ (.one 2) (.var 0) [.asg (.one 3) (.call 20 [(.var 1), (.var 2)]), .ite (.not (.call 18 [(.var 3)])) [.asg (.one 3) (.call 16 [(.var 3), (.call 14 [(.gl true), (.ix (.var 3) (.call 19 [(.var 3)]))])]), .asg (.one 1) (.bin .add (.lc (.call 20 [(.lst [(.var 3)]), (.var 4)]) (.one 4) (.var 1) none [("other", 4)]) (.lst [(.var 3)]))] []], .ret (.f1 .tuple (.srt (.fn 19) (.var 1)))]⟩
def nms_22 : List Str := ["table"]
/-- rank -/
def df_22 : Df := ⟨1, 1, [.ret (.f1 .len (.call 21 [(.call 4 [(.var 0)])]))]⟩
def nms_23 : List Str := ["table", "left", "found", "place", "fit", "k", "first", "much"]
/-- det -/
def df_23 : Df := ⟨8, 1, [.newP 1 2 (.f1 .list (.call 4 [(.var 0)])) (.gl true), .for_ (.one 3) (.rng1 (.f1 .len (.var 1))) [.asg (.one 4) (.lc (.var 5) (.one 5) (.rng2 (.var 3) (.f1 .len (.var 1))) (some (.cmp .ne (.ix (.ix (.var 1) (.var 5)) (.var 3)) (.gl false))) [("k", 5)]), .ite (.cmp .eq (.var 4) (.lst [])) [.ret (.gl false)] [], .ite (.cmp .ne (.ix (.var 4) (.cI 0)) (.var 3)) [.swp 1 (.var 3) (.ix (.var 4) (.cI 0)), .asg (.one 2) (.call 11 [(.var 2)])] [], .asg (.one 6) (.ix (.var 1) (.var 3)), .asg (.one 2) (.call 13 [(.var 2), (.ix (.var 6) (.var 3))]), .for_ (.one 5) (.rng2 (.bin .add (.var 3) (.cI 1)) (.f1 .len (.var 1))) [.asg (.one 7) (.call 14 [(.ix (.ix (.var 1) (.var 5)) (.var 3)), (.ix (.var 6) (.var 3))]), .setIx 1 (.var 5) (.call 15 [(.ix (.var 1) (.var 5)), (.call 16 [(.var 6), (.call 11 [(.var 7)])])])]], .ret (.var 2)]⟩
def nms_24 : List Str := ["places", "many", "number"]
/-- check_places -/
def df_24 : Df := ⟨3, 2, [.for_ (.one 2) (.var 0) [.ite (.not (.chain (.cI 0) (.var 2) (.var 1))) [.never] []]]⟩
def nms_25 : List Str := ["thing", "row", "part"]
/-- is_sheet -/
def df_25 : Df := ⟨3, 1, [.ite (.or (.not (.isi (.var 0) .tuple)) (.or (.cmp .eq (.var 0) (.tup [])) (.or (.not (.isi (.ix (.var 0) (.cI 0)) .tuple)) (.cmp .eq (.ix (.var 0) (.cI 0)) (.tup []))))) [.ret (.cB false)] [], .ite (.not (.f1 .all (.lc (.call 2 [(.var 1), (.f1 .len (.ix (.var 0) (.cI 0)))]) (.one 1) (.var 0) none [("row", 1)]))) [.ret (.cB false)] [], .ret (.f1 .all (.lc (.f1 .all (.lc (.or (.isN false (.var 2)) (.call 3 [(.var 2)])) (.one 2) (.var 1) none [("part", 2)])) (.one 1) (.var 0) none [("row", 1)]))]⟩
def nms_26 : List Str := ["sheet", "k", "place"]
/-- unknown_of -/
def df_26 : Df := ⟨3, 1, [.ret (.lc2 (.tup [(.var 1), (.var 2)]) (.one 1) (.rng1 (.f1 .len (.var 0))) (.one 2) (.rng1 (.f1 .len (.ix (.var 0) (.cI 0)))) (some (.isN false (.ix (.ix (.var 0) (.var 1)) (.var 2)))) [("k", 1), ("place", 2)] [2])]⟩
def nms_27 : List Str := ["sheet", "row", "column", "much", "line"]
/-- with_part -/
def df_27 : Df := ⟨5, 4, [.asg (.one 4) (.tup [(.star (.sl (.ix (.var 0) (.var 1)) none (some (.var 2)))), (.var 3), (.star (.sl (.ix (.var 0) (.var 1)) (some (.bin .add (.var 2) (.cI 1))) none))]), .ret (.tup [(.star (.sl (.var 0) none (some (.var 1)))), (.var 4), (.star (.sl (.var 0) (some (.bin .add (.var 1) (.cI 1))) none))])]⟩
def nms_28 : List Str := ["sheet", "numbers", "row", "column", "much"]
/-- with_numbers -/
def df_28 : Df := ⟨5, 2, [.for_ (.tup [(.tup [(.one 2), (.one 3)]), (.one 4)]) (.zip (.call 26 [(.var 0)]) (.var 1)) [.asg (.one 0) (.call 27 [(.var 0), (.var 2), (.var 3), (.var 4)])], .ret (.var 0)]⟩
def nms_29 : List Str := ["sheet", "rows", "columns", "place", "k"]
/-- crossed -/
def df_29 : Df := ⟨5, 3, [.ret (.f1 .tuple (.lc (.f1 .tuple (.lc (.ix (.ix (.var 0) (.var 4)) (.var 3)) (.one 3) (.var 2) none [("place", 3)])) (.one 4) (.var 1) none [("k", 4)]))]⟩
def nms_30 : List Str := ["sheet", "rows", "place", "k"]
/-- told_columns -/
def df_30 : Df := ⟨4, 2, [.ret (.f1 .tuple (.lc (.var 2) (.one 2) (.rng1 (.f1 .len (.ix (.var 0) (.cI 0)))) (some (.f1 .all (.lc (.isN true (.ix (.ix (.var 0) (.var 3)) (.var 2))) (.one 3) (.var 1) none [("k", 3)]))) [("place", 2)]))]⟩
def nms_31 : List Str := ["sheet", "rows", "columns", "outside"]
/-- count_at -/
def df_31 : Df := ⟨4, 3, [.asg (.one 3) (.bin .sub (.bin .add (.bin .sub (.f1 .len (.var 0)) (.f1 .len (.var 1))) (.f1 .len (.ix (.var 0) (.cI 0)))) (.f1 .len (.var 2))), .ite (.or (.cmp .eq (.f1 .len (.var 1)) (.cI 0)) (.cmp .eq (.f1 .len (.var 2)) (.cI 0))) [.ret (.var 3)] [], .ret (.bin .add (.var 3) (.call 22 [(.call 29 [(.var 0), (.var 1), (.var 2)])]))]⟩
def nms_32 : List Str := ["sheet", "rows", "columns", "own", "line"]
/-- count_of -/
def df_32 : Df := ⟨5, 3, [.asg (.one 3) (.call 4 [(.var 0)]), .ex (.call 24 [(.var 1), (.f1 .len (.var 3))]), .ex (.call 24 [(.var 2), (.f1 .len (.ix (.var 3) (.cI 0)))]), .ite (.f1 .any (.lc (.cmp .in_ .cN (.var 4)) (.one 4) (.call 29 [(.var 3), (.var 1), (.var 2)]) none [("line", 4)])) [.never] [], .ret (.call 31 [(.var 3), (.var 1), (.var 2)])]⟩
def nms_33 : List Str := ["sheet", "lots", "rows"]
/-- counts_by_rows -/
def df_33 : Df := ⟨3, 1, [.asg (.one 1) (.call 8 [(.f1 .lrng (.f1 .len (.var 0)))]), .ret (.lc (.tup [(.call 31 [(.var 0), (.var 2), (.call 30 [(.var 0), (.var 2)])]), (.var 2)]) (.one 2) (.var 1) none [("rows", 2)])]⟩
def nms_34 : List Str := ["sheet", "count", "_"]
/-- greatest_of -/
def df_34 : Df := ⟨3, 1, [.ite (.cmp .gt (.f1 .len (.var 0)) (.f1 .len (.ix (.var 0) (.cI 0)))) [.asg (.one 0) (.call 17 [(.var 0), (.f1 .len (.ix (.var 0) (.cI 0)))])] [], .ret (.f1 .min (.lc (.var 1) (.tup [(.one 1), (.one 2)]) (.call 33 [(.var 0)]) none [("count", 1), ("_", 2)]))]⟩
def nms_35 : List Str := ["sheet"]
/-- greatest_rank -/
def df_35 : Df := ⟨1, 1, [.ret (.call 34 [(.call 4 [(.var 0)])])]⟩
def nms_36 : List Str := ["sheet", "counts", "least", "count", "_", "tight", "rows", "k", "lot"]
/-- tight_by_rows -/
def df_36 : Df := ⟨9, 1, [.asg (.one 1) (.call 33 [(.var 0)]), .asg (.one 2) (.f1 .min (.lc (.var 3) (.tup [(.one 3), (.one 4)]) (.var 1) none [("count", 3), ("_", 4)])), .asg (.one 5) (.lc (.var 6) (.tup [(.one 3), (.one 6)]) (.var 1) (some (.cmp .eq (.var 3) (.var 2))) [("count", 3), ("rows", 6)]), .asg (.one 6) (.f1 .tuple (.lc (.var 7) (.one 7) (.rng1 (.f1 .len (.var 0))) (some (.f1 .all (.lc (.cmp .in_ (.var 7) (.var 8)) (.one 8) (.var 5) none [("lot", 8)]))) [("k", 7)])), .ret (.tup [(.var 6), (.call 30 [(.var 0), (.var 6)])])]⟩
def nms_37 : List Str := ["sheet", "own", "columns", "rows"]
/-- tight_windows -/
def df_37 : Df := ⟨4, 1, [.asg (.one 1) (.call 4 [(.var 0)]), .asg (.tup [(.one 2), (.one 3)]) (.call 36 [(.call 17 [(.var 1), (.f1 .len (.ix (.var 1) (.cI 0)))])]), .ret (.tup [(.call 36 [(.var 1)]), (.tup [(.var 3), (.var 2)])])]⟩
def nms_38 : List Str := ["sheet", "goal", "row", "column", "near"]
/-- best_filling -/
def df_38 : Df := ⟨5, 1, [.asg (.one 1) (.call 34 [(.var 0)]), .for_ (.tup [(.one 2), (.one 3)]) (.call 26 [(.var 0)]) [.asg (.one 4) (.call 27 [(.var 0), (.var 2), (.var 3), (.gl false)]), .asg (.one 0) (.ite (.cmp .eq (.call 34 [(.var 4)]) (.var 1)) (.var 4) (.call 27 [(.var 0), (.var 2), (.var 3), (.gl true)]))], .ret (.var 0)]⟩
def nms_39 : List Str := ["sheet", "number", "own"]
/-- rank_paper -/
def df_39 : Df := ⟨3, 2, [.asg (.one 2) (.call 4 [(.var 0)]), .ite (.cmp .ge (.call 34 [(.var 2)]) (.var 1)) [.ret (.tup [(.cS "filling"), (.call 38 [(.var 2)])])] [], .ret (.tup [(.cS "window"), (.call 36 [(.var 2)])])]⟩
def nms_40 : List Str := ["sheet", "thing", "parts", "own", "line", "near", "far"]
/-- is_filling -/
def df_40 : Df := ⟨7, 2, [.ite (.or (.not (.call 2 [(.var 1), (.f1 .len (.var 0))])) (.or (.not (.call 25 [(.var 1)])) (.cmp .ne (.f1 .len (.ix (.var 1) (.cI 0))) (.f1 .len (.ix (.var 0) (.cI 0)))))) [.ret (.cB false)] [], .asg (.one 2) (.lc2 (.tup [(.var 5), (.var 6)]) (.tup [(.one 3), (.one 4)]) (.zip (.var 0) (.var 1)) (.tup [(.one 5), (.one 6)]) (.zip (.var 3) (.var 4)) none [("own", 3), ("line", 4), ("near", 5), ("far", 6)] [5, 6]), .ret (.f1 .all (.lc (.and (.isN true (.var 6)) (.or (.isN false (.var 5)) (.cmp .eq (.var 5) (.var 6)))) (.tup [(.one 5), (.one 6)]) (.var 2) none [("near", 5), ("far", 6)]))]⟩
def nms_41 : List Str := ["sheet", "thing", "part", "rows", "columns", "line"]
/-- is_window -/
def df_41 : Df := ⟨6, 2, [.ite (.or (.not (.call 2 [(.var 1), (.cI 2)])) (.not (.f1 .all (.lc (.call 7 [(.var 2)]) (.one 2) (.var 1) none [("part", 2)])))) [.ret (.cB false)] [], .asg (.tup [(.one 3), (.one 4)]) (.var 1), .ite (.or (.cmp .ge (.sl (.var 3) (some (.neg (.cI 1))) none) (.tup [(.f1 .len (.var 0))])) (.cmp .ge (.sl (.var 4) (some (.neg (.cI 1))) none) (.tup [(.f1 .len (.ix (.var 0) (.cI 0)))]))) [.ret (.cB false)] [], .ret (.not (.f1 .any (.lc (.cmp .in_ .cN (.var 5)) (.one 5) (.call 29 [(.var 0), (.var 3), (.var 4)]) none [("line", 5)])))]⟩
def nms_42 : List Str := ["sheet", "number", "thing", "own"]
/-- is_rank_paper -/
def df_42 : Df := ⟨4, 3, [.asg (.one 3) (.call 4 [(.var 0)]), .ite (.or (.not (.call 2 [(.var 2), (.cI 2)])) (.not (.isi (.ix (.var 2) (.cI 0)) .str))) [.ret (.cB false)] [], .ite (.cmp .eq (.ix (.var 2) (.cI 0)) (.cS "filling")) [.ret (.and (.call 40 [(.var 3), (.ix (.var 2) (.cI 1))]) (.cmp .ge (.call 22 [(.ix (.var 2) (.cI 1))]) (.var 1)))] [], .ite (.cmp .eq (.ix (.var 2) (.cI 0)) (.cS "window")) [.ret (.and (.call 41 [(.var 3), (.ix (.var 2) (.cI 1))]) (.cmp .lt (.call 31 [(.var 3), (.ix (.ix (.var 2) (.cI 1)) (.cI 0)), (.ix (.ix (.var 2) (.cI 1)) (.cI 1))]) (.var 1)))] [], .ret (.cB false)]⟩
def nms_43 : List Str := ["sheet", "row", "left"]
/-- rank_without -/
def df_43 : Df := ⟨3, 2, [.asg (.one 2) (.tup [(.star (.sl (.var 0) none (some (.var 1)))), (.star (.sl (.var 0) (some (.bin .add (.var 1) (.cI 1))) none))]), .ret (.ite (.cmp .eq (.var 2) (.tup [])) (.cI 0) (.call 34 [(.var 2)]))]⟩
def nms_44 : List Str := ["sheet", "goal", "row"]
/-- rows_needed -/
def df_44 : Df := ⟨3, 2, [.ret (.call 6 [(.lc (.var 2) (.one 2) (.rng1 (.f1 .len (.var 0))) (some (.cmp .lt (.call 43 [(.var 0), (.var 2)]) (.var 1))) [("row", 2)])])]⟩
def nms_45 : List Str := ["sheet", "own", "goal", "places", "spot"]
/-- needed -/
def df_45 : Df := ⟨5, 1, [.asg (.one 1) (.call 4 [(.var 0)]), .asg (.one 2) (.call 34 [(.var 1)]), .asg (.one 3) (.lc (.var 4) (.one 4) (.call 26 [(.var 1)]) (some (.cmp .lt (.call 34 [(.call 27 [(.var 1), (.ix (.var 4) (.cI 0)), (.ix (.var 4) (.cI 1)), (.gl false)])]) (.var 2))) [("spot", 4)]), .ret (.tup [(.call 44 [(.var 1), (.var 2)]), (.call 44 [(.call 17 [(.var 1), (.f1 .len (.ix (.var 1) (.cI 0)))]), (.var 2)]), (.call 6 [(.var 3)])])]⟩
def nms_46 : List Str := ["sheet", "row", "column", "lines", "line"]
/-- beside -/
def df_46 : Df := ⟨5, 3, [.asg (.one 3) (.tup [(.star (.sl (.var 0) none (some (.var 1)))), (.star (.sl (.var 0) (some (.bin .add (.var 1) (.cI 1))) none))]), .ret (.f1 .tuple (.lc (.tup [(.star (.sl (.var 4) none (some (.var 2)))), (.star (.sl (.var 4) (some (.bin .add (.var 2) (.cI 1))) none))]) (.one 4) (.var 3) none [("line", 4)]))]⟩
def nms_47 : List Str := ["sheet", "row", "column", "left", "lines", "found", "k", "parts", "part", "near", "rest", "times"]
/-- bent_at -/
def df_47 : Df := ⟨12, 3, [.asg (.one 3) (.call 46 [(.var 0), (.var 1), (.var 2)]), .ite (.and (.cmp .ne (.var 3) (.tup [])) (.cmp .lt (.call 34 [(.var 3)]) (.f1 .len (.var 3)))) [.ret .cN] [], .asg (.one 4) (.ite (.cmp .ne (.var 3) (.tup [])) (.call 38 [(.var 3)]) (.tup [])), .new 5 (.lst []), .for_ (.one 6) (.rng1 (.f1 .len (.var 0))) [.asg (.one 7) (.lc (.ite (.isN false (.var 8)) (.gl false) (.var 8)) (.one 8) (.ix (.var 0) (.var 6)) none [("part", 8)]), .ite (.cmp .ne (.var 6) (.var 1)) [.asg (.one 9) (.ix (.var 4) (.ite (.cmp .lt (.var 6) (.var 1)) (.var 6) (.bin .sub (.var 6) (.cI 1)))), .asg (.one 7) (.lst [(.star (.sl (.var 9) none (some (.var 2)))), (.ix (.var 7) (.var 2)), (.star (.sl (.var 9) (some (.var 2)) none))])] [], .app 5 (.f1 .tuple (.var 7))], .frz 5, .asg (.one 10) (.call 23 [(.call 27 [(.var 5), (.var 1), (.var 2), (.gl false)])]), .asg (.one 11) (.call 12 [(.call 23 [(.call 27 [(.var 5), (.var 1), (.var 2), (.gl true)])]), (.var 10)]), .ret (.call 27 [(.f1 .tuple (.var 5)), (.var 1), (.var 2), (.call 11 [(.call 14 [(.var 10), (.var 11)])])])]⟩
def nms_48 : List Str := ["sheet", "own", "row", "column", "found"]
/-- low_filling -/
def df_48 : Df := ⟨5, 1, [.asg (.one 1) (.call 4 [(.var 0)]), .ite (.cmp .ne (.f1 .len (.var 1)) (.f1 .len (.ix (.var 1) (.cI 0)))) [.never] [], .ite (.cmp .lt (.call 34 [(.var 1)]) (.f1 .len (.var 1))) [.ret (.call 28 [(.var 1), (.bin .mul (.lst [(.gl false)]) (.f1 .len (.call 26 [(.var 1)])))])] [], .for_ (.tup [(.one 2), (.one 3)]) (.call 26 [(.var 1)]) [.asg (.one 4) (.call 47 [(.var 1), (.var 2), (.var 3)]), .ite (.isN true (.var 4)) [.ret (.var 4)] []], .ret .cN]⟩
def nms_49 : List Str := ["_law_matter", "_law_bit"]
/-- _law_lists -/
def df_49 : Df := ⟨2, 1, [.ret (.ite (.isi2 (.var 0) .list .tuple) (.lc (.call 49 [(.var 1)]) (.one 1) (.var 0) none [("_law_bit", 1)]) (.var 0))]⟩
def nms_50 : List Str := ["_law_got", "_law_due", "_law_mine", "_law_its"]
/-- _law_same -/
def df_50 : Df := ⟨4, 2, [.ite (.isi2 (.var 1) .list .tuple) [.ite (.or (.cmp .ne (.isi (.var 0) .list) (.isi (.var 1) .list)) (.cmp .ne (.isi (.var 0) .tuple) (.isi (.var 1) .tuple))) [.ret (.cB false)] [], .ret (.and (.cmp .eq (.f1 .len (.var 0)) (.f1 .len (.var 1))) (.f1 .all (.lc (.call 50 [(.var 2), (.var 3)]) (.tup [(.one 2), (.one 3)]) (.zip (.var 0) (.var 1)) none [("_law_mine", 2), ("_law_its", 3)])))] [], .ite (.or (.isN false (.var 1)) (.isi2 (.var 1) .bool .str)) [.ret (.and (.cmp .eq (.var 0) (.var 1)) (.and (.cmp .eq (.isi (.var 0) .bool) (.isi (.var 1) .bool)) (.cmp .eq (.isN false (.var 0)) (.isN false (.var 1)))))] [], .ret (.and (.isi (.var 0) .int) (.and (.not (.isi (.var 0) .bool)) (.cmp .eq (.var 0) (.var 1))))]⟩
def nms_51 : List Str := ["_law_one_so", "_law_two_so"]
/-- _law_gcd -/
def df_51 : Df := ⟨2, 2, [.whl (.cmp .ne (.var 1) (.cI 0)) [.par2 0 1 (.var 1) (.bin .mod (.f1 .int (.var 0)) (.var 1))], .ret (.f1 .abs (.var 0))]⟩
def nms_52 : List Str := ["_law_top_so", "_law_base_so", "_law_deep_so"]
/-- _law_fr -/
def df_52 : Df := ⟨3, 2, [.asg (.one 2) (.call 51 [(.var 0), (.var 1)]), .ret (.tup [(.bin .fdiv (.var 0) (.var 2)), (.bin .fdiv (.var 1) (.var 2))])]⟩
def nms_53 : List Str := ["_law_one_so", "_law_two_so"]
/-- _law_less_by -/
def df_53 : Df := ⟨2, 2, [.ret (.call 52 [(.bin .sub (.bin .mul (.ix (.var 0) (.cI 0)) (.ix (.var 1) (.cI 1))) (.bin .mul (.ix (.var 1) (.cI 0)) (.ix (.var 0) (.cI 1)))), (.bin .mul (.ix (.var 0) (.cI 1)) (.ix (.var 1) (.cI 1)))])]⟩
def nms_54 : List Str := ["_law_one_so", "_law_two_so"]
/-- _law_mul -/
def df_54 : Df := ⟨2, 2, [.ret (.call 52 [(.bin .mul (.ix (.var 0) (.cI 0)) (.ix (.var 1) (.cI 0))), (.bin .mul (.ix (.var 0) (.cI 1)) (.ix (.var 1) (.cI 1)))])]⟩
def nms_55 : List Str := ["_law_own", "_law_bit"]
/-- _law_is_fr -/
def df_55 : Df := ⟨2, 1, [.ite (.or (.not (.isi (.var 0) .tuple)) (.or (.cmp .ne (.f1 .len (.var 0)) (.cI 2)) (.not (.f1 .all (.lc (.and (.isi (.var 1) .int) (.not (.isi (.var 1) .bool))) (.one 1) (.var 0) none [("_law_bit", 1)]))))) [.ret (.cB false)] [], .ret (.and (.cmp .ge (.ix (.var 0) (.cI 1)) (.cI 1)) (.cmp .eq (.call 51 [(.ix (.var 0) (.cI 0)), (.ix (.var 0) (.cI 1))]) (.cI 1)))]⟩
def nms_56 : List Str := ["_law_own", "_law_size_so", "_law_bit"]
/-- _law_is_row -/
def df_56 : Df := ⟨3, 2, [.ret (.and (.isi (.var 0) .tuple) (.and (.cmp .eq (.f1 .len (.var 0)) (.var 1)) (.f1 .all (.lc (.call 55 [(.var 2)]) (.one 2) (.var 0) none [("_law_bit", 2)]))))]⟩
def nms_57 : List Str := ["_law_rows_so", "_law_size_so", "_law_row_so", "_law_k"]
/-- _law_columns -/
def df_57 : Df := ⟨4, 2, [.ret (.f1 .tuple (.lc (.f1 .tuple (.lc (.ix (.var 2) (.var 3)) (.one 2) (.var 0) none [("_law_row_so", 2)])) (.one 3) (.rng1 (.var 1)) none [("_law_k", 3)]))]⟩
def nms_58 : List Str := ["_law_rows_so", "_law_left_so", "_law_found", "_law_row_so", "_law_size_so", "_law_k", "_law_heads_so", "_law_j", "_law_own", "_law_head_so", "_law_bit"]
/-- _law_steps -/
def df_58 : Df := ⟨11, 1, [.newP 1 2 (.lc (.f1 .list (.var 3)) (.one 3) (.var 0) none [("_law_row_so", 3)]) (.lst []), .asg (.one 4) (.ite (.cmp .ne (.var 1) (.lst [])) (.f1 .len (.ix (.var 1) (.cI 0))) (.cI 0)), .for_ (.one 5) (.rng1 (.var 4)) [.asg (.one 6) (.lc (.var 7) (.tup [(.one 7), (.one 3)]) (.enum true (.var 1)) (some (.cmp .ne (.ix (.ix (.var 3) (.var 5)) (.cI 0)) (.cI 0))) [("_law_j", 7), ("_law_row_so", 3)]), .ite (.cmp .ne (.var 6) (.lst [])) [.pop 8 1 (.ix (.var 6) (.cI 0)), .asg (.one 9) (.lc (.call 59 [(.var 10), (.ix (.var 8) (.var 5))]) (.one 10) (.var 8) none [("_law_bit", 10)]), .new 1 (.lc (.call 60 [(.var 3), (.var 9), (.var 5)]) (.one 3) (.var 1) none [("_law_row_so", 3)]), .asg (.one 2) (.bin .add (.lc (.call 60 [(.var 3), (.var 9), (.var 5)]) (.one 3) (.var 2) none [("_law_row_so", 3)]) (.lst [(.var 9)]))] []], .ret (.f1 .tuple (.lc (.f1 .tuple (.var 3)) (.one 3) (.var 2) none [("_law_row_so", 3)]))]⟩
def nms_59 : List Str := ["_law_one_so", "_law_two_so"]
/-- _law_over_any -/
def df_59 : Df := ⟨2, 2, [.ret (.call 52 [(.bin .mul (.bin .mul (.ix (.var 0) (.cI 0)) (.ix (.var 1) (.cI 1))) (.ite (.cmp .gt (.ix (.var 1) (.cI 0)) (.cI 0)) (.cI 1) (.neg (.cI 1)))), (.bin .mul (.ix (.var 0) (.cI 1)) (.f1 .abs (.ix (.var 1) (.cI 0))))])]⟩
def nms_60 : List Str := ["_law_row_so", "_law_head_so", "_law_k", "_law_part_so", "_law_mine", "_law_its"]
/-- _law_struck -/
def df_60 : Df := ⟨6, 3, [.asg (.one 3) (.ix (.var 0) (.var 2)), .ret (.lc (.call 53 [(.var 4), (.call 54 [(.var 3), (.var 5)])]) (.tup [(.one 4), (.one 5)]) (.zip (.var 0) (.var 1)) none [("_law_mine", 4), ("_law_its", 5)])]⟩
def nms_61 : List Str := ["_law_rows_so"]
/-- _law_rank -/
def df_61 : Df := ⟨1, 1, [.ret (.f1 .len (.call 58 [(.var 0)]))]⟩
def nms_62 : List Str := ["_law_goods_so", "_law_found", "_law_own", "_law_lot_so"]
/-- _law_lots -/
def df_62 : Df := ⟨4, 1, [.asg (.one 1) (.lst [(.tup [])]), .for_ (.one 2) (.var 0) [.asg (.one 1) (.bin .add (.var 1) (.lc (.bin .add (.var 3) (.tup [(.var 2)])) (.one 3) (.var 1) none [("_law_lot_so", 3)]))], .ret (.lc (.ix (.var 2) (.cI 1)) (.one 2) (.srt .plain (.lc (.tup [(.f1 .len (.var 3)), (.var 3)]) (.one 3) (.var 1) none [("_law_lot_so", 3)])) none [("_law_own", 2)])]⟩
def nms_63 : List Str := ["_law_sheet_so", "_law_found", "_law_j", "_law_row_so", "_law_k", "_law_bit"]
/-- _law_holes -/
def df_63 : Df := ⟨6, 1, [.asg (.one 1) (.lst []), .for_ (.tup [(.one 2), (.one 3)]) (.enum false (.var 0)) [.asg (.one 1) (.bin .add (.var 1) (.lc (.tup [(.var 2), (.var 4)]) (.tup [(.one 4), (.one 5)]) (.enum false (.var 3)) (some (.isN false (.var 5))) [("_law_k", 4), ("_law_bit", 5)]))], .ret (.var 1)]⟩
def nms_64 : List Str := ["_law_sheet_so", "_law_rows_so", "_law_columns_so", "_law_k", "_law_j"]
/-- _law_cross -/
def df_64 : Df := ⟨5, 3, [.ret (.f1 .tuple (.lc (.f1 .tuple (.lc (.ix (.ix (.var 0) (.var 4)) (.var 3)) (.one 3) (.var 2) none [("_law_k", 3)])) (.one 4) (.var 1) none [("_law_j", 4)]))]⟩
def nms_65 : List Str := ["_law_sheet_so", "_law_rows_so", "_law_columns_so", "_law_own"]
/-- _law_is_told -/
def df_65 : Df := ⟨4, 3, [.ret (.cmp .eq (.lc (.cI 1) (.one 3) (.call 64 [(.var 0), (.var 1), (.var 2)]) (some (.cmp .in_ .cN (.var 3))) [("_law_own", 3)]) (.lst []))]⟩
def nms_66 : List Str := ["_law_sheet_so", "_law_rows_so", "_law_columns_so", "_law_away_so"]
/-- _law_count -/
def df_66 : Df := ⟨4, 3, [.asg (.one 3) (.bin .sub (.bin .add (.bin .sub (.f1 .len (.var 0)) (.f1 .len (.var 1))) (.f1 .len (.ix (.var 0) (.cI 0)))) (.f1 .len (.var 2))), .ret (.bin .add (.var 3) (.call 61 [(.call 64 [(.var 0), (.var 1), (.var 2)])]))]⟩
def nms_67 : List Str := ["_law_sheet_so", "_law_windows_so", "_law_least_so", "_law_own", "_law_tight_so", "_law_high_so", "_law_wide_so", "_law_first_so", "_law_k", "_law_last_so"]
/-- _law_tight_due -/
def df_67 : Df := ⟨10, 2, [.asg (.one 2) (.f1 .min (.lc (.ix (.var 3) (.cI 2)) (.one 3) (.var 1) none [("_law_own", 3)])), .asg (.one 4) (.lc (.var 3) (.one 3) (.var 1) (some (.cmp .eq (.ix (.var 3) (.cI 2)) (.var 2))) [("_law_own", 3)]), .par2 5 6 (.f1 .lrng (.f1 .len (.var 0))) (.f1 .lrng (.f1 .len (.ix (.var 0) (.cI 0)))), .asg (.one 7) (.tup [(.f1 .tuple (.lc (.var 8) (.one 8) (.var 5) (some (.f1 .all (.lc (.cmp .in_ (.var 8) (.ix (.var 3) (.cI 0))) (.one 3) (.var 4) none [("_law_own", 3)]))) [("_law_k", 8)])), (.f1 .tuple (.lc (.var 8) (.one 8) (.var 6) (some (.f1 .any (.lc (.cmp .in_ (.var 8) (.ix (.var 3) (.cI 1))) (.one 3) (.var 4) none [("_law_own", 3)]))) [("_law_k", 8)]))]), .asg (.one 9) (.tup [(.f1 .tuple (.lc (.var 8) (.one 8) (.var 5) (some (.f1 .any (.lc (.cmp .in_ (.var 8) (.ix (.var 3) (.cI 0))) (.one 3) (.var 4) none [("_law_own", 3)]))) [("_law_k", 8)])), (.f1 .tuple (.lc (.var 8) (.one 8) (.var 6) (some (.f1 .all (.lc (.cmp .in_ (.var 8) (.ix (.var 3) (.cI 1))) (.one 3) (.var 4) none [("_law_own", 3)]))) [("_law_k", 8)]))]), .ret (.tup [(.var 7), (.var 9)])]⟩
def nms_68 : List Str := ["_law_sheet_so", "_law_own", "_law_row_so", "_law_line_so", "_law_near_so", "_law_far_so"]
/-- _law_is_filling -/
def df_68 : Df := ⟨6, 2, [.ite (.or (.not (.isi (.var 1) .tuple)) (.cmp .ne (.f1 .len (.var 1)) (.f1 .len (.var 0)))) [.ret (.cB false)] [], .for_ (.tup [(.one 2), (.one 3)]) (.zip (.var 0) (.var 1)) [.ite (.not (.call 56 [(.var 3), (.f1 .len (.var 2))])) [.ret (.cB false)] [], .ite (.cmp .ne (.lc (.cI 1) (.tup [(.one 4), (.one 5)]) (.zip (.var 2) (.var 3)) (some (.and (.isN true (.var 4)) (.cmp .ne (.var 4) (.var 5)))) [("_law_near_so", 4), ("_law_far_so", 5)]) (.lst [])) [.ret (.cB false)] []], .ret (.cB true)]⟩
def nms_69 : List Str := ["_law_sheet_so", "_law_own", "_law_part_so", "_law_size_so", "_law_bit"]
/-- _law_is_window -/
def df_69 : Df := ⟨5, 2, [.ite (.or (.not (.isi (.var 1) .tuple)) (.cmp .ne (.f1 .len (.var 1)) (.cI 2))) [.ret (.cB false)] [], .for_ (.tup [(.one 2), (.one 3)]) (.tup [(.tup [(.ix (.var 1) (.cI 0)), (.f1 .len (.var 0))]), (.tup [(.ix (.var 1) (.cI 1)), (.f1 .len (.ix (.var 0) (.cI 0)))])]) [.ite (.or (.not (.isi (.var 2) .tuple)) (.cmp .ne (.lc (.cI 1) (.one 4) (.var 2) (some (.or (.not (.isi (.var 4) .int)) (.isi (.var 4) .bool))) [("_law_bit", 4)]) (.lst []))) [.ret (.cB false)] [], .ite (.or (.cmp .ne (.lc (.cI 1) (.one 4) (.var 2) (some (.or (.cmp .lt (.var 4) (.cI 0)) (.cmp .ge (.var 4) (.var 3)))) [("_law_bit", 4)]) (.lst [])) (.cmp .ne (.f1 .list (.var 2)) (.srt .setL (.var 2)))) [.ret (.cB false)] []], .ret (.call 65 [(.var 0), (.ix (.var 1) (.cI 0)), (.ix (.var 1) (.cI 1))])]⟩
def nms_70 : List Str := ["_law_sheet_so", "_law_number_so", "_law_own"]
/-- _law_fits -/
def df_70 : Df := ⟨3, 3, [.ite (.or (.not (.isi (.var 2) .tuple)) (.or (.cmp .ne (.f1 .len (.var 2)) (.cI 2)) (.not (.isi (.ix (.var 2) (.cI 0)) .str)))) [.ret (.cB false)] [], .ite (.cmp .eq (.ix (.var 2) (.cI 0)) (.cS "filling")) [.ret (.and (.call 68 [(.var 0), (.ix (.var 2) (.cI 1))]) (.cmp .ge (.call 61 [(.ix (.var 2) (.cI 1))]) (.var 1)))] [], .ite (.cmp .eq (.ix (.var 2) (.cI 0)) (.cS "window")) [.ret (.and (.call 69 [(.var 0), (.ix (.var 2) (.cI 1))]) (.cmp .lt (.call 66 [(.var 0), (.ix (.ix (.var 2) (.cI 1)) (.cI 0)), (.ix (.ix (.var 2) (.cI 1)) (.cI 1))]) (.var 1)))] [], .ret (.cB false)]⟩
def nms_71 : List Str := ["_law_sheet_so", "_law_j"]
/-- _law_without -/
def df_71 : Df := ⟨2, 2, [.ret (.bin .add (.sl (.var 0) none (some (.var 1))) (.sl (.var 0) (some (.bin .add (.var 1) (.cI 1))) none))]⟩
def nms_72 : List Str := ["_law_sheet_so", "_law_j", "_law_used_so", "_law_found", "_law_k", "_law_bit"]
/-- _law_most_pairs -/
def df_72 : Df := ⟨6, 3, [.ite (.cmp .eq (.var 1) (.f1 .len (.var 0))) [.ret (.cI 0)] [], .asg (.one 3) (.call 72 [(.var 0), (.bin .add (.var 1) (.cI 1)), (.var 2)]), .for_ (.tup [(.one 4), (.one 5)]) (.enum false (.ix (.var 0) (.var 1))) [.ite (.and (.isN false (.var 5)) (.cmp .notIn (.var 4) (.var 2))) [.asg (.one 3) (.f2 .max (.var 3) (.bin .add (.cI 1) (.call 72 [(.var 0), (.bin .add (.var 1) (.cI 1)), (.bin .add (.var 2) (.tup [(.var 4)]))])))] []], .ret (.var 3)]⟩
def nms_73 : List Str := ["_law_sheet_so", "_law_found", "_law_many_so", "_law_columns_so", "_law_rows_so", "_law_lot_so"]
/-- _law_plain_windows -/
def df_73 : Df := ⟨6, 1, [.newP 1 2 (.lst []) (.bin .add (.f1 .len (.var 0)) (.f1 .len (.ix (.var 0) (.cI 0)))), .asg (.one 3) (.call 62 [(.f1 .lrng (.f1 .len (.ix (.var 0) (.cI 0))))]), .for_ (.one 4) (.call 62 [(.f1 .lrng (.f1 .len (.var 0)))]) [.for_ (.one 5) (.var 3) [.ite (.call 65 [(.var 0), (.var 4), (.var 5)]) [.app 1 (.tup [(.var 4), (.var 5), (.bin .sub (.bin .sub (.var 2) (.f1 .len (.var 4))) (.f1 .len (.var 5)))])] []]], .frz 1, .ret (.var 1)]⟩
def nms_74 : List Str := ["_law_sheet_so", "_law_goal_so", "_law_turned_so", "_law_found", "_law_own", "_law_j", "_law_spots_so", "_law_k", "_law_row_so"]
/-- _law_pairs_needed -/
def df_74 : Df := ⟨9, 1, [.par2 1 2 (.call 72 [(.var 0), (.cI 0), (.tup [])]) (.call 57 [(.var 0), (.f1 .len (.ix (.var 0) (.cI 0)))]), .new 3 (.lst []), .for_ (.one 4) (.tup [(.var 0), (.var 2)]) [.app 3 (.f1 .tuple (.lc (.var 5) (.one 5) (.rng1 (.f1 .len (.var 4))) (some (.cmp .lt (.call 72 [(.call 71 [(.var 4), (.var 5)]), (.cI 0), (.tup [])]) (.var 1))) [("_law_j", 5)]))], .new 6 (.lst []), .for_ (.tup [(.one 5), (.one 7)]) (.call 63 [(.var 0)]) [.asg (.one 8) (.bin .add (.bin .add (.sl (.ix (.var 0) (.var 5)) none (some (.var 7))) (.tup [(.tup [(.cI 0), (.cI 1)])])) (.sl (.ix (.var 0) (.var 5)) (some (.bin .add (.var 7) (.cI 1))) none)), .ite (.cmp .lt (.call 72 [(.bin .add (.bin .add (.sl (.var 0) none (some (.var 5))) (.tup [(.var 8)])) (.sl (.var 0) (some (.bin .add (.var 5) (.cI 1))) none)), (.cI 0), (.tup [])]) (.var 1)) [.app 6 (.tup [(.var 5), (.var 7)])] []], .ret (.tup [(.ix (.var 3) (.cI 0)), (.ix (.var 3) (.cI 1)), (.f1 .tuple (.var 6))])]⟩
def nms_75 : List Str := ["_law_o", "_law_hook_so", "_law_stair_so", "_law_got", "_law_due", "_law_number_so"]
/-- _law_by_hand_right -/
def df_75 : Df := ⟨6, 0, [.asg (.one 0) (.tup [(.cI 0), (.cI 1)]), .asg (.one 1) (.tup [(.tup [.cN, (.var 0), (.var 0)]), (.tup [.cN, (.var 0), (.var 0)]), (.tup [.cN, .cN, .cN])]), .asg (.one 2) (.tup [(.tup [.cN, (.var 0), (.var 0)]), (.tup [.cN, .cN, (.var 0)]), (.tup [.cN, .cN, .cN])]), .asg (.one 3) (.lst [(.call 35 [(.var 1)]), (.call 37 [(.var 1)]), (.call 45 [(.var 1)]), (.call 39 [(.var 1), (.cI 3)])]), .asg (.one 4) (.lst [(.cI 2), (.tup [(.tup [(.tup [(.cI 0), (.cI 1)]), (.tup [(.cI 1), (.cI 2)])]), (.tup [(.tup [(.cI 0), (.cI 1)]), (.tup [(.cI 1), (.cI 2)])])]), (.tup [(.tup [(.cI 2)]), (.tup [(.cI 0)]), (.tup [])]), (.tup [(.cS "window"), (.tup [(.tup [(.cI 0), (.cI 1)]), (.tup [(.cI 1), (.cI 2)])])])]), .asg (.one 3) (.bin .add (.var 3) (.lst [(.call 35 [(.var 2)]), (.call 45 [(.var 2)]), (.call 37 [(.tup [(.tup [.cN, (.var 0)]), (.tup [(.var 0), (.var 0)])])]), (.call 35 [(.tup [(.tup [(.var 0), (.var 0)])])])])), .asg (.one 4) (.bin .add (.var 4) (.lst [(.cI 3), (.tup [(.tup [(.cI 0), (.cI 1), (.cI 2)]), (.tup [(.cI 0), (.cI 1), (.cI 2)]), (.tup [(.tup [(.cI 0), (.cI 0)]), (.tup [(.cI 1), (.cI 1)]), (.tup [(.cI 2), (.cI 2)])])]), (.tup [(.tup [(.tup [(.cI 1)]), (.tup [(.cI 0), (.cI 1)])]), (.tup [(.tup [(.cI 0), (.cI 1)]), (.tup [(.cI 1)])])]), (.cI 0)])), .asg (.one 3) (.bin .add (.var 3) (.lc (.call 42 [(.var 1), (.var 5), (.tup [(.cS "window"), (.tup [(.tup [(.cI 0), (.cI 1)]), (.tup [(.cI 1), (.cI 2)])])])]) (.one 5) (.tup [(.cI 2), (.cI 3)]) none [("_law_number_so", 5)])), .asg (.one 4) (.bin .add (.var 4) (.lst [(.cB false), (.cB true)])), .asg (.one 3) (.bin .add (.var 3) (.lst [(.call 37 [(.tup [(.tup [.cN])])]), (.call 45 [(.tup [(.tup [.cN, .cN]), (.tup [(.var 0), .cN])])]), (.call 32 [(.var 1), (.tup [(.cI 0), (.cI 1)]), (.tup [(.cI 1), (.cI 2)])])])), .ret (.call 50 [(.var 3), (.bin .add (.var 4) (.lst [(.tup [(.tup [(.tup []), (.tup [(.cI 0)])]), (.tup [(.tup [(.cI 0)]), (.tup [])])]), (.tup [(.tup [(.cI 0), (.cI 1)]), (.tup [(.cI 0), (.cI 1)]), (.tup [(.tup [(.cI 0), (.cI 0)]), (.tup [(.cI 1), (.cI 1)])])]), (.cI 2)]))])]⟩
def tab : List Df := [df_0, df_1, df_2, df_3, df_4, df_5, df_6, df_7, df_8, df_9, df_10, df_11, df_12, df_13, df_14, df_15, df_16, df_17, df_18, df_19, df_20, df_21, df_22, df_23, df_24, df_25, df_26, df_27, df_28, df_29, df_30, df_31, df_32, df_33, df_34, df_35, df_36, df_37, df_38, df_39, df_40, df_41, df_42, df_43, df_44, df_45, df_46, df_47, df_48, df_49, df_50, df_51, df_52, df_53, df_54, df_55, df_56, df_57, df_58, df_59, df_60, df_61, df_62, df_63, df_64, df_65, df_66, df_67, df_68, df_69, df_70, df_71, df_72, df_73, df_74, df_75]
def fsT0 : List (Str × Nat) := [("is_number", 1), ("is_count", 1), ("is_tuple_of", 2), ("is_fraction", 1), ("tupled", 1), ("rises", 1), ("set_of", 1), ("is_number_set", 1), ("sets_of", 1), ("fraction_of", 2), ("added", 2), ("negative", 1), ("lessened", 2), ("multiplied", 2), ("parted", 2), ("row_added", 2), ("row_times", 2), ("columns_of", 2), ("is_nothing", 1), ("lead_of", 1), ("lessened_by", 2), ("reduced_rows", 1), ("rank", 1), ("det", 1), ("check_places", 2)]
def fsT1 : List (Str × Nat) := [("is_sheet", 1), ("unknown_of", 1), ("with_part", 4), ("with_numbers", 2), ("crossed", 3), ("told_columns", 2), ("count_at", 3), ("count_of", 3), ("counts_by_rows", 1), ("greatest_of", 1), ("greatest_rank", 1), ("tight_by_rows", 1), ("tight_windows", 1), ("best_filling", 1), ("rank_paper", 2), ("is_filling", 2), ("is_window", 2), ("is_rank_paper", 3), ("rank_without", 2), ("rows_needed", 2), ("needed", 1), ("beside", 3), ("bent_at", 3), ("low_filling", 1), ("_law_lists", 1)]
def fsT2 : List (Str × Nat) := [("_law_same", 2), ("_law_gcd", 2), ("_law_fr", 2), ("_law_less_by", 2), ("_law_mul", 2), ("_law_is_fr", 1), ("_law_is_row", 2), ("_law_columns", 2), ("_law_steps", 1), ("_law_over_any", 2), ("_law_struck", 3), ("_law_rank", 1), ("_law_lots", 1), ("_law_holes", 1), ("_law_cross", 3), ("_law_is_told", 3), ("_law_count", 3), ("_law_tight_due", 2), ("_law_is_filling", 2), ("_law_is_window", 2), ("_law_fits", 3), ("_law_without", 2), ("_law_most_pairs", 3), ("_law_plain_windows", 1), ("_law_pairs_needed", 1)]
def fsT3 : List (Str × Nat) := [("_law_by_hand_right", 0)]
def fsT : List (Str × Nat) := fsT0 ++ fsT1 ++ fsT2 ++ fsT3
/-- where it stands in the text, its name, its slots' names -/
structure En where
  at_ : Nat
  x : Str
  k : Nat
  N : List Str
  df : Df
  lam : Bool
def ents0 : List (En) := [⟨7, "is_number", 1, nms_0, df_0, false⟩, ⟨8, "is_count", 1, nms_1, df_1, false⟩, ⟨9, "is_tuple_of", 2, nms_2, df_2, false⟩, ⟨10, "is_fraction", 1, nms_3, df_3, false⟩, ⟨11, "tupled", 1, nms_4, df_4, false⟩, ⟨12, "rises", 1, nms_5, df_5, false⟩, ⟨13, "set_of", 1, nms_6, df_6, false⟩, ⟨14, "is_number_set", 1, nms_7, df_7, false⟩, ⟨15, "sets_of", 1, nms_8, df_8, true⟩, ⟨16, "fraction_of", 2, nms_9, df_9, false⟩, ⟨17, "added", 2, nms_10, df_10, false⟩, ⟨18, "negative", 1, nms_11, df_11, false⟩, ⟨19, "lessened", 2, nms_12, df_12, false⟩, ⟨20, "multiplied", 2, nms_13, df_13, false⟩, ⟨21, "parted", 2, nms_14, df_14, false⟩, ⟨22, "row_added", 2, nms_15, df_15, false⟩, ⟨23, "row_times", 2, nms_16, df_16, false⟩, ⟨24, "columns_of", 2, nms_17, df_17, false⟩, ⟨25, "is_nothing", 1, nms_18, df_18, false⟩, ⟨27, "lead_of", 1, nms_19, df_19, false⟩, ⟨28, "lessened_by", 2, nms_20, df_20, false⟩, ⟨29, "reduced_rows", 1, nms_21, df_21, false⟩, ⟨30, "rank", 1, nms_22, df_22, false⟩, ⟨31, "det", 1, nms_23, df_23, false⟩, ⟨32, "check_places", 2, nms_24, df_24, false⟩]
def ents1 : List (En) := [⟨34, "is_sheet", 1, nms_25, df_25, false⟩, ⟨35, "unknown_of", 1, nms_26, df_26, false⟩, ⟨36, "with_part", 4, nms_27, df_27, false⟩, ⟨37, "with_numbers", 2, nms_28, df_28, false⟩, ⟨38, "crossed", 3, nms_29, df_29, false⟩, ⟨39, "told_columns", 2, nms_30, df_30, false⟩, ⟨40, "count_at", 3, nms_31, df_31, false⟩, ⟨41, "count_of", 3, nms_32, df_32, false⟩, ⟨42, "counts_by_rows", 1, nms_33, df_33, false⟩, ⟨43, "greatest_of", 1, nms_34, df_34, false⟩, ⟨44, "greatest_rank", 1, nms_35, df_35, false⟩, ⟨45, "tight_by_rows", 1, nms_36, df_36, false⟩, ⟨46, "tight_windows", 1, nms_37, df_37, false⟩, ⟨47, "best_filling", 1, nms_38, df_38, false⟩, ⟨48, "rank_paper", 2, nms_39, df_39, false⟩, ⟨49, "is_filling", 2, nms_40, df_40, false⟩, ⟨50, "is_window", 2, nms_41, df_41, false⟩, ⟨51, "is_rank_paper", 3, nms_42, df_42, false⟩, ⟨52, "rank_without", 2, nms_43, df_43, false⟩, ⟨53, "rows_needed", 2, nms_44, df_44, false⟩, ⟨54, "needed", 1, nms_45, df_45, false⟩, ⟨55, "beside", 3, nms_46, df_46, false⟩, ⟨56, "bent_at", 3, nms_47, df_47, false⟩, ⟨57, "low_filling", 1, nms_48, df_48, false⟩, ⟨63, "_law_lists", 1, nms_49, df_49, false⟩]
def ents2 : List (En) := [⟨64, "_law_same", 2, nms_50, df_50, false⟩, ⟨65, "_law_gcd", 2, nms_51, df_51, false⟩, ⟨66, "_law_fr", 2, nms_52, df_52, false⟩, ⟨67, "_law_less_by", 2, nms_53, df_53, false⟩, ⟨68, "_law_mul", 2, nms_54, df_54, false⟩, ⟨69, "_law_is_fr", 1, nms_55, df_55, false⟩, ⟨70, "_law_is_row", 2, nms_56, df_56, false⟩, ⟨71, "_law_columns", 2, nms_57, df_57, false⟩, ⟨72, "_law_steps", 1, nms_58, df_58, false⟩, ⟨73, "_law_over_any", 2, nms_59, df_59, false⟩, ⟨74, "_law_struck", 3, nms_60, df_60, false⟩, ⟨75, "_law_rank", 1, nms_61, df_61, false⟩, ⟨76, "_law_lots", 1, nms_62, df_62, false⟩, ⟨77, "_law_holes", 1, nms_63, df_63, false⟩, ⟨78, "_law_cross", 3, nms_64, df_64, false⟩, ⟨79, "_law_is_told", 3, nms_65, df_65, false⟩, ⟨80, "_law_count", 3, nms_66, df_66, false⟩, ⟨81, "_law_tight_due", 2, nms_67, df_67, false⟩, ⟨82, "_law_is_filling", 2, nms_68, df_68, false⟩, ⟨83, "_law_is_window", 2, nms_69, df_69, false⟩, ⟨84, "_law_fits", 3, nms_70, df_70, false⟩, ⟨85, "_law_without", 2, nms_71, df_71, false⟩, ⟨86, "_law_most_pairs", 3, nms_72, df_72, false⟩, ⟨87, "_law_plain_windows", 1, nms_73, df_73, false⟩, ⟨88, "_law_pairs_needed", 1, nms_74, df_74, false⟩]
def ents3 : List (En) := [⟨90, "_law_by_hand_right", 0, nms_75, df_75, false⟩]
def ents : List (En) := ents0 ++ ents1 ++ ents2 ++ ents3
end PV
end
section -- Chk
/-! Every def passes the check. -/
namespace PV
open PySem L2
def chkEn (e : En) : Bool := C8.scC e.N (e.N.take e.k) (defScope (KH.top e.at_)) && decide (e.df.k = e.k) && decide (e.df.n = e.N.length) && chkSs e.df.body ⟨e.N, defScope (KH.top e.at_), fun _ => true, e.lam, fsT⟩ (defBody (KH.top e.at_))
theorem chk_all : ents.all chkEn = true := by decide +kernel
theorem chk_each : ∀ e ∈ ents, chkEn e = true := List.all_eq_true.mp chk_all
end PV
end
section -- Facts
/-! The defs behind the head. -/
namespace PV
open PySem PySem.Spec PyProof.Rows L2
/-- how a def's arguments bind -/
def BindP (x : Str) (t : Nat) (ps : List Str) : Prop := ∀ (kV doc pm : Value) (an : Option Addr) (cdv ct : Value) (us : List Value), us.length = ps.length → bindArgs (PySem.W.fnOf x x (defArgs (KH.top t)) (defBody (KH.top t)) (defScope (KH.top t)) .none kV doc pm an cdv ct) ⟨us, []⟩ = pure (ps.zip us)
section
variable {K : PySem.W.Frag} {h : Heap} {mg : Str → Option Value}
theorem fun_of (c : He.SaysD KH.fa KH.fn K) (X : K.In h) (G : h.Ns mainGlobals mg) {x : Str} {t : Nat} {ps : List Str} (i : Nat) (hd : KH.fn[i]? = some (KH.dd x t)) (hf : KH.fa[i]? = some (.glo x)) (hb : BindP x t ps) :
    ∃ fd, FunD K x x (defArgs (KH.top t)) (defBody (KH.top t)) (defScope (KH.top t)) [] [] (He.fAd K (x, none)) fd ∧ mg x = some (.ref (He.fAd K (x, none))) ∧ Binds K fd ps [] := by
  obtain ⟨fd, F⟩ := c.def_ i hd
  exact ⟨fd, F, He.glo_ok X G (c.fact i hf), FunD.bindsN F hb⟩
theorem defOk_of {e : En} (hc : chkEn e = true) (hl : (e.N.take e.k).length = e.k) (hlam : e.lam = true → e.x = Str.ofString "sets_of") (h : ∃ fd, FunD K e.x e.x (defArgs (KH.top e.at_)) (defBody (KH.top e.at_)) (defScope (KH.top e.at_)) [] [] (He.fAd K (e.x, none)) fd ∧ mg e.x = some (.ref (He.fAd K (e.x, none))) ∧ Binds K fd (e.N.take e.k) []) : DefOk K mg fsT e.x e.k e.df := by
  obtain ⟨fd, F, hm, hb⟩ := h
  simp only [chkEn, Bool.and_eq_true, decide_eq_true_eq] at hc
  obtain ⟨⟨⟨h1, h2⟩, h3⟩, h4⟩ := hc
  refine ⟨⟨_, _, _, _, fd, _, e.N, e.lam, F, hm, hb, hl, C8.fnScope_by h1, h2, h3, h4, fun z => ⟨hlam z, ?_⟩⟩⟩
  rw [hlam z]
theorem bd_0 : BindP "is_number" 7 ["thing"] := fun _ _ _ _ _ _ us hl => match us, hl with | [_], _ => rfl
theorem bd_1 : BindP "is_count" 8 ["thing"] := fun _ _ _ _ _ _ us hl => match us, hl with | [_], _ => rfl
theorem bd_2 : BindP "is_tuple_of" 9 ["thing", "size"] := fun _ _ _ _ _ _ us hl => match us, hl with | [_, _], _ => rfl
theorem bd_3 : BindP "is_fraction" 10 ["thing"] := fun _ _ _ _ _ _ us hl => match us, hl with | [_], _ => rfl
theorem bd_4 : BindP "tupled" 11 ["thing"] := fun _ _ _ _ _ _ us hl => match us, hl with | [_], _ => rfl
theorem bd_5 : BindP "rises" 12 ["thing"] := fun _ _ _ _ _ _ us hl => match us, hl with | [_], _ => rfl
theorem bd_6 : BindP "set_of" 13 ["things"] := fun _ _ _ _ _ _ us hl => match us, hl with | [_], _ => rfl
theorem bd_7 : BindP "is_number_set" 14 ["thing"] := fun _ _ _ _ _ _ us hl => match us, hl with | [_], _ => rfl
theorem bd_8 : BindP "sets_of" 15 ["things"] := fun _ _ _ _ _ _ us hl => match us, hl with | [_], _ => rfl
theorem bd_9 : BindP "fraction_of" 16 ["top", "bottom"] := fun _ _ _ _ _ _ us hl => match us, hl with | [_, _], _ => rfl
theorem bd_10 : BindP "added" 17 ["one", "other"] := fun _ _ _ _ _ _ us hl => match us, hl with | [_, _], _ => rfl
theorem bd_11 : BindP "negative" 18 ["one"] := fun _ _ _ _ _ _ us hl => match us, hl with | [_], _ => rfl
theorem bd_12 : BindP "lessened" 19 ["one", "other"] := fun _ _ _ _ _ _ us hl => match us, hl with | [_, _], _ => rfl
theorem bd_13 : BindP "multiplied" 20 ["one", "other"] := fun _ _ _ _ _ _ us hl => match us, hl with | [_, _], _ => rfl
theorem bd_14 : BindP "parted" 21 ["one", "other"] := fun _ _ _ _ _ _ us hl => match us, hl with | [_, _], _ => rfl
theorem bd_15 : BindP "row_added" 22 ["row", "other"] := fun _ _ _ _ _ _ us hl => match us, hl with | [_, _], _ => rfl
theorem bd_16 : BindP "row_times" 23 ["row", "much"] := fun _ _ _ _ _ _ us hl => match us, hl with | [_, _], _ => rfl
theorem bd_17 : BindP "columns_of" 24 ["rows", "size"] := fun _ _ _ _ _ _ us hl => match us, hl with | [_, _], _ => rfl
theorem bd_18 : BindP "is_nothing" 25 ["row"] := fun _ _ _ _ _ _ us hl => match us, hl with | [_], _ => rfl
theorem bd_19 : BindP "lead_of" 27 ["row"] := fun _ _ _ _ _ _ us hl => match us, hl with | [_], _ => rfl
theorem bd_20 : BindP "lessened_by" 28 ["rows", "row"] := fun _ _ _ _ _ _ us hl => match us, hl with | [_, _], _ => rfl
theorem bd_21 : BindP "reduced_rows" 29 ["rows"] := fun _ _ _ _ _ _ us hl => match us, hl with | [_], _ => rfl
theorem bd_22 : BindP "rank" 30 ["table"] := fun _ _ _ _ _ _ us hl => match us, hl with | [_], _ => rfl
theorem bd_23 : BindP "det" 31 ["table"] := fun _ _ _ _ _ _ us hl => match us, hl with | [_], _ => rfl
theorem bd_24 : BindP "check_places" 32 ["places", "many"] := fun _ _ _ _ _ _ us hl => match us, hl with | [_, _], _ => rfl
theorem bd_25 : BindP "is_sheet" 34 ["thing"] := fun _ _ _ _ _ _ us hl => match us, hl with | [_], _ => rfl
theorem bd_26 : BindP "unknown_of" 35 ["sheet"] := fun _ _ _ _ _ _ us hl => match us, hl with | [_], _ => rfl
theorem bd_27 : BindP "with_part" 36 ["sheet", "row", "column", "much"] := fun _ _ _ _ _ _ us hl => match us, hl with | [_, _, _, _], _ => rfl
theorem bd_28 : BindP "with_numbers" 37 ["sheet", "numbers"] := fun _ _ _ _ _ _ us hl => match us, hl with | [_, _], _ => rfl
theorem bd_29 : BindP "crossed" 38 ["sheet", "rows", "columns"] := fun _ _ _ _ _ _ us hl => match us, hl with | [_, _, _], _ => rfl
theorem bd_30 : BindP "told_columns" 39 ["sheet", "rows"] := fun _ _ _ _ _ _ us hl => match us, hl with | [_, _], _ => rfl
theorem bd_31 : BindP "count_at" 40 ["sheet", "rows", "columns"] := fun _ _ _ _ _ _ us hl => match us, hl with | [_, _, _], _ => rfl
theorem bd_32 : BindP "count_of" 41 ["sheet", "rows", "columns"] := fun _ _ _ _ _ _ us hl => match us, hl with | [_, _, _], _ => rfl
theorem bd_33 : BindP "counts_by_rows" 42 ["sheet"] := fun _ _ _ _ _ _ us hl => match us, hl with | [_], _ => rfl
theorem bd_34 : BindP "greatest_of" 43 ["sheet"] := fun _ _ _ _ _ _ us hl => match us, hl with | [_], _ => rfl
theorem bd_35 : BindP "greatest_rank" 44 ["sheet"] := fun _ _ _ _ _ _ us hl => match us, hl with | [_], _ => rfl
theorem bd_36 : BindP "tight_by_rows" 45 ["sheet"] := fun _ _ _ _ _ _ us hl => match us, hl with | [_], _ => rfl
theorem bd_37 : BindP "tight_windows" 46 ["sheet"] := fun _ _ _ _ _ _ us hl => match us, hl with | [_], _ => rfl
theorem bd_38 : BindP "best_filling" 47 ["sheet"] := fun _ _ _ _ _ _ us hl => match us, hl with | [_], _ => rfl
theorem bd_39 : BindP "rank_paper" 48 ["sheet", "number"] := fun _ _ _ _ _ _ us hl => match us, hl with | [_, _], _ => rfl
theorem bd_40 : BindP "is_filling" 49 ["sheet", "thing"] := fun _ _ _ _ _ _ us hl => match us, hl with | [_, _], _ => rfl
theorem bd_41 : BindP "is_window" 50 ["sheet", "thing"] := fun _ _ _ _ _ _ us hl => match us, hl with | [_, _], _ => rfl
theorem bd_42 : BindP "is_rank_paper" 51 ["sheet", "number", "thing"] := fun _ _ _ _ _ _ us hl => match us, hl with | [_, _, _], _ => rfl
theorem bd_43 : BindP "rank_without" 52 ["sheet", "row"] := fun _ _ _ _ _ _ us hl => match us, hl with | [_, _], _ => rfl
theorem bd_44 : BindP "rows_needed" 53 ["sheet", "goal"] := fun _ _ _ _ _ _ us hl => match us, hl with | [_, _], _ => rfl
theorem bd_45 : BindP "needed" 54 ["sheet"] := fun _ _ _ _ _ _ us hl => match us, hl with | [_], _ => rfl
theorem bd_46 : BindP "beside" 55 ["sheet", "row", "column"] := fun _ _ _ _ _ _ us hl => match us, hl with | [_, _, _], _ => rfl
theorem bd_47 : BindP "bent_at" 56 ["sheet", "row", "column"] := fun _ _ _ _ _ _ us hl => match us, hl with | [_, _, _], _ => rfl
theorem bd_48 : BindP "low_filling" 57 ["sheet"] := fun _ _ _ _ _ _ us hl => match us, hl with | [_], _ => rfl
theorem bd_49 : BindP "_law_box" 59 ["_law_script", "_law_k"] := fun _ _ _ _ _ _ us hl => match us, hl with | [_, _], _ => rfl
theorem bd_50 : BindP "_law_take" 60 ["_law_tin", "_law_below_so"] := fun _ _ _ _ _ _ us hl => match us, hl with | [_, _], _ => rfl
theorem bd_51 : BindP "_law_cells" 61 ["_law_script", "_law_most_so"] := fun _ _ _ _ _ _ us hl => match us, hl with | [_, _], _ => rfl
theorem bd_52 : BindP "_law_of" 62 ["_law_tin", "_law_goods_so"] := fun _ _ _ _ _ _ us hl => match us, hl with | [_, _], _ => rfl
theorem bd_53 : BindP "_law_lists" 63 ["_law_matter"] := fun _ _ _ _ _ _ us hl => match us, hl with | [_], _ => rfl
theorem bd_54 : BindP "_law_same" 64 ["_law_got", "_law_due"] := fun _ _ _ _ _ _ us hl => match us, hl with | [_, _], _ => rfl
theorem bd_55 : BindP "_law_gcd" 65 ["_law_one_so", "_law_two_so"] := fun _ _ _ _ _ _ us hl => match us, hl with | [_, _], _ => rfl
theorem bd_56 : BindP "_law_fr" 66 ["_law_top_so", "_law_base_so"] := fun _ _ _ _ _ _ us hl => match us, hl with | [_, _], _ => rfl
theorem bd_57 : BindP "_law_less_by" 67 ["_law_one_so", "_law_two_so"] := fun _ _ _ _ _ _ us hl => match us, hl with | [_, _], _ => rfl
theorem bd_58 : BindP "_law_mul" 68 ["_law_one_so", "_law_two_so"] := fun _ _ _ _ _ _ us hl => match us, hl with | [_, _], _ => rfl
theorem bd_59 : BindP "_law_is_fr" 69 ["_law_own"] := fun _ _ _ _ _ _ us hl => match us, hl with | [_], _ => rfl
theorem bd_60 : BindP "_law_is_row" 70 ["_law_own", "_law_size_so"] := fun _ _ _ _ _ _ us hl => match us, hl with | [_, _], _ => rfl
theorem bd_61 : BindP "_law_columns" 71 ["_law_rows_so", "_law_size_so"] := fun _ _ _ _ _ _ us hl => match us, hl with | [_, _], _ => rfl
theorem bd_62 : BindP "_law_steps" 72 ["_law_rows_so"] := fun _ _ _ _ _ _ us hl => match us, hl with | [_], _ => rfl
theorem bd_63 : BindP "_law_over_any" 73 ["_law_one_so", "_law_two_so"] := fun _ _ _ _ _ _ us hl => match us, hl with | [_, _], _ => rfl
theorem bd_64 : BindP "_law_struck" 74 ["_law_row_so", "_law_head_so", "_law_k"] := fun _ _ _ _ _ _ us hl => match us, hl with | [_, _, _], _ => rfl
theorem bd_65 : BindP "_law_rank" 75 ["_law_rows_so"] := fun _ _ _ _ _ _ us hl => match us, hl with | [_], _ => rfl
theorem bd_66 : BindP "_law_lots" 76 ["_law_goods_so"] := fun _ _ _ _ _ _ us hl => match us, hl with | [_], _ => rfl
theorem bd_67 : BindP "_law_holes" 77 ["_law_sheet_so"] := fun _ _ _ _ _ _ us hl => match us, hl with | [_], _ => rfl
theorem bd_68 : BindP "_law_cross" 78 ["_law_sheet_so", "_law_rows_so", "_law_columns_so"] := fun _ _ _ _ _ _ us hl => match us, hl with | [_, _, _], _ => rfl
theorem bd_69 : BindP "_law_is_told" 79 ["_law_sheet_so", "_law_rows_so", "_law_columns_so"] := fun _ _ _ _ _ _ us hl => match us, hl with | [_, _, _], _ => rfl
theorem bd_70 : BindP "_law_count" 80 ["_law_sheet_so", "_law_rows_so", "_law_columns_so"] := fun _ _ _ _ _ _ us hl => match us, hl with | [_, _, _], _ => rfl
theorem bd_71 : BindP "_law_tight_due" 81 ["_law_sheet_so", "_law_windows_so"] := fun _ _ _ _ _ _ us hl => match us, hl with | [_, _], _ => rfl
theorem bd_72 : BindP "_law_is_filling" 82 ["_law_sheet_so", "_law_own"] := fun _ _ _ _ _ _ us hl => match us, hl with | [_, _], _ => rfl
theorem bd_73 : BindP "_law_is_window" 83 ["_law_sheet_so", "_law_own"] := fun _ _ _ _ _ _ us hl => match us, hl with | [_, _], _ => rfl
theorem bd_74 : BindP "_law_fits" 84 ["_law_sheet_so", "_law_number_so", "_law_own"] := fun _ _ _ _ _ _ us hl => match us, hl with | [_, _, _], _ => rfl
theorem bd_75 : BindP "_law_without" 85 ["_law_sheet_so", "_law_j"] := fun _ _ _ _ _ _ us hl => match us, hl with | [_, _], _ => rfl
theorem bd_76 : BindP "_law_most_pairs" 86 ["_law_sheet_so", "_law_j", "_law_used_so"] := fun _ _ _ _ _ _ us hl => match us, hl with | [_, _, _], _ => rfl
theorem bd_77 : BindP "_law_plain_windows" 87 ["_law_sheet_so"] := fun _ _ _ _ _ _ us hl => match us, hl with | [_], _ => rfl
theorem bd_78 : BindP "_law_pairs_needed" 88 ["_law_sheet_so"] := fun _ _ _ _ _ _ us hl => match us, hl with | [_], _ => rfl
theorem bd_79 : BindP "_law_case_right" 89 ["_law_tin", "_law_sheet_so"] := fun _ _ _ _ _ _ us hl => match us, hl with | [_, _], _ => rfl
theorem bd_80 : BindP "_law_by_hand_right" 90 [] := fun _ _ _ _ _ _ us hl => match us, hl with | [], _ => rfl
theorem bd_81 : BindP "law" 91 ["_law_script"] := fun _ _ _ _ _ _ us hl => match us, hl with | [_], _ => rfl
theorem ok_0 (c : He.SaysD KH.fa KH.fn K) (X : K.In h) (G : h.Ns mainGlobals mg) (he : ∀ e, ents[0]? = some e → chkEn e = true) : DefOk K mg fsT "is_number" 1 df_0 := defOk_of (K := K) (mg := mg) (e := ⟨7, "is_number", 1, nms_0, df_0, false⟩) (he _ (by rfl)) rfl (fun z => by first | rfl | cases z) (fun_of c X G 0 rfl rfl bd_0)
theorem ok_1 (c : He.SaysD KH.fa KH.fn K) (X : K.In h) (G : h.Ns mainGlobals mg) (he : ∀ e, ents[1]? = some e → chkEn e = true) : DefOk K mg fsT "is_count" 1 df_1 := defOk_of (K := K) (mg := mg) (e := ⟨8, "is_count", 1, nms_1, df_1, false⟩) (he _ (by rfl)) rfl (fun z => by first | rfl | cases z) (fun_of c X G 1 rfl rfl bd_1)
theorem ok_2 (c : He.SaysD KH.fa KH.fn K) (X : K.In h) (G : h.Ns mainGlobals mg) (he : ∀ e, ents[2]? = some e → chkEn e = true) : DefOk K mg fsT "is_tuple_of" 2 df_2 := defOk_of (K := K) (mg := mg) (e := ⟨9, "is_tuple_of", 2, nms_2, df_2, false⟩) (he _ (by rfl)) rfl (fun z => by first | rfl | cases z) (fun_of c X G 2 rfl rfl bd_2)
theorem ok_3 (c : He.SaysD KH.fa KH.fn K) (X : K.In h) (G : h.Ns mainGlobals mg) (he : ∀ e, ents[3]? = some e → chkEn e = true) : DefOk K mg fsT "is_fraction" 1 df_3 := defOk_of (K := K) (mg := mg) (e := ⟨10, "is_fraction", 1, nms_3, df_3, false⟩) (he _ (by rfl)) rfl (fun z => by first | rfl | cases z) (fun_of c X G 3 rfl rfl bd_3)
theorem ok_4 (c : He.SaysD KH.fa KH.fn K) (X : K.In h) (G : h.Ns mainGlobals mg) (he : ∀ e, ents[4]? = some e → chkEn e = true) : DefOk K mg fsT "tupled" 1 df_4 := defOk_of (K := K) (mg := mg) (e := ⟨11, "tupled", 1, nms_4, df_4, false⟩) (he _ (by rfl)) rfl (fun z => by first | rfl | cases z) (fun_of c X G 4 rfl rfl bd_4)
theorem ok_5 (c : He.SaysD KH.fa KH.fn K) (X : K.In h) (G : h.Ns mainGlobals mg) (he : ∀ e, ents[5]? = some e → chkEn e = true) : DefOk K mg fsT "rises" 1 df_5 := defOk_of (K := K) (mg := mg) (e := ⟨12, "rises", 1, nms_5, df_5, false⟩) (he _ (by rfl)) rfl (fun z => by first | rfl | cases z) (fun_of c X G 5 rfl rfl bd_5)
theorem ok_6 (c : He.SaysD KH.fa KH.fn K) (X : K.In h) (G : h.Ns mainGlobals mg) (he : ∀ e, ents[6]? = some e → chkEn e = true) : DefOk K mg fsT "set_of" 1 df_6 := defOk_of (K := K) (mg := mg) (e := ⟨13, "set_of", 1, nms_6, df_6, false⟩) (he _ (by rfl)) rfl (fun z => by first | rfl | cases z) (fun_of c X G 6 rfl rfl bd_6)
theorem ok_7 (c : He.SaysD KH.fa KH.fn K) (X : K.In h) (G : h.Ns mainGlobals mg) (he : ∀ e, ents[7]? = some e → chkEn e = true) : DefOk K mg fsT "is_number_set" 1 df_7 := defOk_of (K := K) (mg := mg) (e := ⟨14, "is_number_set", 1, nms_7, df_7, false⟩) (he _ (by rfl)) rfl (fun z => by first | rfl | cases z) (fun_of c X G 7 rfl rfl bd_7)
theorem ok_8 (c : He.SaysD KH.fa KH.fn K) (X : K.In h) (G : h.Ns mainGlobals mg) (he : ∀ e, ents[8]? = some e → chkEn e = true) : DefOk K mg fsT "sets_of" 1 df_8 := defOk_of (K := K) (mg := mg) (e := ⟨15, "sets_of", 1, nms_8, df_8, true⟩) (he _ (by rfl)) rfl (fun z => by first | rfl | cases z) (fun_of c X G 8 rfl rfl bd_8)
theorem ok_9 (c : He.SaysD KH.fa KH.fn K) (X : K.In h) (G : h.Ns mainGlobals mg) (he : ∀ e, ents[9]? = some e → chkEn e = true) : DefOk K mg fsT "fraction_of" 2 df_9 := defOk_of (K := K) (mg := mg) (e := ⟨16, "fraction_of", 2, nms_9, df_9, false⟩) (he _ (by rfl)) rfl (fun z => by first | rfl | cases z) (fun_of c X G 9 rfl rfl bd_9)
theorem ok_10 (c : He.SaysD KH.fa KH.fn K) (X : K.In h) (G : h.Ns mainGlobals mg) (he : ∀ e, ents[10]? = some e → chkEn e = true) : DefOk K mg fsT "added" 2 df_10 := defOk_of (K := K) (mg := mg) (e := ⟨17, "added", 2, nms_10, df_10, false⟩) (he _ (by rfl)) rfl (fun z => by first | rfl | cases z) (fun_of c X G 10 rfl rfl bd_10)
theorem ok_11 (c : He.SaysD KH.fa KH.fn K) (X : K.In h) (G : h.Ns mainGlobals mg) (he : ∀ e, ents[11]? = some e → chkEn e = true) : DefOk K mg fsT "negative" 1 df_11 := defOk_of (K := K) (mg := mg) (e := ⟨18, "negative", 1, nms_11, df_11, false⟩) (he _ (by rfl)) rfl (fun z => by first | rfl | cases z) (fun_of c X G 11 rfl rfl bd_11)
theorem ok_12 (c : He.SaysD KH.fa KH.fn K) (X : K.In h) (G : h.Ns mainGlobals mg) (he : ∀ e, ents[12]? = some e → chkEn e = true) : DefOk K mg fsT "lessened" 2 df_12 := defOk_of (K := K) (mg := mg) (e := ⟨19, "lessened", 2, nms_12, df_12, false⟩) (he _ (by rfl)) rfl (fun z => by first | rfl | cases z) (fun_of c X G 12 rfl rfl bd_12)
theorem ok_13 (c : He.SaysD KH.fa KH.fn K) (X : K.In h) (G : h.Ns mainGlobals mg) (he : ∀ e, ents[13]? = some e → chkEn e = true) : DefOk K mg fsT "multiplied" 2 df_13 := defOk_of (K := K) (mg := mg) (e := ⟨20, "multiplied", 2, nms_13, df_13, false⟩) (he _ (by rfl)) rfl (fun z => by first | rfl | cases z) (fun_of c X G 13 rfl rfl bd_13)
theorem ok_14 (c : He.SaysD KH.fa KH.fn K) (X : K.In h) (G : h.Ns mainGlobals mg) (he : ∀ e, ents[14]? = some e → chkEn e = true) : DefOk K mg fsT "parted" 2 df_14 := defOk_of (K := K) (mg := mg) (e := ⟨21, "parted", 2, nms_14, df_14, false⟩) (he _ (by rfl)) rfl (fun z => by first | rfl | cases z) (fun_of c X G 14 rfl rfl bd_14)
theorem ok_15 (c : He.SaysD KH.fa KH.fn K) (X : K.In h) (G : h.Ns mainGlobals mg) (he : ∀ e, ents[15]? = some e → chkEn e = true) : DefOk K mg fsT "row_added" 2 df_15 := defOk_of (K := K) (mg := mg) (e := ⟨22, "row_added", 2, nms_15, df_15, false⟩) (he _ (by rfl)) rfl (fun z => by first | rfl | cases z) (fun_of c X G 15 rfl rfl bd_15)
theorem ok_16 (c : He.SaysD KH.fa KH.fn K) (X : K.In h) (G : h.Ns mainGlobals mg) (he : ∀ e, ents[16]? = some e → chkEn e = true) : DefOk K mg fsT "row_times" 2 df_16 := defOk_of (K := K) (mg := mg) (e := ⟨23, "row_times", 2, nms_16, df_16, false⟩) (he _ (by rfl)) rfl (fun z => by first | rfl | cases z) (fun_of c X G 16 rfl rfl bd_16)
theorem ok_17 (c : He.SaysD KH.fa KH.fn K) (X : K.In h) (G : h.Ns mainGlobals mg) (he : ∀ e, ents[17]? = some e → chkEn e = true) : DefOk K mg fsT "columns_of" 2 df_17 := defOk_of (K := K) (mg := mg) (e := ⟨24, "columns_of", 2, nms_17, df_17, false⟩) (he _ (by rfl)) rfl (fun z => by first | rfl | cases z) (fun_of c X G 17 rfl rfl bd_17)
theorem ok_18 (c : He.SaysD KH.fa KH.fn K) (X : K.In h) (G : h.Ns mainGlobals mg) (he : ∀ e, ents[18]? = some e → chkEn e = true) : DefOk K mg fsT "is_nothing" 1 df_18 := defOk_of (K := K) (mg := mg) (e := ⟨25, "is_nothing", 1, nms_18, df_18, false⟩) (he _ (by rfl)) rfl (fun z => by first | rfl | cases z) (fun_of c X G 18 rfl rfl bd_18)
theorem ok_19 (c : He.SaysD KH.fa KH.fn K) (X : K.In h) (G : h.Ns mainGlobals mg) (he : ∀ e, ents[19]? = some e → chkEn e = true) : DefOk K mg fsT "lead_of" 1 df_19 := defOk_of (K := K) (mg := mg) (e := ⟨27, "lead_of", 1, nms_19, df_19, false⟩) (he _ (by rfl)) rfl (fun z => by first | rfl | cases z) (fun_of c X G 19 rfl rfl bd_19)
theorem ok_20 (c : He.SaysD KH.fa KH.fn K) (X : K.In h) (G : h.Ns mainGlobals mg) (he : ∀ e, ents[20]? = some e → chkEn e = true) : DefOk K mg fsT "lessened_by" 2 df_20 := defOk_of (K := K) (mg := mg) (e := ⟨28, "lessened_by", 2, nms_20, df_20, false⟩) (he _ (by rfl)) rfl (fun z => by first | rfl | cases z) (fun_of c X G 20 rfl rfl bd_20)
theorem ok_21 (c : He.SaysD KH.fa KH.fn K) (X : K.In h) (G : h.Ns mainGlobals mg) (he : ∀ e, ents[21]? = some e → chkEn e = true) : DefOk K mg fsT "reduced_rows" 1 df_21 := defOk_of (K := K) (mg := mg) (e := ⟨29, "reduced_rows", 1, nms_21, df_21, false⟩) (he _ (by rfl)) rfl (fun z => by first | rfl | cases z) (fun_of c X G 21 rfl rfl bd_21)
theorem ok_22 (c : He.SaysD KH.fa KH.fn K) (X : K.In h) (G : h.Ns mainGlobals mg) (he : ∀ e, ents[22]? = some e → chkEn e = true) : DefOk K mg fsT "rank" 1 df_22 := defOk_of (K := K) (mg := mg) (e := ⟨30, "rank", 1, nms_22, df_22, false⟩) (he _ (by rfl)) rfl (fun z => by first | rfl | cases z) (fun_of c X G 22 rfl rfl bd_22)
theorem ok_23 (c : He.SaysD KH.fa KH.fn K) (X : K.In h) (G : h.Ns mainGlobals mg) (he : ∀ e, ents[23]? = some e → chkEn e = true) : DefOk K mg fsT "det" 1 df_23 := defOk_of (K := K) (mg := mg) (e := ⟨31, "det", 1, nms_23, df_23, false⟩) (he _ (by rfl)) rfl (fun z => by first | rfl | cases z) (fun_of c X G 23 rfl rfl bd_23)
theorem ok_24 (c : He.SaysD KH.fa KH.fn K) (X : K.In h) (G : h.Ns mainGlobals mg) (he : ∀ e, ents[24]? = some e → chkEn e = true) : DefOk K mg fsT "check_places" 2 df_24 := defOk_of (K := K) (mg := mg) (e := ⟨32, "check_places", 2, nms_24, df_24, false⟩) (he _ (by rfl)) rfl (fun z => by first | rfl | cases z) (fun_of c X G 24 rfl rfl bd_24)
theorem ok_25 (c : He.SaysD KH.fa KH.fn K) (X : K.In h) (G : h.Ns mainGlobals mg) (he : ∀ e, ents[25]? = some e → chkEn e = true) : DefOk K mg fsT "is_sheet" 1 df_25 := defOk_of (K := K) (mg := mg) (e := ⟨34, "is_sheet", 1, nms_25, df_25, false⟩) (he _ (by rfl)) rfl (fun z => by first | rfl | cases z) (fun_of c X G 25 rfl rfl bd_25)
theorem ok_26 (c : He.SaysD KH.fa KH.fn K) (X : K.In h) (G : h.Ns mainGlobals mg) (he : ∀ e, ents[26]? = some e → chkEn e = true) : DefOk K mg fsT "unknown_of" 1 df_26 := defOk_of (K := K) (mg := mg) (e := ⟨35, "unknown_of", 1, nms_26, df_26, false⟩) (he _ (by rfl)) rfl (fun z => by first | rfl | cases z) (fun_of c X G 26 rfl rfl bd_26)
theorem ok_27 (c : He.SaysD KH.fa KH.fn K) (X : K.In h) (G : h.Ns mainGlobals mg) (he : ∀ e, ents[27]? = some e → chkEn e = true) : DefOk K mg fsT "with_part" 4 df_27 := defOk_of (K := K) (mg := mg) (e := ⟨36, "with_part", 4, nms_27, df_27, false⟩) (he _ (by rfl)) rfl (fun z => by first | rfl | cases z) (fun_of c X G 27 rfl rfl bd_27)
theorem ok_28 (c : He.SaysD KH.fa KH.fn K) (X : K.In h) (G : h.Ns mainGlobals mg) (he : ∀ e, ents[28]? = some e → chkEn e = true) : DefOk K mg fsT "with_numbers" 2 df_28 := defOk_of (K := K) (mg := mg) (e := ⟨37, "with_numbers", 2, nms_28, df_28, false⟩) (he _ (by rfl)) rfl (fun z => by first | rfl | cases z) (fun_of c X G 28 rfl rfl bd_28)
theorem ok_29 (c : He.SaysD KH.fa KH.fn K) (X : K.In h) (G : h.Ns mainGlobals mg) (he : ∀ e, ents[29]? = some e → chkEn e = true) : DefOk K mg fsT "crossed" 3 df_29 := defOk_of (K := K) (mg := mg) (e := ⟨38, "crossed", 3, nms_29, df_29, false⟩) (he _ (by rfl)) rfl (fun z => by first | rfl | cases z) (fun_of c X G 29 rfl rfl bd_29)
theorem ok_30 (c : He.SaysD KH.fa KH.fn K) (X : K.In h) (G : h.Ns mainGlobals mg) (he : ∀ e, ents[30]? = some e → chkEn e = true) : DefOk K mg fsT "told_columns" 2 df_30 := defOk_of (K := K) (mg := mg) (e := ⟨39, "told_columns", 2, nms_30, df_30, false⟩) (he _ (by rfl)) rfl (fun z => by first | rfl | cases z) (fun_of c X G 30 rfl rfl bd_30)
theorem ok_31 (c : He.SaysD KH.fa KH.fn K) (X : K.In h) (G : h.Ns mainGlobals mg) (he : ∀ e, ents[31]? = some e → chkEn e = true) : DefOk K mg fsT "count_at" 3 df_31 := defOk_of (K := K) (mg := mg) (e := ⟨40, "count_at", 3, nms_31, df_31, false⟩) (he _ (by rfl)) rfl (fun z => by first | rfl | cases z) (fun_of c X G 31 rfl rfl bd_31)
theorem ok_32 (c : He.SaysD KH.fa KH.fn K) (X : K.In h) (G : h.Ns mainGlobals mg) (he : ∀ e, ents[32]? = some e → chkEn e = true) : DefOk K mg fsT "count_of" 3 df_32 := defOk_of (K := K) (mg := mg) (e := ⟨41, "count_of", 3, nms_32, df_32, false⟩) (he _ (by rfl)) rfl (fun z => by first | rfl | cases z) (fun_of c X G 32 rfl rfl bd_32)
theorem ok_33 (c : He.SaysD KH.fa KH.fn K) (X : K.In h) (G : h.Ns mainGlobals mg) (he : ∀ e, ents[33]? = some e → chkEn e = true) : DefOk K mg fsT "counts_by_rows" 1 df_33 := defOk_of (K := K) (mg := mg) (e := ⟨42, "counts_by_rows", 1, nms_33, df_33, false⟩) (he _ (by rfl)) rfl (fun z => by first | rfl | cases z) (fun_of c X G 33 rfl rfl bd_33)
theorem ok_34 (c : He.SaysD KH.fa KH.fn K) (X : K.In h) (G : h.Ns mainGlobals mg) (he : ∀ e, ents[34]? = some e → chkEn e = true) : DefOk K mg fsT "greatest_of" 1 df_34 := defOk_of (K := K) (mg := mg) (e := ⟨43, "greatest_of", 1, nms_34, df_34, false⟩) (he _ (by rfl)) rfl (fun z => by first | rfl | cases z) (fun_of c X G 34 rfl rfl bd_34)
theorem ok_35 (c : He.SaysD KH.fa KH.fn K) (X : K.In h) (G : h.Ns mainGlobals mg) (he : ∀ e, ents[35]? = some e → chkEn e = true) : DefOk K mg fsT "greatest_rank" 1 df_35 := defOk_of (K := K) (mg := mg) (e := ⟨44, "greatest_rank", 1, nms_35, df_35, false⟩) (he _ (by rfl)) rfl (fun z => by first | rfl | cases z) (fun_of c X G 35 rfl rfl bd_35)
theorem ok_36 (c : He.SaysD KH.fa KH.fn K) (X : K.In h) (G : h.Ns mainGlobals mg) (he : ∀ e, ents[36]? = some e → chkEn e = true) : DefOk K mg fsT "tight_by_rows" 1 df_36 := defOk_of (K := K) (mg := mg) (e := ⟨45, "tight_by_rows", 1, nms_36, df_36, false⟩) (he _ (by rfl)) rfl (fun z => by first | rfl | cases z) (fun_of c X G 36 rfl rfl bd_36)
theorem ok_37 (c : He.SaysD KH.fa KH.fn K) (X : K.In h) (G : h.Ns mainGlobals mg) (he : ∀ e, ents[37]? = some e → chkEn e = true) : DefOk K mg fsT "tight_windows" 1 df_37 := defOk_of (K := K) (mg := mg) (e := ⟨46, "tight_windows", 1, nms_37, df_37, false⟩) (he _ (by rfl)) rfl (fun z => by first | rfl | cases z) (fun_of c X G 37 rfl rfl bd_37)
theorem ok_38 (c : He.SaysD KH.fa KH.fn K) (X : K.In h) (G : h.Ns mainGlobals mg) (he : ∀ e, ents[38]? = some e → chkEn e = true) : DefOk K mg fsT "best_filling" 1 df_38 := defOk_of (K := K) (mg := mg) (e := ⟨47, "best_filling", 1, nms_38, df_38, false⟩) (he _ (by rfl)) rfl (fun z => by first | rfl | cases z) (fun_of c X G 38 rfl rfl bd_38)
theorem ok_39 (c : He.SaysD KH.fa KH.fn K) (X : K.In h) (G : h.Ns mainGlobals mg) (he : ∀ e, ents[39]? = some e → chkEn e = true) : DefOk K mg fsT "rank_paper" 2 df_39 := defOk_of (K := K) (mg := mg) (e := ⟨48, "rank_paper", 2, nms_39, df_39, false⟩) (he _ (by rfl)) rfl (fun z => by first | rfl | cases z) (fun_of c X G 39 rfl rfl bd_39)
theorem ok_40 (c : He.SaysD KH.fa KH.fn K) (X : K.In h) (G : h.Ns mainGlobals mg) (he : ∀ e, ents[40]? = some e → chkEn e = true) : DefOk K mg fsT "is_filling" 2 df_40 := defOk_of (K := K) (mg := mg) (e := ⟨49, "is_filling", 2, nms_40, df_40, false⟩) (he _ (by rfl)) rfl (fun z => by first | rfl | cases z) (fun_of c X G 40 rfl rfl bd_40)
theorem ok_41 (c : He.SaysD KH.fa KH.fn K) (X : K.In h) (G : h.Ns mainGlobals mg) (he : ∀ e, ents[41]? = some e → chkEn e = true) : DefOk K mg fsT "is_window" 2 df_41 := defOk_of (K := K) (mg := mg) (e := ⟨50, "is_window", 2, nms_41, df_41, false⟩) (he _ (by rfl)) rfl (fun z => by first | rfl | cases z) (fun_of c X G 41 rfl rfl bd_41)
theorem ok_42 (c : He.SaysD KH.fa KH.fn K) (X : K.In h) (G : h.Ns mainGlobals mg) (he : ∀ e, ents[42]? = some e → chkEn e = true) : DefOk K mg fsT "is_rank_paper" 3 df_42 := defOk_of (K := K) (mg := mg) (e := ⟨51, "is_rank_paper", 3, nms_42, df_42, false⟩) (he _ (by rfl)) rfl (fun z => by first | rfl | cases z) (fun_of c X G 42 rfl rfl bd_42)
theorem ok_43 (c : He.SaysD KH.fa KH.fn K) (X : K.In h) (G : h.Ns mainGlobals mg) (he : ∀ e, ents[43]? = some e → chkEn e = true) : DefOk K mg fsT "rank_without" 2 df_43 := defOk_of (K := K) (mg := mg) (e := ⟨52, "rank_without", 2, nms_43, df_43, false⟩) (he _ (by rfl)) rfl (fun z => by first | rfl | cases z) (fun_of c X G 43 rfl rfl bd_43)
theorem ok_44 (c : He.SaysD KH.fa KH.fn K) (X : K.In h) (G : h.Ns mainGlobals mg) (he : ∀ e, ents[44]? = some e → chkEn e = true) : DefOk K mg fsT "rows_needed" 2 df_44 := defOk_of (K := K) (mg := mg) (e := ⟨53, "rows_needed", 2, nms_44, df_44, false⟩) (he _ (by rfl)) rfl (fun z => by first | rfl | cases z) (fun_of c X G 44 rfl rfl bd_44)
theorem ok_45 (c : He.SaysD KH.fa KH.fn K) (X : K.In h) (G : h.Ns mainGlobals mg) (he : ∀ e, ents[45]? = some e → chkEn e = true) : DefOk K mg fsT "needed" 1 df_45 := defOk_of (K := K) (mg := mg) (e := ⟨54, "needed", 1, nms_45, df_45, false⟩) (he _ (by rfl)) rfl (fun z => by first | rfl | cases z) (fun_of c X G 45 rfl rfl bd_45)
theorem ok_46 (c : He.SaysD KH.fa KH.fn K) (X : K.In h) (G : h.Ns mainGlobals mg) (he : ∀ e, ents[46]? = some e → chkEn e = true) : DefOk K mg fsT "beside" 3 df_46 := defOk_of (K := K) (mg := mg) (e := ⟨55, "beside", 3, nms_46, df_46, false⟩) (he _ (by rfl)) rfl (fun z => by first | rfl | cases z) (fun_of c X G 46 rfl rfl bd_46)
theorem ok_47 (c : He.SaysD KH.fa KH.fn K) (X : K.In h) (G : h.Ns mainGlobals mg) (he : ∀ e, ents[47]? = some e → chkEn e = true) : DefOk K mg fsT "bent_at" 3 df_47 := defOk_of (K := K) (mg := mg) (e := ⟨56, "bent_at", 3, nms_47, df_47, false⟩) (he _ (by rfl)) rfl (fun z => by first | rfl | cases z) (fun_of c X G 47 rfl rfl bd_47)
theorem ok_48 (c : He.SaysD KH.fa KH.fn K) (X : K.In h) (G : h.Ns mainGlobals mg) (he : ∀ e, ents[48]? = some e → chkEn e = true) : DefOk K mg fsT "low_filling" 1 df_48 := defOk_of (K := K) (mg := mg) (e := ⟨57, "low_filling", 1, nms_48, df_48, false⟩) (he _ (by rfl)) rfl (fun z => by first | rfl | cases z) (fun_of c X G 48 rfl rfl bd_48)
theorem ok_49 (c : He.SaysD KH.fa KH.fn K) (X : K.In h) (G : h.Ns mainGlobals mg) (he : ∀ e, ents[49]? = some e → chkEn e = true) : DefOk K mg fsT "_law_lists" 1 df_49 := defOk_of (K := K) (mg := mg) (e := ⟨63, "_law_lists", 1, nms_49, df_49, false⟩) (he _ (by rfl)) rfl (fun z => by first | rfl | cases z) (fun_of c X G 53 rfl rfl bd_53)
theorem ok_50 (c : He.SaysD KH.fa KH.fn K) (X : K.In h) (G : h.Ns mainGlobals mg) (he : ∀ e, ents[50]? = some e → chkEn e = true) : DefOk K mg fsT "_law_same" 2 df_50 := defOk_of (K := K) (mg := mg) (e := ⟨64, "_law_same", 2, nms_50, df_50, false⟩) (he _ (by rfl)) rfl (fun z => by first | rfl | cases z) (fun_of c X G 54 rfl rfl bd_54)
theorem ok_51 (c : He.SaysD KH.fa KH.fn K) (X : K.In h) (G : h.Ns mainGlobals mg) (he : ∀ e, ents[51]? = some e → chkEn e = true) : DefOk K mg fsT "_law_gcd" 2 df_51 := defOk_of (K := K) (mg := mg) (e := ⟨65, "_law_gcd", 2, nms_51, df_51, false⟩) (he _ (by rfl)) rfl (fun z => by first | rfl | cases z) (fun_of c X G 55 rfl rfl bd_55)
theorem ok_52 (c : He.SaysD KH.fa KH.fn K) (X : K.In h) (G : h.Ns mainGlobals mg) (he : ∀ e, ents[52]? = some e → chkEn e = true) : DefOk K mg fsT "_law_fr" 2 df_52 := defOk_of (K := K) (mg := mg) (e := ⟨66, "_law_fr", 2, nms_52, df_52, false⟩) (he _ (by rfl)) rfl (fun z => by first | rfl | cases z) (fun_of c X G 56 rfl rfl bd_56)
theorem ok_53 (c : He.SaysD KH.fa KH.fn K) (X : K.In h) (G : h.Ns mainGlobals mg) (he : ∀ e, ents[53]? = some e → chkEn e = true) : DefOk K mg fsT "_law_less_by" 2 df_53 := defOk_of (K := K) (mg := mg) (e := ⟨67, "_law_less_by", 2, nms_53, df_53, false⟩) (he _ (by rfl)) rfl (fun z => by first | rfl | cases z) (fun_of c X G 57 rfl rfl bd_57)
theorem ok_54 (c : He.SaysD KH.fa KH.fn K) (X : K.In h) (G : h.Ns mainGlobals mg) (he : ∀ e, ents[54]? = some e → chkEn e = true) : DefOk K mg fsT "_law_mul" 2 df_54 := defOk_of (K := K) (mg := mg) (e := ⟨68, "_law_mul", 2, nms_54, df_54, false⟩) (he _ (by rfl)) rfl (fun z => by first | rfl | cases z) (fun_of c X G 58 rfl rfl bd_58)
theorem ok_55 (c : He.SaysD KH.fa KH.fn K) (X : K.In h) (G : h.Ns mainGlobals mg) (he : ∀ e, ents[55]? = some e → chkEn e = true) : DefOk K mg fsT "_law_is_fr" 1 df_55 := defOk_of (K := K) (mg := mg) (e := ⟨69, "_law_is_fr", 1, nms_55, df_55, false⟩) (he _ (by rfl)) rfl (fun z => by first | rfl | cases z) (fun_of c X G 59 rfl rfl bd_59)
theorem ok_56 (c : He.SaysD KH.fa KH.fn K) (X : K.In h) (G : h.Ns mainGlobals mg) (he : ∀ e, ents[56]? = some e → chkEn e = true) : DefOk K mg fsT "_law_is_row" 2 df_56 := defOk_of (K := K) (mg := mg) (e := ⟨70, "_law_is_row", 2, nms_56, df_56, false⟩) (he _ (by rfl)) rfl (fun z => by first | rfl | cases z) (fun_of c X G 60 rfl rfl bd_60)
theorem ok_57 (c : He.SaysD KH.fa KH.fn K) (X : K.In h) (G : h.Ns mainGlobals mg) (he : ∀ e, ents[57]? = some e → chkEn e = true) : DefOk K mg fsT "_law_columns" 2 df_57 := defOk_of (K := K) (mg := mg) (e := ⟨71, "_law_columns", 2, nms_57, df_57, false⟩) (he _ (by rfl)) rfl (fun z => by first | rfl | cases z) (fun_of c X G 61 rfl rfl bd_61)
theorem ok_58 (c : He.SaysD KH.fa KH.fn K) (X : K.In h) (G : h.Ns mainGlobals mg) (he : ∀ e, ents[58]? = some e → chkEn e = true) : DefOk K mg fsT "_law_steps" 1 df_58 := defOk_of (K := K) (mg := mg) (e := ⟨72, "_law_steps", 1, nms_58, df_58, false⟩) (he _ (by rfl)) rfl (fun z => by first | rfl | cases z) (fun_of c X G 62 rfl rfl bd_62)
theorem ok_59 (c : He.SaysD KH.fa KH.fn K) (X : K.In h) (G : h.Ns mainGlobals mg) (he : ∀ e, ents[59]? = some e → chkEn e = true) : DefOk K mg fsT "_law_over_any" 2 df_59 := defOk_of (K := K) (mg := mg) (e := ⟨73, "_law_over_any", 2, nms_59, df_59, false⟩) (he _ (by rfl)) rfl (fun z => by first | rfl | cases z) (fun_of c X G 63 rfl rfl bd_63)
theorem ok_60 (c : He.SaysD KH.fa KH.fn K) (X : K.In h) (G : h.Ns mainGlobals mg) (he : ∀ e, ents[60]? = some e → chkEn e = true) : DefOk K mg fsT "_law_struck" 3 df_60 := defOk_of (K := K) (mg := mg) (e := ⟨74, "_law_struck", 3, nms_60, df_60, false⟩) (he _ (by rfl)) rfl (fun z => by first | rfl | cases z) (fun_of c X G 64 rfl rfl bd_64)
theorem ok_61 (c : He.SaysD KH.fa KH.fn K) (X : K.In h) (G : h.Ns mainGlobals mg) (he : ∀ e, ents[61]? = some e → chkEn e = true) : DefOk K mg fsT "_law_rank" 1 df_61 := defOk_of (K := K) (mg := mg) (e := ⟨75, "_law_rank", 1, nms_61, df_61, false⟩) (he _ (by rfl)) rfl (fun z => by first | rfl | cases z) (fun_of c X G 65 rfl rfl bd_65)
theorem ok_62 (c : He.SaysD KH.fa KH.fn K) (X : K.In h) (G : h.Ns mainGlobals mg) (he : ∀ e, ents[62]? = some e → chkEn e = true) : DefOk K mg fsT "_law_lots" 1 df_62 := defOk_of (K := K) (mg := mg) (e := ⟨76, "_law_lots", 1, nms_62, df_62, false⟩) (he _ (by rfl)) rfl (fun z => by first | rfl | cases z) (fun_of c X G 66 rfl rfl bd_66)
theorem ok_63 (c : He.SaysD KH.fa KH.fn K) (X : K.In h) (G : h.Ns mainGlobals mg) (he : ∀ e, ents[63]? = some e → chkEn e = true) : DefOk K mg fsT "_law_holes" 1 df_63 := defOk_of (K := K) (mg := mg) (e := ⟨77, "_law_holes", 1, nms_63, df_63, false⟩) (he _ (by rfl)) rfl (fun z => by first | rfl | cases z) (fun_of c X G 67 rfl rfl bd_67)
theorem ok_64 (c : He.SaysD KH.fa KH.fn K) (X : K.In h) (G : h.Ns mainGlobals mg) (he : ∀ e, ents[64]? = some e → chkEn e = true) : DefOk K mg fsT "_law_cross" 3 df_64 := defOk_of (K := K) (mg := mg) (e := ⟨78, "_law_cross", 3, nms_64, df_64, false⟩) (he _ (by rfl)) rfl (fun z => by first | rfl | cases z) (fun_of c X G 68 rfl rfl bd_68)
theorem ok_65 (c : He.SaysD KH.fa KH.fn K) (X : K.In h) (G : h.Ns mainGlobals mg) (he : ∀ e, ents[65]? = some e → chkEn e = true) : DefOk K mg fsT "_law_is_told" 3 df_65 := defOk_of (K := K) (mg := mg) (e := ⟨79, "_law_is_told", 3, nms_65, df_65, false⟩) (he _ (by rfl)) rfl (fun z => by first | rfl | cases z) (fun_of c X G 69 rfl rfl bd_69)
theorem ok_66 (c : He.SaysD KH.fa KH.fn K) (X : K.In h) (G : h.Ns mainGlobals mg) (he : ∀ e, ents[66]? = some e → chkEn e = true) : DefOk K mg fsT "_law_count" 3 df_66 := defOk_of (K := K) (mg := mg) (e := ⟨80, "_law_count", 3, nms_66, df_66, false⟩) (he _ (by rfl)) rfl (fun z => by first | rfl | cases z) (fun_of c X G 70 rfl rfl bd_70)
theorem ok_67 (c : He.SaysD KH.fa KH.fn K) (X : K.In h) (G : h.Ns mainGlobals mg) (he : ∀ e, ents[67]? = some e → chkEn e = true) : DefOk K mg fsT "_law_tight_due" 2 df_67 := defOk_of (K := K) (mg := mg) (e := ⟨81, "_law_tight_due", 2, nms_67, df_67, false⟩) (he _ (by rfl)) rfl (fun z => by first | rfl | cases z) (fun_of c X G 71 rfl rfl bd_71)
theorem ok_68 (c : He.SaysD KH.fa KH.fn K) (X : K.In h) (G : h.Ns mainGlobals mg) (he : ∀ e, ents[68]? = some e → chkEn e = true) : DefOk K mg fsT "_law_is_filling" 2 df_68 := defOk_of (K := K) (mg := mg) (e := ⟨82, "_law_is_filling", 2, nms_68, df_68, false⟩) (he _ (by rfl)) rfl (fun z => by first | rfl | cases z) (fun_of c X G 72 rfl rfl bd_72)
theorem ok_69 (c : He.SaysD KH.fa KH.fn K) (X : K.In h) (G : h.Ns mainGlobals mg) (he : ∀ e, ents[69]? = some e → chkEn e = true) : DefOk K mg fsT "_law_is_window" 2 df_69 := defOk_of (K := K) (mg := mg) (e := ⟨83, "_law_is_window", 2, nms_69, df_69, false⟩) (he _ (by rfl)) rfl (fun z => by first | rfl | cases z) (fun_of c X G 73 rfl rfl bd_73)
theorem ok_70 (c : He.SaysD KH.fa KH.fn K) (X : K.In h) (G : h.Ns mainGlobals mg) (he : ∀ e, ents[70]? = some e → chkEn e = true) : DefOk K mg fsT "_law_fits" 3 df_70 := defOk_of (K := K) (mg := mg) (e := ⟨84, "_law_fits", 3, nms_70, df_70, false⟩) (he _ (by rfl)) rfl (fun z => by first | rfl | cases z) (fun_of c X G 74 rfl rfl bd_74)
theorem ok_71 (c : He.SaysD KH.fa KH.fn K) (X : K.In h) (G : h.Ns mainGlobals mg) (he : ∀ e, ents[71]? = some e → chkEn e = true) : DefOk K mg fsT "_law_without" 2 df_71 := defOk_of (K := K) (mg := mg) (e := ⟨85, "_law_without", 2, nms_71, df_71, false⟩) (he _ (by rfl)) rfl (fun z => by first | rfl | cases z) (fun_of c X G 75 rfl rfl bd_75)
theorem ok_72 (c : He.SaysD KH.fa KH.fn K) (X : K.In h) (G : h.Ns mainGlobals mg) (he : ∀ e, ents[72]? = some e → chkEn e = true) : DefOk K mg fsT "_law_most_pairs" 3 df_72 := defOk_of (K := K) (mg := mg) (e := ⟨86, "_law_most_pairs", 3, nms_72, df_72, false⟩) (he _ (by rfl)) rfl (fun z => by first | rfl | cases z) (fun_of c X G 76 rfl rfl bd_76)
theorem ok_73 (c : He.SaysD KH.fa KH.fn K) (X : K.In h) (G : h.Ns mainGlobals mg) (he : ∀ e, ents[73]? = some e → chkEn e = true) : DefOk K mg fsT "_law_plain_windows" 1 df_73 := defOk_of (K := K) (mg := mg) (e := ⟨87, "_law_plain_windows", 1, nms_73, df_73, false⟩) (he _ (by rfl)) rfl (fun z => by first | rfl | cases z) (fun_of c X G 77 rfl rfl bd_77)
theorem ok_74 (c : He.SaysD KH.fa KH.fn K) (X : K.In h) (G : h.Ns mainGlobals mg) (he : ∀ e, ents[74]? = some e → chkEn e = true) : DefOk K mg fsT "_law_pairs_needed" 1 df_74 := defOk_of (K := K) (mg := mg) (e := ⟨88, "_law_pairs_needed", 1, nms_74, df_74, false⟩) (he _ (by rfl)) rfl (fun z => by first | rfl | cases z) (fun_of c X G 78 rfl rfl bd_78)
theorem ok_75 (c : He.SaysD KH.fa KH.fn K) (X : K.In h) (G : h.Ns mainGlobals mg) (he : ∀ e, ents[75]? = some e → chkEn e = true) : DefOk K mg fsT "_law_by_hand_right" 0 df_75 := defOk_of (K := K) (mg := mg) (e := ⟨90, "_law_by_hand_right", 0, nms_75, df_75, false⟩) (he _ (by rfl)) rfl (fun z => by first | rfl | cases z) (fun_of c X G 80 rfl rfl bd_80)
theorem ents_ok (he : ∀ e ∈ ents, chkEn e = true) (c : He.SaysD KH.fa KH.fn K) (X : K.In h) (G : h.Ns mainGlobals mg) : ∀ e ∈ ents, DefOk K mg fsT e.x e.k e.df := by
  have hg : ∀ (i : Nat) e, ents[i]? = some e → chkEn e = true := fun i e q => he e (List.mem_of_getElem? q)
  show ∀ e ∈ ents0 ++ ents1 ++ ents2 ++ ents3, DefOk K mg fsT e.x e.k e.df
  simp only [List.forall_mem_append, ents0, ents1, ents2, ents3, List.forall_mem_cons]
  exact ⟨⟨⟨⟨ok_0 c X G (hg 0), ok_1 c X G (hg 1), ok_2 c X G (hg 2), ok_3 c X G (hg 3), ok_4 c X G (hg 4), ok_5 c X G (hg 5), ok_6 c X G (hg 6), ok_7 c X G (hg 7), ok_8 c X G (hg 8), ok_9 c X G (hg 9), ok_10 c X G (hg 10), ok_11 c X G (hg 11), ok_12 c X G (hg 12), ok_13 c X G (hg 13), ok_14 c X G (hg 14), ok_15 c X G (hg 15), ok_16 c X G (hg 16), ok_17 c X G (hg 17), ok_18 c X G (hg 18), ok_19 c X G (hg 19), ok_20 c X G (hg 20), ok_21 c X G (hg 21), ok_22 c X G (hg 22), ok_23 c X G (hg 23), ok_24 c X G (hg 24), fun _ z => nomatch z⟩, ⟨ok_25 c X G (hg 25), ok_26 c X G (hg 26), ok_27 c X G (hg 27), ok_28 c X G (hg 28), ok_29 c X G (hg 29), ok_30 c X G (hg 30), ok_31 c X G (hg 31), ok_32 c X G (hg 32), ok_33 c X G (hg 33), ok_34 c X G (hg 34), ok_35 c X G (hg 35), ok_36 c X G (hg 36), ok_37 c X G (hg 37), ok_38 c X G (hg 38), ok_39 c X G (hg 39), ok_40 c X G (hg 40), ok_41 c X G (hg 41), ok_42 c X G (hg 42), ok_43 c X G (hg 43), ok_44 c X G (hg 44), ok_45 c X G (hg 45), ok_46 c X G (hg 46), ok_47 c X G (hg 47), ok_48 c X G (hg 48), ok_49 c X G (hg 49), fun _ z => nomatch z⟩⟩, ⟨ok_50 c X G (hg 50), ok_51 c X G (hg 51), ok_52 c X G (hg 52), ok_53 c X G (hg 53), ok_54 c X G (hg 54), ok_55 c X G (hg 55), ok_56 c X G (hg 56), ok_57 c X G (hg 57), ok_58 c X G (hg 58), ok_59 c X G (hg 59), ok_60 c X G (hg 60), ok_61 c X G (hg 61), ok_62 c X G (hg 62), ok_63 c X G (hg 63), ok_64 c X G (hg 64), ok_65 c X G (hg 65), ok_66 c X G (hg 66), ok_67 c X G (hg 67), ok_68 c X G (hg 68), ok_69 c X G (hg 69), ok_70 c X G (hg 70), ok_71 c X G (hg 71), ok_72 c X G (hg 72), ok_73 c X G (hg 73), ok_74 c X G (hg 74), fun _ z => nomatch z⟩⟩, ⟨ok_75 c X G (hg 75), fun _ z => nomatch z⟩⟩
theorem tab_ents : tab = ents.map (·.df) := rfl
theorem fsT_ents : fsT = ents.map (fun e => (e.x, e.k)) := rfl
theorem tab_ok (he : ∀ e ∈ ents, chkEn e = true) (c : He.SaysD KH.fa KH.fn K) (X : K.In h) (G : h.Ns mainGlobals mg) (f : Nat) (x : Str) (m : Nat) (hf : fsT[f]? = some (x, m)) : ∃ df, tab[f]? = some df ∧ DefOk K mg fsT x m df := by
  rw [fsT_ents, List.getElem?_map] at hf
  obtain ⟨e, h1, h2⟩ := Option.map_eq_some_iff.mp hf
  cases h2
  exact ⟨e.df, by rw [tab_ents, List.getElem?_map, h1]; rfl, ents_ok he c X G e (List.mem_of_getElem? h1)⟩
end
end PV
end
section -- Wdx
/-! What is known of the module behind the head. -/
namespace PV
open PySem PySem.Spec PyProof.Rows L2
section
variable {K : PySem.W.Frag} {h base : Heap} {mg : Str → Option Value}
theorem wd_of (c : KH.Says h K) (X : K.In h) (G : h.Ns mainGlobals mg) (TB : LamX.TabB base mg (cL K) (tL K)) : Wd K mg base := by
  have fr : ∀ (i : Nat) {x : Str}, KH.fa[i]? = some (.free x) → mg x = none := fun i x e => He.free_ok X G (c.d.fact i e)
  have ex := c.ex
  unfold KH.exK at ex
  simp only [Bool.and_eq_true] at ex
  obtain ⟨e1, ⟨e2, e3⟩, e4, e5⟩ := ex
  refine ⟨⟨fr 82 rfl, fr 83 rfl, fr 84 rfl, fr 85 rfl, fr 86 rfl, fr 87 rfl, fr 88 rfl, fr 89 rfl, fr 90 rfl, fr 91 rfl, fr 92 rfl, fr 93 rfl, fr 94 rfl, fr 95 rfl, fr 96 rfl, fr 97 rfl, fr 98 rfl, ?_⟩, ?_, ?_, TB⟩
  · cases q : PySem.W.nsIn K mainGlobals "gcd" with
    | none => rw [q] at e1; cases e1
    | some o =>
      rw [q] at e1
      cases o with
      | none => cases e1
      | some v =>
        cases v <;> try (cases e1; done)
        have e := of_decide_eq_true e1
        subst e
        exact PySem.W.mg_of X G q
  · exact ⟨_, He.glo_ok X G e4, fun M => He.tupB_ok e2 M⟩
  · exact ⟨_, He.glo_ok X G e5, fun M => He.tupB_ok e3 M⟩
end
end PV
end
section -- Hand1
/-! Defs by hand: _law_take, _law_of. -/
namespace PV
open PySem PySem.Spec PyProof.Rows L2
abbrev FnP (K : PySem.W.Frag) (x : Str) (t : Nat) (f : Addr) (fd : FuncData) : Prop := FunD K x x (defArgs (KH.top t)) (defBody (KH.top t)) (defScope (KH.top t)) [] [] f fd
/-- the box: three ints, the last a small counter -/
def Box (H : Hp) (t : Addr) (m : Int) : Prop := ∃ a b c : Int, H t = some (.lst [.int a, .int b, .int c]) ∧ 0 ≤ c ∧ c ≤ m
def spTake : Sp := fun vs H Q _ => ∃ (t : Addr) (n m : Int), vs = [.ref t, .int n] ∧ 0 < n ∧ n < 1000000 ∧ m ≤ 1000 ∧ Box H t m ∧ ∀ (r a b c : Int), 0 ≤ r → r < n → 0 ≤ c → c ≤ m + 1 → Q (.int r) (upd H t (.lst [.int a, .int b, .int c]))
theorem scTake : C8.scC ["_law_tin", "_law_below_so", "_law_drawn", "_law_once_so", "_law_wide_so", "_law_twice_so"] ["_law_tin", "_law_below_so"] (defScope (KH.top 60)) = true := by decide +kernel
section
variable {P : Program} {w : World} {K : PySem.W.Frag} {mg : Str → Option Value} {base : Heap}
theorem fmod_in (x : Int) {n : Int} (h : 0 < n) : 0 ≤ x.fmod n ∧ x.fmod n < n := by
  rw [Int.fmod_eq_emod_of_nonneg x (by omega)]
  exact ⟨Int.emod_nonneg _ (by omega), Int.emod_lt_of_pos _ h⟩
theorem ok_take {f : Addr} {fd : FuncData} {k : Nat} (B : Bl mg) (F : FnP K "_law_take" 60 f fd) : FnOk P w K mg base CX0 (k + 1) f fd ["_law_tin", "_law_below_so"] spTake := by
  have S := C8.fnScope_by scTake
  refine F.ok S (fun vs H Q E h => ?_) (fun cdv A outer s H vs Q E hr h => ?_)
  · obtain ⟨t, n, m, rfl, _⟩ := h
    rfl
  · obtain ⟨t, n, m, rfl, hn, hn2, hm, ⟨a, b, c, hb, c0, cm⟩, q⟩ := h
    refine ⟨_, PSs.nox (pss_cons (ps_if (pt_cmpR op_gt (pe_ix ix_list (pv 0) pe_int (fun _ _ => rfl)) pe_int (nobehind _ (by decide) (by decide)))
        (pss_cons (ps_set (i := 2) S.nd rfl (.inl rfl) (pe_op op_modN (pe_callTy call_int1 (by rfl) B.int (by decide +kernel) (pa_cons (pe_ix ix_list (pv 0) pe_int (fun _ _ => rfl)) pa_nil)) (pv 1)))
          (pss_cons (ps_asg (pe_op op_fdivN (pe_ix ix_list (pv 0) pe_int (fun _ _ => rfl)) (pv 1)) (pg_sub (pv 0) pe_int set_list))
            (pss_one (ps_ret (pv 2))))) pss_nil)
      (pss_cons (ps_asg (pe_op op_add (pe_ix ix_list (pv 0) pe_int (fun _ _ => rfl)) pe_int) (pg_sub (pv 0) pe_int set_list))
      (pss_cons (ps_set (i := 3) S.nd rfl (.inl rfl) (pe_op op_modN (pe_callTy call_int1 (by rfl) B.int (by decide +kernel) (pa_cons (pe_op op_mul (pe_op op_add (pe_ix ix_list (pv 0) pe_int (fun _ _ => rfl)) (pe_op op_mul pe_int (pe_ix ix_list (pv 0) pe_int (fun _ _ => rfl)))) (pe_op op_add pe_int (pe_ix ix_list (pv 0) pe_int (fun _ _ => rfl)))) pa_nil)) pe_int))
      (pss_cons (ps_set (i := 4) S.nd rfl (.inl rfl) (pe_op op_add (pe_op op_modN (pe_callTy call_int1 (by rfl) B.int (by decide +kernel) (pa_cons (pv 3) pa_nil)) pe_int) pe_int))
      (pss_cons (ps_set (i := 5) S.nd rfl (.inl rfl) (pe_op op_modN (pe_callTy call_int1 (by rfl) B.int (by decide +kernel) (pa_cons (pe_op op_mul (pe_op op_add (pe_op op_add (pv 3) (pe_ix ix_list (pv 0) pe_int (fun _ _ => rfl))) (pe_op op_fdivN (pe_ix ix_list (pv 0) pe_int (fun _ _ => rfl)) pe_int)) (pv 4)) pa_nil)) pe_int))
      (pss_one (ps_ret (pe_op op_modN (pe_callTy call_int1 (by rfl) B.int (by decide +kernel) (pa_cons (pe_op op_fdivN (pe_op op_modN (pe_callTy call_int1 (by rfl) B.int (by decide +kernel) (pa_cons (pe_op op_add (pe_op op_mul (pv 5) pe_int) (pv 3)) pa_nil)) pe_int) pe_int) pa_nil)) (pv 1))))))))), ?_⟩
    have ix : ∀ (H1 : Hp) (a b c : Int), H1 t = some (.lst [.int a, .int b, .int c]) → SqL K H1 t [.int a, .int b, .int c] := fun H1 a b c e => .inl (.inl e)
    refine ⟨.ref t, rfl, t, _, 0, .int a, rfl, rfl, ix H a b c hb, rfl, a, 0, rfl, rfl, decide (a > 0), rfl, ?_⟩
    by_cases ha : a > 0
    · rw [decide_eq_true ha]
      refine iteT ?_
      refine ⟨.ref t, rfl, t, _, 0, .int a, rfl, rfl, ix H a b c hb, rfl, .inl ⟨a, rfl, .int n, rfl, a, n, rfl, rfl, by omega, ?_⟩⟩
      refine ⟨.ref t, rfl, t, _, 0, .int a, rfl, rfl, ix H a b c hb, rfl, .int n, rfl, a, n, rfl, rfl, ⟨by omega, by omega⟩, .ref t, rfl, ?_⟩
      refine ⟨t, _, 0, 0, rfl, rfl, hb, rfl, .int (a.fmod n), rfl, ?_⟩
      obtain ⟨f1, f2⟩ := fmod_in a hn
      exact q _ _ _ _ f1 f2 c0 (by omega)
    · rw [decide_eq_false ha]
      refine iteF ?_
      refine ⟨.ref t, rfl, t, _, 2, .int c, rfl, rfl, ix H a b c hb, rfl, c, 1, rfl, rfl, .ref t, rfl, ?_⟩
      refine ⟨t, _, 2, 2, rfl, rfl, hb, rfl, ?_⟩
      have hb2 : (upd H t (.lst [.int a, .int b, .int (c + 1)])) t = some (.lst [.int a, .int b, .int (c + 1)]) := upd_same
      refine ⟨.ref t, rfl, t, _, 1, .int b, rfl, rfl, ix _ a b (c + 1) hb2, rfl, .ref t, rfl, t, _, 2, .int (c + 1), rfl, rfl, ix _ a b (c + 1) hb2, rfl, 48271, c + 1, rfl, rfl, .inl ⟨by decide, by decide⟩, b, _, rfl, rfl, ?_⟩
      refine ⟨.ref t, rfl, t, _, 2, .int (c + 1), rfl, rfl, ix _ a b (c + 1) hb2, rfl, 39373, c + 1, rfl, rfl, _, _, rfl, rfl, .inr ⟨by omega, by omega⟩, .inl ⟨_, rfl, _, 2147483647, rfl, rfl, (show (2147483647 : Int) ≠ 0 by decide), ?_⟩⟩
      have hy := fmod_in (((b + 48271 * (c + 1)) * (39373 + (c + 1))).fmod 2147483647) (show (0 : Int) < 40009 by decide)
      refine ⟨_, rfl, .inl ⟨_, rfl, _, 40009, rfl, rfl, (show (40009 : Int) ≠ 0 by decide), _, 7, rfl, rfl, ?_⟩⟩
      refine ⟨_, rfl, .ref t, rfl, t, _, 2, .int (c + 1), rfl, rfl, ix _ a b (c + 1) hb2, rfl, _, c + 1, rfl, rfl, .ref t, rfl, t, _, 1, .int b, rfl, rfl, ix _ a b (c + 1) hb2, rfl, b, 1000003, rfl, rfl, ⟨by decide, by decide⟩, _, _, rfl, rfl, _, rfl, _, _, rfl, rfl, .inr ⟨by omega, by omega⟩, .inl ⟨_, rfl, _, 2147483629, rfl, rfl, (show (2147483629 : Int) ≠ 0 by decide), ?_⟩⟩
      refine ⟨_, rfl, _, 48271, rfl, rfl, .inr ⟨by decide, by decide⟩, _, rfl, _, _, rfl, rfl, .inl ⟨_, rfl, _, 2147483587, rfl, rfl, (show (2147483587 : Int) ≠ 0 by decide), _, 64, rfl, rfl, ⟨by decide, by decide⟩, .inl ⟨_, rfl, .int n, rfl, _, n, rfl, rfl, by omega, ?_⟩⟩⟩
      exact q _ _ _ _ (fmod_in _ hn).1 (fmod_in _ hn).2 (by omega) (by omega)
end
end PV
end
section -- Hand2
/-! Defs by hand: _law_of, _law_box, _law_cells. -/
namespace PV
open PySem PySem.Spec PyProof.Rows L2
def spOf (K : PySem.W.Frag) : Sp := fun vs H Q _ => ∃ (t g : Addr) (xs : List V) (m : Int), vs = [.ref t, .ref g] ∧ g ≠ t ∧ H g = some (.lst xs) ∧ xs ≠ [] ∧ xs.length < 1000000 ∧ m ≤ 1000 ∧ Box H t m ∧ ∀ (i : Nat) (v : V) (a b c : Int), xs[i]? = some v → 0 ≤ c → c ≤ m + 1 → Q v (upd H t (.lst [.int a, .int b, .int c]))
theorem scOf : C8.scC ["_law_tin", "_law_goods_so"] ["_law_tin", "_law_goods_so"] (defScope (KH.top 62)) = true := by decide +kernel
theorem scBox : C8.scC ["_law_script", "_law_k", "_law_cell_so"] ["_law_script", "_law_k"] (defScope (KH.top 59)) = true := by decide +kernel
theorem scCells : C8.scC ["_law_script", "_law_most_so", "_law_cells_so", "_law_k", "_law_cell_so", "_law_at_so"] ["_law_script", "_law_most_so"] (defScope (KH.top 61)) = true := by decide +kernel
section
variable {P : Program} {w : World} {K : PySem.W.Frag} {mg : Str → Option Value} {base : Heap}
theorem atI_pos {α : Type} {xs : List α} {r : Int} {v : α} (h0 : 0 ≤ r) (hv : xs[r.toNat]? = some v) : atI xs r = some v := by
  have hl := (List.getElem?_eq_some_iff.mp hv).1
  unfold atI ixN
  rw [if_pos h0, if_pos (by omega)]
  exact hv
theorem ok_of {f fT : Addr} {fd fdT : FuncData} {k : Nat} (B : Bl mg) (F : FnP K "_law_of" 62 f fd) (FT : FnP K "_law_take" 60 fT fdT) (gT : mg "_law_take" = some (.ref fT)) (bT : Binds K fdT ["_law_tin", "_law_below_so"] []) : FnOk P w K mg base CX0 (k + 2) f fd ["_law_tin", "_law_goods_so"] (spOf K) := by
  have S := C8.fnScope_by scOf
  refine F.ok S (fun vs H Q E h => ?_) (fun cdv A outer s H vs Q E hr h => ?_)
  · obtain ⟨t, g, xs, m, rfl, _⟩ := h
    rfl
  · obtain ⟨t, g, xs, m, rfl, hgt, hg, hne, hl, hm, hb, q⟩ := h
    refine ⟨_, PSs.nox (pss_one (ps_ret (pe_ix ix_list (pv 1) (pe_call (ok_take (k := k) B FT) hr (by rfl) gT FT.kp bT .nil pass0 (pa_cons (pv 0) (pa_cons (pe_callB call_len (by rfl) B.len (by decide +kernel) (pa_cons (pv 1) pa_nil)) pa_nil))) (fun _ _ => rfl)))), ?_⟩
    have hpos : 0 < xs.length := List.length_pos_iff.mpr hne
    refine ⟨.ref g, rfl, .ref t, rfl, .ref g, rfl, .ref g, xs.length, rfl, .inl ⟨xs, .inl (.inl hg), rfl⟩, t, xs.length, m, rfl, by omega, by omega, hm, hb, fun r a b c h1 h2 h3 h4 => ?_⟩
    have hr2 : r.toNat < xs.length := by omega
    have hv := List.getElem?_eq_getElem hr2
    refine ⟨g, xs, r, xs[r.toNat], rfl, rfl, .inl (.inl ?_), atI_pos h1 hv, q _ _ a b c hv h3 h4⟩
    rw [upd_ne hgt]
    exact hg
theorem bit64 (b : Bool) : -(2^64) < (if b = true then (1:Int) else 0) ∧ (if b = true then (1:Int) else 0) < 2^64 := by cases b <;> decide
def spBox (K : PySem.W.Frag) : Sp := fun vs H Q _ => ∃ (a : Addr) (c : Int), vs = [.ref a, .int 0] ∧ H a = some (.lst [.int c]) ∧ ∀ (p : Addr) (x y : Int), H p = none → Q (.ref p) (upd H p (.lst [.int x, .int y, .int 0]))
theorem ok_box {f : Addr} {fd : FuncData} {k : Nat} (B : Bl mg) (F : FnP K "_law_box" 59 f fd) : FnOk P w K mg base CX0 (k + 1) f fd ["_law_script", "_law_k"] (spBox K) := by
  have S := C8.fnScope_by scBox
  refine F.ok S (fun vs H Q E h => ?_) (fun cdv A outer s H vs Q E hr h => ?_)
  · obtain ⟨a, c, rfl, _⟩ := h
    rfl
  · obtain ⟨a, c, rfl, ha, q⟩ := h
    refine ⟨_, PSs.nox (pss_cons (ps_set (i := 2) S.nd rfl (.inl rfl) (pe_ifExp (pt_cmpR op_lt (pv 1) (pe_callB call_len (by rfl) B.len (by decide +kernel) (pa_cons (pv 0) pa_nil)) (nobehind _ (by decide) (by decide))) (pe_ix ix_list (pv 0) (pv 1) (fun _ _ => rfl)) pe_int))
      (pss_one (ps_ret (pe_lst (pa_cons (pe_op op_mul (pe_callB call_abs (by rfl) B.abs (by decide +kernel) (pa_cons (pv 2) pa_nil)) (pe_callTy call_int1 (by rfl) B.int (by decide +kernel) (pa_cons (pe_cmpR op_ge (pe_callB call_abs (by rfl) B.abs (by decide +kernel) (pa_cons (pv 2) pa_nil)) (pe_op op_pow pe_int pe_int) (nobehind _ (by decide) (by decide))) pa_nil)))
        (pa_cons (pe_op op_add (pe_op op_add (pe_op op_modN (pe_callTy call_int1 (by rfl) B.int (by decide +kernel) (pa_cons (pv 2) pa_nil)) pe_int) (pe_op op_mul pe_int (pv 1))) pe_int) (pa_cons pe_int pa_nil))))))), ?_⟩
    refine ⟨.int 0, rfl, .ref a, rfl, .ref a, 1, rfl, .inl ⟨_, .inl (.inl ha), rfl⟩, 0, 1, rfl, rfl, true, rfl, iteT ?_⟩
    refine ⟨.ref a, rfl, .int 0, rfl, a, _, 0, .int c, rfl, rfl, .inl (.inl ha), rfl, ?_⟩
    refine ⟨.int c, rfl, c, rfl, .int c, rfl, c, rfl, 10, 18, rfl, rfl, ⟨by decide, by decide, by decide⟩, _, _, rfl, rfl, .inr ⟨_, rfl, _, _, rfl, rfl, .inr ?_, ?_⟩⟩
    · exact bit64 _
    · refine ⟨.int c, rfl, .inl ⟨c, rfl, c, 2305843009213693951, rfl, rfl, (show (2305843009213693951 : Int) ≠ 0 by decide), .int 0, rfl, 39373, 0, rfl, rfl, .inr ⟨by decide, by decide⟩, _, _, rfl, rfl, _, 5696, rfl, rfl, ?_, fun p hp => q p _ _ hp⟩⟩
      show 3 ≤ sizeLine
      decide
def spCells (K : PySem.W.Frag) : Sp := fun vs H Q _ => ∃ (a : Addr) (ns : List Int), vs = [.ref a, .int 1] ∧ SqL K H a (ns.map V.int) ∧ ns.length ≤ 63 ∧ ∀ (p : Addr) (c : Int) (H' : Hp), (∀ b o, H b = some o → H' b = some o) → H p = none → H' p = some (.lst [.int c]) → Q (.ref p) H'
theorem cut_ints (ns : List Int) (lo hi : Option Int) : ∃ ms : List Int, cutV (ns.map V.int) lo hi = ms.map V.int ∧ ms.length ≤ ns.length := by
  refine ⟨(ns.drop (HT.sIx (ns.map V.int).length 0 lo)).take (HT.sIx (ns.map V.int).length (ns.map V.int).length hi - HT.sIx (ns.map V.int).length 0 lo), ?_, ?_⟩
  · unfold cutV
    rw [List.map_take, List.map_drop]
  · rw [List.length_take, List.length_drop]
    omega
theorem cut_one (ns : List Int) : ∃ ms : List Int, cutV (ns.map V.int) none (some 1) = ms.map V.int ∧ ms.length ≤ 1 := by
  refine ⟨ns.take 1, ?_, by rw [List.length_take]; omega⟩
  unfold cutV
  rw [HT.sIx_none, show HT.sIx (ns.map V.int).length (ns.map V.int).length (some 1) = min 1 (ns.map V.int).length from HT.sIx_nat _ _ 1, Nat.sub_zero, List.drop_zero, ← List.map_take]
  congr 1
  cases ns <;> simp
/-- what ps_for takes the list from -/
abbrev cLst (K : PySem.W.Frag) : List V → Hp → VK → Prop := fun xs H Q => ∃ p ys, xs = [.ref p] ∧ (SqL K H p ys ∨ SqT K H p ys) ∧ ∀ l, H l = none → Q (.ref l) (upd H l (.lst ys))
theorem or_read {H : Hp} {a : Addr} {ns : List Int} {R : V → Hp → Prop} {σ : L2.St} (h0 : σ[0]? = some (some (.ref a))) (h1 : σ[1]? = some (some (.int 1))) (ha : SqL K H a (ns.map V.int))
    (hR : ∀ (p : Addr) (c : Int) (H1 : Hp), (∀ b o, H b = some o → H1 b = some o) → H p = none → H1 p = some (.lst [.int c]) → R (.ref p) H1) :
    tOrT K (tCB (cLst K) (tCons (tSl (rSlL K) (tVar 0) tNoPart (tPart (tVar 1))) tNil)) (tLst (tCons (tC (.int 0)) tNil)) σ H R := by
  obtain ⟨ms, hms, hl⟩ := cut_one ns
  refine ⟨.ref a, h0, .int 1, h1, 1, rfl, a, _, rfl, ha, fun c nc => ?_⟩
  refine ⟨c, _, rfl, .inl (.inl (.inl upd_same)), fun l nl => ?_⟩
  have hlc : l ≠ c := fun e => by rw [e, upd_same] at nl; cases nl
  have nl' : H l = none := by rw [upd_ne hlc] at nl; exact nl
  rw [hms]
  match ms, hl with
  | [], _ =>
    refine ⟨false, .inl ⟨[], .inl (.inl upd_same), rfl⟩, ?_⟩
    show tLst (tCons (tC (.int 0)) tNil) σ _ R
    refine ⟨by show 1 ≤ sizeLine; decide, fun p hp => ?_⟩
    have hpl : p ≠ l := fun e => by rw [e, upd_same] at hp; cases hp
    rw [upd_ne hpl] at hp
    have hpc : p ≠ c := fun e => by rw [e, upd_same] at hp; cases hp
    rw [upd_ne hpc] at hp
    refine hR p 0 _ (fun b o e => ?_) hp upd_same
    rw [upd_ne (fun z => by rw [z, hp] at e; cases e), upd_ne (fun z => by rw [z, nl'] at e; cases e), upd_ne (fun z => by rw [z, nc] at e; cases e)]
    exact e
  | [m], _ =>
    refine ⟨true, .inl ⟨[.int m], .inl (.inl upd_same), rfl⟩, ?_⟩
    show R (.ref l) _
    refine hR l m _ (fun b o e => ?_) nl' upd_same
    rw [upd_ne (fun z => by rw [z, nl'] at e; cases e), upd_ne (fun z => by rw [z, nc] at e; cases e)]
    exact e
theorem ok_cells {f : Addr} {fd : FuncData} {k : Nat} (B : Bl mg) (F : FnP K "_law_cells" 61 f fd) : FnOk P w K mg base CX0 (k + 1) f fd ["_law_script", "_law_most_so"] (spCells K) := by
  have S := C8.fnScope_by scCells
  refine F.ok S (fun vs H Q E h => ?_) (fun cdv A outer s H vs Q E hr h => ?_)
  · obtain ⟨a, c, rfl, _⟩ := h
    rfl
  · obtain ⟨a, ns, rfl, ha, hl, q⟩ := h
    refine ⟨_, PSs.nox (pss_cons (ps_set (i := 2) S.nd rfl (.inl rfl) (pe_orT (pe_callTy call_list_of (by rfl) B.list (by decide +kernel) (pa_cons (pe_slice sl_list (pv 0) po_none (po_some (pv 1))) pa_nil)) (pe_one (pe_lst (pa_cons pe_int pa_nil)))))
      (pss_cons (ps_for PassesOwn.never rfl (pi_enum (by rfl) B.enumerate (pa_cons (pe_slice sl_list (pv 0) (po_some (pv 1)) (po_some pe_int)) pa_nil)) (pg_tup rfl (pgs_cons (pg_name (i := 3) S.nd rfl (.inl rfl)) (pgs_cons (pg_name (i := 4) S.nd rfl (.inl rfl)) pgs_nil)))
        (pss_cons (ps_set (i := 5) S.nd rfl (.inl rfl) (pe_op op_modN (pe_callTy call_int1 (by rfl) B.int (by decide +kernel) (pa_cons (pv 3) pa_nil)) (pv 1)))
          (pss_one (ps_asg (pe_op op_add (pe_ix ix_list (pv 2) (pv 5) (fun _ _ => rfl)) (pe_op op_mul (pv 4) (pe_op op_add (pv 3) pe_int))) (pg_sub (pv 2) (pv 5) set_list)))))
        (pss_one (ps_ret (pv 2))))), ?_⟩
    refine or_read rfl rfl ha fun p c H1 kp hp hpv => ?_
    have ha1 : SqL K H1 a (ns.map V.int) := by
      rcases ha with (h | h) | h
      · exact .inl (.inl (kp _ _ h))
      · obtain ⟨o, h⟩ := h
        exact .inl (.inr ⟨o, kp _ _ h⟩)
      · exact .inr h
    obtain ⟨ms, hms, hmsl⟩ := cut_ints ns (some 1) (some 63)
    refine ⟨.ref a, rfl, .int 1, rfl, 1, rfl, 63, rfl, a, _, rfl, ha1, fun g ng => ?_⟩
    rw [hms]
    have hpg : p ≠ g := fun z => by rw [z, ng] at hpv; cases hpv
    refine ⟨g, ms.map V.int, rfl, .inl (.inl upd_same), ?_⟩
    refine ⟨fun i m σ H' => m + i = ms.length ∧ (∃ u v z : Option V, σ = [some (.ref a), some (.int 1), some (.ref p), u, v, z]) ∧ (∀ b o, H b = some o → H' b = some o) ∧ H' g = some (.lst (ms.map V.int)) ∧ ∃ c : Int, H' p = some (.lst [.int c]), ⟨ms.length, rfl, ⟨_, _, _, rfl⟩, ?_, upd_same, c, ?_⟩, ?_⟩
    · intro b o e
      have e1 := kp b o e
      rw [upd_ne (fun z => by rw [z, ng] at e1; cases e1)]
      exact e1
    · rw [upd_ne hpg]
      exact hpv
    rintro i m σ H' ⟨hi, ⟨u, v, z, rfl⟩, kp', hg', c', hp'⟩
    by_cases hlt : i < ms.length
    · refine .inr ⟨⟨_, V.int ms[i], .inl (.inl hg'), by rw [List.getElem?_map, List.getElem?_eq_getElem hlt]; rfl⟩, _, fun σ' H'' w => ⟨m - 1, by omega, w⟩, ?_⟩
      rintro x H3 ⟨T, x0, rfl, hT, rfl, hall⟩
      have hx0 : x0 = .int ms[i] := by
        have e := hall _ (.inl (.inl hg'))
        rw [List.getElem?_map, List.getElem?_eq_getElem hlt] at e
        exact (Option.some.inj e).symm
      subst hx0
      have hTg : g ≠ T := fun z => by rw [← z, hg'] at hT; cases hT
      have hTp : p ≠ T := fun z => by rw [← z, hp'] at hT; cases hT
      have hP : (upd H' T (.tup [.int (i : Nat), .int ms[i]])) p = some (.lst [.int c']) := by rw [upd_ne hTp]; exact hp'
      refine ⟨T, _, rfl, .inl (.inl upd_same), rfl, _, _, rfl, _, _, rfl, rfl, ?_⟩
      refine ⟨_, rfl, .inl ⟨_, rfl, .int 1, rfl, (i : Nat), 1, rfl, rfl, (show (1 : Int) ≠ 0 by decide), ?_⟩⟩
      refine ⟨.ref p, rfl, _, rfl, p, _, _, .int c', rfl, rfl, .inl (.inl hP), (show atI [V.int c'] (((i : Nat) : Int).fmod 1) = some (.int c') from ?_), ?_⟩
      · rw [Int.fmod_one]
        rfl
      refine ⟨_, rfl, _, rfl, _, 2, rfl, rfl, _, _, rfl, rfl, .inr ⟨?_, ?_⟩, c', _, rfl, rfl, ?_⟩
      · omega
      · omega
      refine ⟨.ref p, rfl, _, rfl, p, _, _, 0, rfl, rfl, hP, (show ixN [V.int c'].length (((i : Nat) : Int).fmod 1) = some 0 from ?_), ?_⟩
      · rw [Int.fmod_one]
        rfl
      have hpp : p ≠ p → False := fun z => z rfl
      refine ⟨by omega, ⟨_, _, _, rfl⟩, fun b o e => ?_, ?_, _, upd_same⟩
      · rw [upd_ne (fun z => by rw [z, hp] at e; cases e), upd_ne (fun z => by rw [z] at e; rw [kp' _ _ e] at hT; cases hT)]
        exact kp' b o e
      · rw [upd_ne (Ne.symm hpg), upd_ne hTg]
        exact hg'
    · refine .inl ⟨⟨_, .inl (.inl hg'), by rw [List.length_map]; omega⟩, _, rfl, ?_⟩
      exact q p c' H' kp' hp hp'
end
end PV
end
section -- Hand3
/-! _law_case_right: by the evaluator around the one call that changes the box. -/
namespace PV
open PySem PySem.Spec PyProof.Rows L2
def nmsCR : List Str := ["_law_tin", "_law_sheet_so", "_law_most_so", "_law_windows_so", "_law_soft", "_law_own", "_law_one_so", "_law_got", "_law_number_so", "_law_told_so", "_law_gap_so", "_law_low_so"]
def crA : S := .par3 2 3 4 (.call 72 [(.var 1), (.cI 0), (.tup [])]) (.call 73 [(.var 1)]) (.call 49 [(.var 1)])
def crB : S := .ite (.cmp .ne (.f1 .min (.lc (.ix (.var 5) (.cI 2)) (.one 5) (.var 3) none [("_law_own", 5)])) (.var 2)) [.ret (.cB false)] []
def crC : List S := [.asg (.one 7) (.lst [(.call 35 [(.var 4)]), (.call 37 [(.var 1)]), (.call 45 [(.var 4)]), (.call 32 [(.var 1), (.ix (.var 6) (.cI 0)), (.ix (.var 6) (.cI 1))])]), .ite (.not (.call 50 [(.var 7), (.lst [(.var 2), (.call 67 [(.var 1), (.var 3)]), (.call 74 [(.var 1)]), (.ix (.var 6) (.cI 2))])])) [.ret (.cB false)] [], .for_ (.one 8) (.tup [(.var 2), (.bin .add (.var 2) (.cI 1))]) [.asg (.one 9) (.call 39 [(.var 1), (.var 8)]), .ite (.or (.not (.call 70 [(.var 1), (.var 8), (.var 9)])) (.cmp .ne (.ix (.var 9) (.cI 0)) (.ite (.cmp .eq (.var 8) (.var 2)) (.cS "filling") (.cS "window")))) [.ret (.cB false)] [], .asg (.one 7) (.lc (.call 42 [(.var 1), (.bin .add (.var 8) (.var 10)), (.var 9)]) (.one 10) (.tup [(.cI 0), (.cI 1)]) none [("_law_gap_so", 10)]), .ite (.not (.call 50 [(.var 7), (.lst [(.cB true), (.call 70 [(.var 1), (.bin .add (.var 8) (.cI 1)), (.var 9)])])])) [.ret (.cB false)] []], .ite (.cmp .ne (.f1 .len (.var 1)) (.f1 .len (.ix (.var 1) (.cI 0)))) [.ret (.cB true)] [], .asg (.one 11) (.call 48 [(.var 1)]), .ret (.and (.call 68 [(.var 1), (.var 11)]) (.cmp .lt (.call 61 [(.var 11)]) (.f1 .len (.var 1))))]
theorem scCR : C8.scC nmsCR ["_law_tin", "_law_sheet_so"] (defScope (KH.top 89)) = true := by decide +kernel
def ctCR : Ct := ⟨nmsCR, defScope (KH.top 89), fun _ => true, false, fsT⟩
theorem chkCA : (match defBody (KH.top 89) with | a :: b :: _ :: r => chkS crA ctCR a && chkS crB ctCR b && chkSs crC ctCR r | _ => false) = true := by decide +kernel
def ccn (n : Nat) : Bool → Nat → List D → Option D := fun k => if k then runF tab (n + 1) else runF tab (n + 3)
/-- what the evaluator is to say of a sheet -/
def CR (n : Nat) (d : D) : Prop := ∃ (m : D) (wds : List D) (soft : D), (∀ bx : List D, exS (ccn n) crA [.own bx, .val d, .un, .un, .un, .un, .un, .un, .un, .un, .un, .un] = some (.nx [.own bx, .val d, .val m, .val (.list wds), .val soft, .un, .un, .un, .un, .un, .un, .un]) ∧
    exS (ccn n) crB [.own bx, .val d, .val m, .val (.list wds), .val soft, .un, .un, .un, .un, .un, .un, .un] = some (.nx [.own bx, .val d, .val m, .val (.list wds), .val soft, .un, .un, .un, .un, .un, .un, .un])) ∧ wds ≠ [] ∧ wds.length < 1000000 ∧
  ∀ (bx : List D) (w : D), w ∈ wds → exL (ccn n) crC [.own bx, .val d, .val m, .val (.list wds), .val soft, .un, .val w, .un, .un, .un, .un, .un] = some (.ret (.bool true))
def spCR (K : PySem.W.Frag) (n : Nat) : Sp := fun vs H Q _ => ∃ (t : Addr) (v : V) (m : Int) (d : D), vs = [.ref t, v] ∧ Box H t m ∧ m ≤ 1000 ∧ TabP K H ∧ Rp K (mask [t] H) v d ∧ CR n d ∧ ∀ H', TabP K H' → Q (.bl true) H'
section
variable {P : Program} {w : World} {K : PySem.W.Frag} {mg : Str → Option Value} {base : Heap}
theorem rpl_get {M : Hp} : ∀ {vs : List V} {ds : List D}, RpL K M vs ds → ∀ (i : Nat) (v : V), vs[i]? = some v → ∃ d, ds[i]? = some d ∧ Rp K M v d
  | _, _, .nil, _, _, h => by cases h
  | _, _, .cons a b, 0, v, h => by
    cases h
    exact ⟨_, rfl, a⟩
  | _, _, .cons a b, i + 1, v, h => by
    obtain ⟨d, h1, h2⟩ := rpl_get b i v h
    exact ⟨d, h1, h2⟩
theorem rpl3 {M : Hp} {a b c : Int} {vs : List V} (h : RpL K M vs [.int a, .int b, .int c]) : vs = [.int a, .int b, .int c] := by
  cases h with | cons q1 h => cases q1; cases h with | cons q2 h => cases q2; cases h with | cons q3 h => cases q3; cases h; rfl
theorem ok_cr {f fT fO : Addr} {fd fdT fdO : FuncData} {k : Nat} (W : Wd K mg base) (hd : ∀ (f : Nat) (x : Str) (m : Nat), fsT[f]? = some (x, m) → ∃ df, tab[f]? = some df ∧ DefOk K mg fsT x m df)
    (F : FnP K "_law_case_right" 89 f fd) (FT : FnP K "_law_take" 60 fT fdT) (gT : mg "_law_take" = some (.ref fT)) (bT : Binds K fdT ["_law_tin", "_law_below_so"] [])
    (FO : FnP K "_law_of" 62 fO fdO) (gO : mg "_law_of" = some (.ref fO)) (bO : Binds K fdO ["_law_tin", "_law_goods_so"] []) : FnOk P w K mg base CX0 (k + 4) f fd ["_law_tin", "_law_sheet_so"] (spCR K k) := by
  have S := C8.fnScope_by scCR
  refine F.ok S (fun vs H Q E h => ?_) (fun cdv A outer s H vs Q E hr h => ?_)
  · obtain ⟨t, v, m, d, rfl, _⟩ := h
    rfl
  · have cx : CxOk (ccn k) ctCR (cxOf CX0 P w K mg base nmsCR "_law_case_right" (defScope (KH.top 89)) f cdv A outer s H E).nox k := {
      N := rfl
      nd := S.nd
      sc := rfl
      calm := rfl
      B := W.B
      g0 := W.g0
      g1 := W.g1
      room := hr
      cal := fun g y j hg => by
        obtain ⟨fa', fd', ps', h1, h2, h3, h4⟩ := fns_ok W hd (k + 3) g y j hg
        obtain ⟨df', ht', hD'⟩ := hd g y j hg
        obtain ⟨_, _, _, _, _, _, _, _, _, _, _, _, _, hk', _⟩ := hD'.ex
        exact ⟨⟨fa', fd', ps', h1, h2, h3, h4⟩, fun ds d e => by rw [← hk']; exact runF_len ht' e⟩
      key := fun g y j hg => by
        obtain ⟨fa', fd', ps', h1, h2, h3, h4⟩ := fns_ok W hd (k + 1) g y j hg
        obtain ⟨df', ht', hD'⟩ := hd g y j hg
        obtain ⟨_, _, _, _, _, _, _, _, _, _, _, _, _, hk', _⟩ := hD'.ex
        exact ⟨⟨fa', fd', ps', h1, h2, h3, h4⟩, fun ds d e => by rw [← hk']; exact runF_len ht' e⟩
      fn := fun _ _ => rfl
      lam := fun e => nomatch e }
    have hk : fnK ctCR = true := by decide +kernel
    have hch := chkCA
    obtain ⟨t, v, m, d, rfl, ⟨a, b, c, hb, c0, cm⟩, hm, hT, hv, ⟨mD, wds, soft, hAB, hne, hlen, hrest⟩, q⟩ := h
    refine ⟨tSeq (tS K (exS (ccn k) crA)) (tSeq (tS K (exS (ccn k) crB)) (tSeq (tAsg (tCall (spOf K) [] E0 (tCons (tVar 0) (tCons (tVar 3) tNil))) (gName 6)) (tS K (exL (ccn k) crC)))), PSs.nox (pss_cons (chkS_ok (ct := ctCR) crA cx hk PassesOwn.never ?_) (pss_cons (chkS_ok (ct := ctCR) crB cx hk PassesOwn.never ?_) (pss_cons (ps_set (i := 6) S.nd rfl (.inl rfl) (pe_call (ok_of (k := k + 1) W.B FO FT gT bT) hr (by rfl) gO FO.kp bO .nil pass0 (pa_cons (pv 0) (pa_cons (pv 3) pa_nil)))) (chkSs_ok (ct := ctCR) crC cx hk PassesOwn.never ?_)))), ?_⟩
    · decide +kernel
    · decide +kernel
    · decide +kernel
    have hM : Sb (mask [t] H) H := mask_same [t] H
    have hnt : ¬ Hs (mask [t] H) t := fun ⟨o, e, _⟩ => by rw [mask_in (List.mem_singleton_self t)] at e; cases e
    have ss0 : SS K (mask [t] H) [] [.own [.int a, .int b, .int c], .val d, .un, .un, .un, .un, .un, .un, .un, .un, .un, .un] (L2.start nmsCR [.ref t, v]) H := ⟨hM, hT, (fun _ z => nomatch z), [t], .own hb (.cons (.int a) (.cons (.int b) (.cons (.int c) .nil))) (.val hv (sl_un 10)), by simp, fun p hp => by rw [List.mem_singleton.mp hp]; exact hnt⟩
    refine ⟨_, _, _, _, ss0, (hAB _).1, fun σ1 H1 ss1 => ?_⟩
    refine ⟨_, _, _, _, ss1, (hAB _).2, fun σ2 H2 ss2 => ?_⟩
    obtain ⟨sb2, tab2, _, O, sl, nd, hO⟩ := ss2
    cases sl with
    | @own _ _ O' p vs _ hp hpv sl =>
    cases sl with
    | val r1 sl =>
    cases sl with
    | val r2 sl =>
    cases sl with
    | val r3 sl =>
    cases sl with
    | val r4 sl =>
    have hO' : O' = [] := by
      cases sl with | un sl => cases sl with | un sl => cases sl with | un sl => cases sl with | un sl => cases sl with | un sl => cases sl with | un sl => cases sl with | un sl => cases sl; rfl
    subst hO'
    cases sl with
    | un sl =>
    cases sl with
    | un sl =>
    have hvs := rpl3 hpv
    subst hvs
    obtain ⟨g, xs, rfl, hg, rl⟩ := r3.l
    obtain ⟨hgp, hg2⟩ := mask_some hg
    have hxl : xs.length = wds.length := rl.len
    refine ⟨.ref p, rfl, .ref g, rfl, p, g, xs, m, rfl, fun z => hgp (by simp [z]), hg2, fun z => hne (List.length_eq_zero_iff.mp (by rw [← hxl, z]; rfl)), by omega, hm, ⟨a, b, c, hp, c0, cm⟩, fun i x a' b' c' hx _ _ => ?_⟩
    obtain ⟨wd, hw, rw_⟩ := rpl_get rl i x hx
    have hwm : wd ∈ wds := List.mem_of_getElem? hw
    have em : mask [p] (upd H2 p (.lst [.int a', .int b', .int c'])) = mask [p] H2 := mask_grow (List.mem_singleton_self p)
    have hnp : ¬ Hs (mask [p] (upd H2 p (.lst [.int a', .int b', .int c']))) p := fun ⟨o, e, _⟩ => by rw [mask_in (List.mem_singleton_self p)] at e; cases e
    have hmm : ∀ {v : V} {d : D}, Rp K (mask ([p] ++ []) H2) v d → Rp K (mask ([p] ++ []) (upd H2 p (.lst [.int a', .int b', .int c']))) v d := fun r => by
      rw [List.append_nil] at r ⊢
      rw [em]
      exact r
    refine ⟨mask [p] (upd H2 p (.lst [.int a', .int b', .int c'])), [], _, _, ⟨mask_same _ _, tab_lst hp tab2, (fun _ z => nomatch z), [p], .own upd_same (.cons (.int a') (.cons (.int b') (.cons (.int c') .nil))) (.val (hmm r1) (.val (hmm r2) (.val (hmm r3) (.val (hmm r4) (.un (.val (hmm rw_) ?_)))))), by simp, fun z hz => by rw [List.mem_singleton.mp hz]; exact hnp⟩, hrest _ wd hwm, fun v' H' _ t' r' => ?_⟩
    · cases sl with
      | un sl => cases sl with
        | un sl => cases sl with
          | un sl => cases sl with
            | un sl => cases sl with
              | un sl => cases sl; exact .un (.un (.un (.un (.un .nil))))
    · cases r'
      exact q H' t'
end
end PV
end
section -- Hand4
/-! law: by hand. -/
namespace PV
open PySem PySem.Spec PyProof.Rows L2
def nmsL : List Str := ["_law_script", "_law_tin", "_law_high_so", "_law_wide_so", "_law_kind_so", "_law_rows_so", "_law_j", "_law_k"]
def ctL : Ct := ⟨nmsL, defScope (KH.top 91), fun _ => true, false, fsT⟩
theorem scL : C8.scC nmsL ["_law_script"] (defScope (KH.top 91)) = true := by decide +kernel
/-- a cell -/
def cD (b : Bool) : D := if b then .none else .tuple [.int 0, .int 1]
def rowD (r : List Bool) : D := .tuple (r.map cD)
def shD (s : List (List Bool)) : D := .tuple (s.map rowD)
def spLaw (K : PySem.W.Frag) (n : Nat) : Sp := fun vs H Q _ => ∃ (a : Addr) (ns : List Int), vs = [.ref a] ∧ SqL K H a (ns.map V.int) ∧ ns.length ≤ 63 ∧ TabP K H ∧ runF tab (n + 4) 75 [] = some (.bool true) ∧ (∀ (h w : Nat) (s : List (List Bool)), 1 ≤ h → h ≤ 4 → 1 ≤ w → w ≤ 4 → s.length = h → (∀ r ∈ s, r.length = w) → CR n (shD s)) ∧ ∀ H', TabP K H' → Q (.bl true) H'
section
variable {P : Program} {w : World} {K : PySem.W.Frag} {mg : Str → Option Value} {base : Heap}
theorem chk_val {c : Bool → Nat → List D → Option D} {k : Nat} (e : E) {ct : Ct} {x : Expr} {X : Cx} (h : CxOk c ct X k) (hx : chk e ct .val x = true) : PE X x (tD X.K (evE c e)) := (chk_ok e h hx).1
theorem tYes_i {σ : L2.St} {H : Hp} {A B : Hp → Prop} (h : A H) : tYes σ H (fun b H3 => if b = true then A H3 else B H3) := by
  unfold tYes
  exact iteT h
theorem ok_law {f fT fO fX fC fR : Addr} {fd fdT fdO fdX fdC fdR : FuncData} {k : Nat} (W : Wd K mg base) (hd : ∀ (f : Nat) (x : Str) (m : Nat), fsT[f]? = some (x, m) → ∃ df, tab[f]? = some df ∧ DefOk K mg fsT x m df)
    (F : FnP K "law" 91 f fd) (FT : FnP K "_law_take" 60 fT fdT) (gT : mg "_law_take" = some (.ref fT)) (bT : Binds K fdT ["_law_tin", "_law_below_so"] [])
    (FO : FnP K "_law_of" 62 fO fdO) (gO : mg "_law_of" = some (.ref fO)) (bO : Binds K fdO ["_law_tin", "_law_goods_so"] [])
    (FX : FnP K "_law_box" 59 fX fdX) (gX : mg "_law_box" = some (.ref fX)) (bX : Binds K fdX ["_law_script", "_law_k"] [])
    (FC : FnP K "_law_cells" 61 fC fdC) (gC : mg "_law_cells" = some (.ref fC)) (bC : Binds K fdC ["_law_script", "_law_most_so"] [])
    (FR : FnP K "_law_case_right" 89 fR fdR) (gR : mg "_law_case_right" = some (.ref fR)) (bR : Binds K fdR ["_law_tin", "_law_sheet_so"] []) :
    FnOk P w K mg base CX0 (k + 5) f fd ["_law_script"] (spLaw K k) := by
  have S := C8.fnScope_by scL
  refine F.ok S (fun vs H Q E h => ?_) (fun cdv A outer s H vs Q E hr h => ?_)
  · obtain ⟨a, ns, rfl, _⟩ := h
    rfl
  · have cx : CxOk (ccn (k + 1)) ctL (cxOf CX0 P w K mg base nmsL "law" (defScope (KH.top 91)) f cdv A outer s H E).nox (k + 1) := {
      N := rfl
      nd := S.nd
      sc := rfl
      calm := rfl
      B := W.B
      g0 := W.g0
      g1 := W.g1
      room := hr
      cal := fun g y j hg => by
        obtain ⟨fa', fd', ps', h1, h2, h3, h4⟩ := fns_ok W hd (k + 1 + 3) g y j hg
        obtain ⟨df', ht', hD'⟩ := hd g y j hg
        obtain ⟨_, _, _, _, _, _, _, _, _, _, _, _, _, hk', _⟩ := hD'.ex
        exact ⟨⟨fa', fd', ps', h1, h2, h3, h4⟩, fun ds d e => by rw [← hk']; exact runF_len ht' e⟩
      key := fun g y j hg => by
        obtain ⟨fa', fd', ps', h1, h2, h3, h4⟩ := fns_ok W hd (k + 1 + 1) g y j hg
        obtain ⟨df', ht', hD'⟩ := hd g y j hg
        obtain ⟨_, _, _, _, _, _, _, _, _, _, _, _, _, hk', _⟩ := hD'.ex
        exact ⟨⟨fa', fd', ps', h1, h2, h3, h4⟩, fun ds d e => by rw [← hk']; exact runF_len ht' e⟩
      fn := fun _ _ => rfl
      lam := fun e => nomatch e }
    have hk : fnK ctL = true := by decide +kernel
    obtain ⟨fB, fdB, psB, FB, gB, kB, bB⟩ := fns_ok (P := P) (w := w) W hd (k + 4) 75 "_law_by_hand_right" 0 rfl
    obtain ⟨a, ns, rfl, ha, hl, hT, hbh, hcr, q⟩ := h
    have okT := ok_take (P := P) (w := w) (base := base) (k := k + 3) W.B FT
    refine ⟨_, PSs.nox (pss_cons (ps_if (pt_not (pt_val (pe_call0 FB hr (by rfl) gB kB bB .nil pass0))) (pss_one (ps_ret pe_bl)) pss_nil)
      (pss_cons (ps_set (i := 1) S.nd rfl (.inr rfl) (pe_call (ok_box (k := k + 3) W.B FX) hr (by rfl) gX FX.kp bX .nil pass0 (pa_cons (pe_call (ok_cells (k := k + 3) W.B FC) hr (by rfl) gC FC.kp bC .nil pass0 (pa_cons (pv 0) (pa_cons pe_int pa_nil))) (pa_cons pe_int pa_nil))))
      (pss_cons (ps_asg (pe_tup (pa_cons (pe_op op_add pe_int (pe_call okT hr (by rfl) gT FT.kp bT .nil pass0 (pa_cons (pv 1) (pa_cons pe_int pa_nil)))) (pa_cons (pe_op op_add pe_int (pe_call okT hr (by rfl) gT FT.kp bT .nil pass0 (pa_cons (pv 1) (pa_cons pe_int pa_nil)))) (pa_cons (pe_op op_add pe_int (pe_call okT hr (by rfl) gT FT.kp bT .nil pass0 (pa_cons (pv 1) (pa_cons pe_int pa_nil)))) pa_nil))))
        (pg_tup rfl (pgs_cons (pg_name (i := 2) S.nd rfl (.inl rfl)) (pgs_cons (pg_name (i := 3) S.nd rfl (.inl rfl)) (pgs_cons (pg_name (i := 4) S.nd rfl (.inr rfl)) pgs_nil)))))
      (pss_cons (ps_set (i := 5) S.nd rfl (.inl rfl) (pe_lst pa_nil))
      (pss_cons (ps_for PassesOwn.never rfl (pi_range1 (by rfl) W.B.range (pa_cons (pv 2) pa_nil)) (pg_name (i := 6) S.nd rfl (.inl rfl)) (pss_one (ps_expr (pe_bm PySem.F.plainAttrs_list PySem.F.slot_list_append PySem.F.type_list_append mt_append (pv 5) (pa_cons (pe_callTy call_tuple_of (by rfl) W.B.tuple (by decide +kernel) (pa_cons
          (pe_lc rfl S.nd (pi_range1 (by rfl) W.B.range (pa_cons (pv 3) pa_nil)) (own := [("_law_k", 7)]) (blkOk_by (by show blkC nmsL (defScope (KH.top 91)) _ _ = true; decide +kernel)) (fun s H C cl fp => tg_ok (.one 7) (cx.blk s H _ C cl fp) (by decide +kernel)) (fun s H C cl fp => pts_nil)
            (fun s H C cl fp => pe_ifExp (pt_cmp (pc_eqI (pe_call okT (cx.blk s H _ C cl fp).room (by rfl) gT FT.kp bT .nil pass0 (pa_cons (pe_var ((cx.blk s H _ C cl fp).vis (i := 1) (by decide +kernel)).1 ((cx.blk s H _ C cl fp).vis (i := 1) (by decide +kernel)).2.1) (pa_cons (pe_var ((cx.blk s H _ C cl fp).vis (i := 4) (by decide +kernel)).1 ((cx.blk s H _ C cl fp).vis (i := 4) (by decide +kernel)).2.1) pa_nil))) pe_int)) pe_non (show PE _ _ (tD K (evE (ccn (k + 1)) (.tup [.cI 0, .cI 1]))) from chk_val (.tup [.cI 0, .cI 1]) (cx.blk s H _ C cl fp) (by decide +kernel)))) pa_nil)) pa_nil)))))
        (pss_one (ps_ret (pe_call (ok_cr (k := k) W hd FR FT gT bT FO gO bO) hr (by rfl) gR FR.kp bR .nil pass0 (pa_cons (pv 1) (pa_cons (pe_callTy call_tuple_of (by rfl) W.B.tuple (by decide +kernel) (pa_cons (pv 5) pa_nil)) pa_nil)))))))))), ?_⟩
    -- by hand
    refine ⟨rfl, [], [], .bool true, hT, (fun _ z => nomatch z), .nil, hbh, fun v0 H0 sm0 r0 => ?_⟩
    cases r0
    refine ⟨true, rfl, ?_⟩
    refine iteF ?_
    have ha0 : SqL K H0 a (ns.map V.int) := by
      rcases ha with (h | ⟨o, h⟩) | h
      · exact .inl (.inl (sm0.b.lst h))
      · exact .inl (.inr ⟨o, sm0.b.at_ _ _ rfl h⟩)
      · exact .inr h
    have hT0 := sm0.t hT
    -- the box
    refine ⟨.ref a, rfl, a, ns, rfl, ha0, hl, fun p c H1 kp1 np hp => ?_⟩
    refine ⟨p, c, rfl, hp, fun t x y nt => ?_⟩
    have hT1 : TabP K (upd H1 t (.lst [.int x, .int y, .int 0])) := LamX.TabS.ext (LamX.TabS.ext hT0 kp1) (same_upd nt)
    -- the sizes
    refine ⟨.ref t, rfl, t, 4, 0, rfl, by decide, by decide, by decide, ⟨x, y, 0, upd_same, by decide, by decide⟩, fun r1 a1 b1 c1 l1 m1 n1 o1 => ?_⟩
    rw [upd_upd]
    refine ⟨1, r1, rfl, rfl, ?_⟩
    refine ⟨.ref t, rfl, t, 4, 1, rfl, by decide, by decide, by decide, ⟨a1, b1, c1, upd_same, n1, o1⟩, fun r2 a2 b2 c2 l2 m2 n2 o2 => ?_⟩
    rw [upd_upd]
    refine ⟨1, r2, rfl, rfl, ?_⟩
    refine ⟨.ref t, rfl, t, 2, 2, rfl, by decide, by decide, by decide, ⟨a2, b2, c2, upd_same, n2, by omega⟩, fun r3 a3 b3 c3 l3 m3 n3 o3 => ?_⟩
    rw [upd_upd]
    refine ⟨2, r3, rfl, rfl, ?_⟩
    refine ⟨(show 3 ≤ sizeLine by decide), fun tp htp => ?_⟩
    refine ⟨tp, _, rfl, .inl (.inl upd_same), rfl, _, _, rfl, _, _, rfl, _, _, rfl, rfl, ?_⟩
    have htt : t ≠ tp := fun z => by rw [← z, upd_same] at htp; cases htp
    have hT2 : TabP K (upd H1 t (.lst [.int a3, .int b3, .int c3])) := by
      have := tab_lst (ys := [.int a3, .int b3, .int c3]) upd_same hT1
      rw [upd_upd] at this
      exact this
    have hT3 : TabP K (upd (upd H1 t (.lst [.int a3, .int b3, .int c3])) tp (.tup [.int (1 + r1), .int (1 + r2), .int (2 + r3)])) := LamX.TabS.ext hT2 (same_upd htp)
    refine ⟨by decide, fun pl hpl => ?_⟩
    have htpl : t ≠ pl := fun z => by rw [← z, upd_ne htt, upd_same] at hpl; cases hpl
    have hT4 := LamX.TabS.ext hT3 (same_upd (o := .lst []) hpl)
    have hbx : (upd (upd (upd H1 t (.lst [.int a3, .int b3, .int c3])) tp (.tup [.int (1 + r1), .int (1 + r2), .int (2 + r3)])) pl (.lst [])) t = some (.lst [.int a3, .int b3, .int c3]) := by
      rw [upd_ne htpl, upd_ne htt, upd_same]
    have hpl2 : (upd (upd (upd H1 t (.lst [.int a3, .int b3, .int c3])) tp (.tup [.int (1 + r1), .int (1 + r2), .int (2 + r3)])) pl (.lst [])) pl = some (.lst []) := upd_same
    generalize (upd (upd (upd H1 t (.lst [.int a3, .int b3, .int c3])) tp (.tup [.int (1 + r1), .int (1 + r2), .int (2 + r3)])) pl (.lst [])) = H2 at hT4 hbx hpl2
    obtain ⟨hN, ehN⟩ : ∃ hN : Nat, (1 + r1) = (hN : Int) := ⟨(1 + r1).toNat, by omega⟩
    obtain ⟨wN, ewN⟩ : ∃ wN : Nat, (1 + r2) = (wN : Int) := ⟨(1 + r2).toNat, by omega⟩
    refine ⟨.int (1 + r1), rfl, 1 + r1, rfl, by omega, by omega, ?_⟩
    have etn : (1 + r1).toNat = hN := by omega
    rw [etn]
    refine ⟨fun i m σ H' => i + m = hN ∧ ∃ (u v : Option V) (aa bb cc : Int) (vs : List V) (L : List (List Bool)), σ = [some (.ref a), some (.ref t), some (.int (1 + r1)), some (.int (1 + r2)), some (.int (2 + r3)), some (.ref pl), u, v] ∧
      H' t = some (.lst [.int aa, .int bb, .int cc]) ∧ 0 ≤ cc ∧ cc ≤ 3 + 4 * (i : Int) ∧ TabP K H' ∧ H' pl = some (.lst vs) ∧ L.length = i ∧ (∀ r ∈ L, r.length = wN) ∧ RpL K (mask [t, pl] H') vs (L.map rowD), ⟨hN, Nat.zero_add _, none, none, a3, b3, c3, [], [], rfl, hbx, n3, by omega, hT4, hpl2, rfl, (fun _ z => nomatch z), .nil⟩, ?_⟩
    rintro i m σ H3 ⟨him, u, v, aa, bb, cc, vs, L, rfl, hb3, hc0, hc1, hT5, hvs, hL, hLw, hR⟩
    by_cases hlt : i < hN
    · refine .inr ⟨hlt, _, fun σ' H'' w => ⟨m - 1, by omega, w⟩, ?_⟩
      rintro x H4 ⟨rfl, rfl⟩
      refine ⟨.ref pl, rfl, .inl ⟨rfl, vs, .inl (.inl hvs)⟩, ?_⟩
      refine ⟨.int (1 + r2), rfl, 1 + r2, rfl, by omega, by omega, fun D hD => ?_⟩
      have etn2 : (1 + r2).toNat = wN := by omega
      rw [etn2]
      have htD : t ≠ D := fun z => by rw [← z, hb3] at hD; cases hD
      have hplD : pl ≠ D := fun z => by rw [← z, hvs] at hD; cases hD
      refine ⟨fun j m' H' => j + m' = wN ∧ ∃ (aa bb cc : Int) (acc : List V) (r : List Bool), H' t = some (.lst [.int aa, .int bb, .int cc]) ∧ 0 ≤ cc ∧ cc ≤ 3 + 4 * (i : Int) + (j : Int) ∧ TabP K H' ∧ H' pl = some (.lst vs) ∧ H' D = some (.lst acc) ∧ r.length = j ∧
        RpL K (mask [t, pl, D] H') vs (L.map rowD) ∧ RpL K (mask [t, pl, D] H') acc (r.map cD), ⟨wN, Nat.zero_add _, aa, bb, cc, [], [], ?_, hc0, by omega, LamX.TabS.ext hT5 (same_upd hD), ?_, upd_same, rfl, ?_, .nil⟩, ?_⟩
      · rw [upd_ne htD]; exact hb3
      · rw [upd_ne hplD]; exact hvs
      · refine hR.up (mask_more (sb_upd hD) fun b hb => ?_)
        simp only [List.mem_cons, List.not_mem_nil, or_false] at hb ⊢
        rcases hb with rfl | rfl | rfl
        · exact .inl (.inl rfl)
        · exact .inl (.inr rfl)
        · exact .inr hD
      rintro j m' H5 ⟨hjm, a5, b5, c5, acc, r, hb5, hc50, hc51, hT6, hvs5, hacc, hr, hR5, hA5⟩
      by_cases hj : j < wN
      · refine .inr ⟨hj, _, fun H' w => ⟨m' - 1, by omega, w⟩, ?_⟩
        rintro x H6 ⟨rfl, rfl⟩
        refine ⟨rfl, ?_⟩
        refine tYes_i ?_
        have hk2 : (4 : Int) * i + j ≤ 100 := by omega
        refine ⟨.ref t, rfl, .int (2 + r3), rfl, t, 2 + r3, 3 + 4 * (i : Int) + (j : Int), rfl, by omega, by omega, by omega, ⟨a5, b5, c5, hb5, hc50, hc51⟩, fun rr a6 b6 c6 _ _ n6 o6 => ?_⟩
        have hne1 : pl ≠ t := Ne.symm htpl
        have hne2 : D ≠ t := Ne.symm htD
        have eM : mask [t, pl, D] (upd H6 t (.lst [.int a6, .int b6, .int c6])) = mask [t, pl, D] H6 := mask_grow List.mem_cons_self
        have hT7 : TabP K (upd H6 t (.lst [.int a6, .int b6, .int c6])) := tab_lst hb5 hT6
        have hR7 : RpL K (mask [t, pl, D] (upd H6 t (.lst [.int a6, .int b6, .int c6]))) vs (L.map rowD) := by rw [eM]; exact hR5
        have hA7 : RpL K (mask [t, pl, D] (upd H6 t (.lst [.int a6, .int b6, .int c6]))) acc (r.map cD) := by rw [eM]; exact hA5
        have hvs7 : (upd H6 t (.lst [.int a6, .int b6, .int c6])) pl = some (.lst vs) := by rw [upd_ne hne1]; exact hvs5
        have hac7 : (upd H6 t (.lst [.int a6, .int b6, .int c6])) D = some (.lst acc) := by rw [upd_ne hne2]; exact hacc
        have hb7 : (upd H6 t (.lst [.int a6, .int b6, .int c6])) t = some (.lst [.int a6, .int b6, .int c6]) := upd_same
        generalize (upd H6 t (.lst [.int a6, .int b6, .int c6])) = H7 at hT7 hR7 hA7 hvs7 hac7 hb7
        refine ⟨rr, 0, rfl, rfl, decide (rr = 0), rfl, ?_⟩
        have fin : ∀ (b : Bool) (y : V) (H8 : Hp), Sm K H7 H8 → Rp K (mask [t, pl, D] H8) y (cD b) → ∃ acc : List V, H8 D = some (.lst acc) ∧ acc.length < sizeLine ∧ ((j + 1) + (m' - 1) = wN ∧ ∃ (aa bb cc : Int) (acc' : List V) (r : List Bool), (upd H8 D (.lst (acc ++ [y]))) t = some (.lst [.int aa, .int bb, .int cc]) ∧ 0 ≤ cc ∧ cc ≤ 3 + 4 * (i : Int) + ((j + 1 : Nat) : Int) ∧ TabP K (upd H8 D (.lst (acc ++ [y]))) ∧ (upd H8 D (.lst (acc ++ [y]))) pl = some (.lst vs) ∧ (upd H8 D (.lst (acc ++ [y]))) D = some (.lst acc') ∧ r.length = j + 1 ∧
            RpL K (mask [t, pl, D] (upd H8 D (.lst (acc ++ [y])))) vs (L.map rowD) ∧ RpL K (mask [t, pl, D] (upd H8 D (.lst (acc ++ [y])))) acc' (r.map cD)) := fun b y H8 sm hy => by
          have e8 : mask [t, pl, D] (upd H8 D (.lst (acc ++ [y]))) = mask [t, pl, D] H8 := mask_grow (by simp)
          refine ⟨acc, sm.b.lst hac7, ?_, by omega, a6, b6, c6, acc ++ [y], r ++ [b], ?_, n6, by omega, tab_lst (sm.b.lst hac7) (sm.t hT7), ?_, upd_same, by rw [List.length_append, hr]; rfl, ?_, ?_⟩
          · rw [hA7.len, List.length_map, hr]
            have : (100 : Nat) < sizeLine := by decide
            omega
          · rw [upd_ne htD]; exact sm.b.lst hb7
          · rw [upd_ne hplD]; exact sm.b.lst hvs7
          · rw [e8]; exact hR7.up (mm sm)
          · rw [e8, List.map_append]; exact (hA7.up (mm sm)).app (.cons hy .nil)
        by_cases hz : rr = 0
        · rw [decide_eq_true hz]
          refine iteT ?_
          exact fin true .non H7 (Sm.refl H7) .non
        · rw [decide_eq_false hz]
          refine iteF ?_
          refine ⟨[t, pl, D], [.un, .un, .un, .un, .un, .un, .un, .un], .tuple [.int 0, .int 1], ⟨fun b hb => ?_, ⟨[], .un (.un (.un (.un (.un (.un (.un (.un .nil))))))), fun _ z => nomatch z⟩, hT7⟩, rfl, fun y H8 sm hy => fin false y H8 sm hy⟩
          simp only [List.mem_cons, List.not_mem_nil, or_false] at hb
          rcases hb with rfl | rfl | rfl
          · exact .l hb7
          · exact .l hvs7
          · exact .l hac7
      · refine .inl ⟨by show wN ≤ j; omega, ?_⟩
        have ej : j = wN := by omega
        refine ⟨D, acc, rfl, .inl ⟨.inl (.inl hacc), fun rp nrp => ?_⟩⟩
        have htr : t ≠ rp := fun z => by rw [← z, hb5] at nrp; cases nrp
        have hplr : pl ≠ rp := fun z => by rw [← z, hvs5] at nrp; cases nrp
        have hDr : D ≠ rp := fun z => by rw [← z, hacc] at nrp; cases nrp
        have hv6 : (upd H5 rp (.tup acc)) pl = some (.lst vs) := by rw [upd_ne hplr]; exact hvs5
        have sb5 : Sb (mask [t, pl, D] H5) (mask [t, pl] (upd H5 rp (.tup acc))) := by
          refine ⟨fun b o n e => ?_⟩
          obtain ⟨h1, h2⟩ := mask_some e
          have h3 : b ≠ rp := fun z => by rw [z, nrp] at h2; cases h2
          rw [mask_out (fun z => h1 (by simp only [List.mem_cons, List.not_mem_nil, or_false] at z ⊢; rcases z with z | z; exact .inl z; exact .inr (.inl z))), upd_ne h3]
          exact h2
        have em : mask [t, pl] (upd (upd H5 rp (.tup acc)) pl (.lst (vs ++ [.ref rp]))) = mask [t, pl] (upd H5 rp (.tup acc)) := mask_grow (by simp)
        refine ⟨pl, vs, .ref rp, rfl, rfl, hv6, ?_, by omega, _, _, a5, b5, c5, vs ++ [.ref rp], L ++ [r], rfl, ?_, hc50, by omega, tab_lst hv6 (LamX.TabS.ext hT6 (same_upd nrp)), upd_same, by rw [List.length_append, hL]; rfl, ?_, ?_⟩
        · rw [hR5.len, List.length_map, hL]
          have : (100 : Nat) < sizeLine := by decide
          omega
        · rw [upd_ne htpl, upd_ne htr]; exact hb5
        · intro r' hr'
          rcases List.mem_append.mp hr' with z | z
          · exact hLw r' z
          · rw [List.mem_singleton.mp z, hr, ej]
        · rw [em, List.map_append]
          refine (hR5.up sb5).app (.cons (.tup (.inl (.inl ?_)) (hA5.up sb5)) .nil)
          rw [mask_out (by simp only [List.mem_cons, List.not_mem_nil, or_false]; rintro (z | z); exact htr z.symm; exact hplr z.symm), upd_same]
    · refine .inl ⟨by show hN ≤ i; omega, ?_⟩
      refine ⟨.ref t, rfl, .ref pl, rfl, pl, vs, rfl, .inl ⟨.inl (.inl hvs), fun l nl => ?_⟩⟩
      have htl : t ≠ l := fun z => by rw [← z, hb3] at nl; cases nl
      have sb6 : Sb (mask [t, pl] H3) (mask [t] (upd H3 l (.tup vs))) := by
        refine ⟨fun b o n e => ?_⟩
        obtain ⟨h1, h2⟩ := mask_some e
        have h3 : b ≠ l := fun z => by rw [z, nl] at h2; cases h2
        rw [mask_out (fun z => h1 (by simp only [List.mem_cons, List.not_mem_nil, or_false] at z ⊢; exact .inl z)), upd_ne h3]
        exact h2
      refine ⟨t, .ref l, 3 + 4 * (i : Int), shD L, rfl, ⟨aa, bb, cc, by rw [upd_ne htl]; exact hb3, hc0, hc1⟩, by omega, LamX.TabS.ext hT5 (same_upd nl), .tup (.inl (.inl ?_)) (hR.up sb6), hcr hN wN L (by omega) (by omega) (by omega) (by omega) (by omega) hLw, fun H' hT' => q H' hT'⟩
      rw [mask_out (by simp only [List.mem_cons, List.not_mem_nil, or_false]; exact fun z => htl z.symm), upd_same]
end
end PV
end
section -- End
/-! The end: the row's promise, given what the evaluator says. -/
namespace PV
open PySem PySem.Spec PyProof.Rows L2
/-- what the evaluator is to say -/
structure Law : Prop where
  hand : runF tab 40 75 [] = some (.bool true)
  sheet : ∀ (h w : Nat) (s : List (List Bool)), 1 ≤ h → h ≤ 4 → 1 ≤ w → w ≤ 4 → s.length = h → (∀ r ∈ s, r.length = w) → CR 36 (shD s)
abbrev RW : PySem.W.OpenLaw := PySem.Challenge.rw_handsunread_k88_whole_unknown_ones_as_pa
theorem facts {P : Program} {w : World} {K : PySem.W.Frag} {h : Heap} {mg : Str → Option Value} {f : Addr} (L : Law) (X : K.In h) (G : h.Ns mainGlobals mg) (hfa : mg ("law" : Str) = some (.ref f)) (c : KH.Says h K) :
    ∃ fd : FuncData, (∀ (s : Shared) (v : Value), BindsTo s fd ⟨[v], []⟩ [("_law_script", v)]) ∧ ∀ base : Heap, base.Ns mainGlobals mg → LamX.TabB base mg (cL K) (tL K) → FnOk P w K mg base CX0 41 f fd ["_law_script"] (spLaw K 36) := by
  obtain ⟨fd, F, g, b⟩ := fun_of c.d X G (x := "law") (t := 91) (ps := ["_law_script"]) 81 rfl rfl bd_81
  obtain ⟨fdX, FX, gX, bX⟩ := fun_of c.d X G (x := "_law_box") (t := 59) (ps := ["_law_script", "_law_k"]) 49 rfl rfl bd_49
  obtain ⟨fdT, FT, gT, bT⟩ := fun_of c.d X G (x := "_law_take") (t := 60) (ps := ["_law_tin", "_law_below_so"]) 50 rfl rfl bd_50
  obtain ⟨fdC, FC, gC, bC⟩ := fun_of c.d X G (x := "_law_cells") (t := 61) (ps := ["_law_script", "_law_most_so"]) 51 rfl rfl bd_51
  obtain ⟨fdO, FO, gO, bO⟩ := fun_of c.d X G (x := "_law_of") (t := 62) (ps := ["_law_tin", "_law_goods_so"]) 52 rfl rfl bd_52
  obtain ⟨fdR, FR, gR, bR⟩ := fun_of c.d X G (x := "_law_case_right") (t := 89) (ps := ["_law_tin", "_law_sheet_so"]) 79 rfl rfl bd_79
  have e := hfa.symm.trans g
  cases e
  refine ⟨fd, fun s v => FunD.bindsA (ps := ["_law_script"]) F (fun _ _ _ _ _ _ us hl => match us, hl with | [_], _ => rfl) s [v] rfl, fun base hbase TB => ?_⟩
  exact ok_law (k := 36) (wd_of c X G TB) (fun f x m hf => tab_ok chk_each c.d X G f x m hf) F FT gT bT FO gO bO FX gX bX FC gC bC FR gR bR
end PV
open PySem PySem.W PySem.Calls PyProof.Rows
theorem PV.holds_of (L : PV.Law) : PySem.Challenge.rw_handsunread_k88_whole_unknown_ones_as_pa.Holds := by
  w_on; o_law
  refine HandSHeadRun.head_imp (r := OpenLaw.row PySem.Challenge.rw_handsunread_k88_whole_unknown_ones_as_pa) (q := KH.qv) (H := KH.hk) (ob := KH.ob) (M := 4000) (loose := KH.loose) (d := HandSHeadRun.topDef (OpenLaw.row PySem.Challenge.rw_handsunread_k88_whole_unknown_ones_as_pa).prog 91) (kwd := []) KH.ob_eq KH.run
    (by kernel_rfl) (by kernel_rfl) (by kernel_rfl) (by rfl) (by first | assumption | decide +kernel) (by decide +kernel) ⟨rfl, rfl, rfl, rfl, rfl, by decide +kernel⟩ ?hw ?hc
  case hw => w_witness2
  case hc =>
    refine LamX.walk_ofTsE (l := PySem.Challenge.rw_handsunread_k88_whole_unknown_ones_as_pa) (n := 63) (k := 41) (x := "_law_script") (CX := fun _ => L2.CX0) rfl (by decide) (by kernel_rfl) ⟨rfl, by decide, by decide⟩ ?F (fun _ _ _ _ _ z => z)
    intro w mg fa h Y G hmg0
    obtain ⟨K, KX, c⟩ := Y
    have hmg : mg ("law" : PySem.Str) = some (.ref fa) := by
      have e : (HandSHeadRun.topDef (OpenLaw.row PySem.Challenge.rw_handsunread_k88_whole_unknown_ones_as_pa).prog 91).name = ("law" : PySem.Str) := by kernel_rfl
      rw [← e]
      exact hmg0
    obtain ⟨fd, hb, hF⟩ := PV.facts (P := (PySem.Challenge.rw_handsunread_k88_whole_unknown_ones_as_pa).prog) (w := w) L KX G hmg c
    refine ⟨K, KX, fd, [(PV.cL K, PV.tL K)], PV.spLaw K 36, fun p hp => ?_, fun p hp => ?_, fun p hp => ?_, hb, fun H a ns hl _ hT hS => ?_, fun base _ hB hTab => hF base hB (hTab _ (List.mem_singleton_self _))⟩
    · rw [List.mem_singleton.mp hp]
      exact c.empty _ (List.mem_singleton_self _)
    · rw [List.mem_singleton.mp hp]
      exact c.out _ (List.mem_singleton_self _)
    · rw [List.mem_singleton.mp hp]
      exact PySem.W.codeHd_of_K KX (c.hd _ (List.mem_singleton_self _))
    · exact ⟨a, ns, rfl, hS, hl, LamX.TabS.nil (hT _ (List.mem_singleton_self _)), L.hand, L.sheet, fun _ _ => rfl⟩
end
section -- Lem
/-! Steps of the evaluator as lemmas; data of sheets. -/
namespace PV
open PySem L2
/-- the calls at level n -/
def cn (n : Nat) : Bool → Nat → List D → Option D := fun k => if k then runF tab (n - 3) else runF tab (n - 1)
theorem cn_f {n f : Nat} {ds : List D} : cn n false f ds = runF tab (n - 1) f ds := rfl
theorem cn_t {n f : Nat} {ds : List D} : cn n true f ds = runF tab (n - 3) f ds := rfl
theorem run_of {n f : Nat} {df : Df} {ds : List D} {d : D} (hn : 4 ≤ n) (h : tab[f]? = some df) (hl : ds.length = df.k) (hx : exL (cn n) df.body (startR df.n ds) = some (.ret d)) : runF tab n f ds = some d := by
  obtain ⟨m, rfl⟩ : ∃ m, n = m + 4 := ⟨n - 4, by omega⟩
  have e : (fun k : Bool => if k then runF tab (m + 1) else runF tab (m + 3)) = cn (m + 4) := by
    funext k
    unfold cn
    rw [show m + 4 - 3 = m + 1 by omega, show m + 4 - 1 = m + 3 by omega]
  simp only [runF, h, Option.bind_some, runDf, if_pos hl, e, hx]
theorem run_nx {n f : Nat} {df : Df} {ds : List D} {ρ : Rho} (hn : 4 ≤ n) (h : tab[f]? = some df) (hl : ds.length = df.k) (hx : exL (cn n) df.body (startR df.n ds) = some (.nx ρ)) : runF tab n f ds = some .none := by
  obtain ⟨m, rfl⟩ : ∃ m, n = m + 4 := ⟨n - 4, by omega⟩
  have e : (fun k : Bool => if k then runF tab (m + 1) else runF tab (m + 3)) = cn (m + 4) := by
    funext k
    unfold cn
    rw [show m + 4 - 3 = m + 1 by omega, show m + 4 - 1 = m + 3 by omega]
  simp only [runF, h, Option.bind_some, runDf, if_pos hl, e, hx]
section
variable {c : Bool → Nat → List D → Option D} {ρ ρ' : Rho} {r : List S} {d : D} {o : Out}
theorem ex_ret {e : E} (h : evE c e ρ = some d) : exL c (.ret e :: r) ρ = some (.ret d) := by
  simp only [exL, exS, h, Option.bind_some]
theorem ex_nx {s : S} (h : exS c s ρ = some (.nx ρ')) (h2 : exL c r ρ' = some o) : exL c (s :: r) ρ = some o := by
  simp only [exL, h, Option.bind_some, h2]
theorem ex_rt {s : S} (h : exS c s ρ = some (.ret d)) : exL c (s :: r) ρ = some (.ret d) := by
  simp only [exL, h, Option.bind_some]
theorem s_asg {t : T} {e : E} (h : evE c e ρ = some d) (h2 : bindT t d ρ = some ρ') : exS c (.asg t e) ρ = some (.nx ρ') := by
  simp only [exS, h, Option.bind_some, nxO, h2]
theorem s_iteT {t : E} {a b : List S} (h : evE c t ρ = some (.bool true)) (h2 : exL c a ρ = some o) : exS c (.ite t a b) ρ = some o := by
  simp only [exS, h, Option.bind_some, boolO, if_true, h2]
theorem s_iteF {t : E} {a b : List S} (h : evE c t ρ = some (.bool false)) (h2 : exL c b ρ = some o) : exS c (.ite t a b) ρ = some o := by
  simp only [exS, h, Option.bind_some, boolO, h2]
  rfl
theorem mapO_map {α β γ : Type} {f : β → Option γ} {g : α → β} {h : α → γ} : ∀ {l : List α}, (∀ x ∈ l, f (g x) = some (h x)) → mapO f (l.map g) = some (l.map h)
  | [], _ => rfl
  | x :: l, H => by
    simp only [List.map_cons, mapO, H x List.mem_cons_self, Option.bind_some, mapO_map fun y hy => H y (List.mem_cons_of_mem _ hy)]
theorem small_of {n : Nat} (h : n ≤ 5000) : small n = true := by
  unfold small lim
  exact Nat.ble_eq.mpr h
theorem okL_of {ds : List D} (h : ds.length ≤ 5000) : okL ds = some (.list ds) := by
  unfold okL
  rw [small_of h, if_pos rfl]
theorem okT_of {ds : List D} (h : ds.length ≤ 5000) : okT ds = some (.tuple ds) := by
  unfold okT
  rw [small_of h, if_pos rfl]
theorem flat_one {α β : Type} (g : α → β) : ∀ l : List α, (l.map fun x => [g x]).flatten = l.map g
  | [] => rfl
  | x :: l => by simp only [List.map_cons, List.flatten_cons, flat_one g l, List.singleton_append]
theorem flat_filter {α β : Type} (p : α → Bool) (g : α → β) : ∀ l : List α, (l.map fun x => if p x then [g x] else []).flatten = (l.filter p).map g
  | [] => rfl
  | x :: l => by
    cases h : p x with
    | true => simp [List.map_cons, List.flatten_cons, flat_filter p g l, h]
    | false => simp [List.map_cons, List.flatten_cons, flat_filter p g l, h]
/-- [elt for t in it] -/
theorem ev_lc0 {α : Type} {elt it : E} {tg : T} {ws : List (Str × Nat)} (l : List α) (enc : α → D) (g : α → D) (ρx : α → Rho) (hit : (bor ρ it (evE c it ρ)).bind itemsOf = some (l.map enc))
    (hb : ∀ x ∈ l, bindT tg (enc x) (wipeC ρ (ws.map (·.2))) = some (ρx x)) (he : ∀ x ∈ l, evE c elt (ρx x) = some (g x)) (hs : l.length ≤ 5000) : evE c (.lc elt tg it none ws) ρ = some (.list (l.map g)) := by
  simp only [evE, hit, Option.bind_some]
  rw [mapO_map (h := fun x => [g x]) fun x hx => by simp only [hb x hx, Option.bind_some, evQ, under, one1, he x hx]]
  simp only [Option.bind_some, flat_one]
  exact okL_of (by rw [List.length_map]; exact hs)
/-- [elt for t in it if q] -/
theorem ev_lc1 {α : Type} {elt it q : E} {tg : T} {ws : List (Str × Nat)} (l : List α) (enc : α → D) (g : α → D) (p : α → Bool) (ρx : α → Rho) (hit : (bor ρ it (evE c it ρ)).bind itemsOf = some (l.map enc))
    (hb : ∀ x ∈ l, bindT tg (enc x) (wipeC ρ (ws.map (·.2))) = some (ρx x)) (hq : ∀ x ∈ l, evE c q (ρx x) = some (.bool (p x))) (he : ∀ x ∈ l, p x = true → evE c elt (ρx x) = some (g x)) (hs : l.length ≤ 5000) :
    evE c (.lc elt tg it (some q) ws) ρ = some (.list ((l.filter p).map g)) := by
  simp only [evE, hit, Option.bind_some]
  rw [mapO_map (h := fun x => if p x then [g x] else []) fun x hx => by
    simp only [hb x hx, Option.bind_some, evQ, under, hq x hx, boolO]
    cases hp : p x with
    | true => simp only [one1, he x hx hp, Option.bind_some, if_true]
    | false => simp only [Bool.false_eq_true, if_false]]
  simp only [Option.bind_some, flat_filter]
  exact okL_of (by rw [List.length_map]; exact Nat.le_trans (List.length_filter_le _ _) hs)
/-- a loop that goes on -/
theorem loop_nx {α : Type} {f : D → Rho → Option Out} (enc : α → D) (R : List α → Rho) : ∀ (l : List α) (done : List α), (∀ (pre : List α) (x : α) (post : List α), done ++ l = pre ++ x :: post → done.length ≤ pre.length → f (enc x) (R pre) = some (.nx (R (pre ++ [x])))) → loopO f (l.map enc) (R done) = some (.nx (R (done ++ l)))
  | [], done, _ => by rw [List.append_nil]; rfl
  | x :: l, done, H => by
    rw [List.map_cons, loopO, H done x l rfl (Nat.le_refl _)]
    simp only [Option.bind_some]
    rw [loop_nx enc R l (done ++ [x]) fun pre y post e hl => H pre y post (by rw [← e, List.append_assoc]; rfl) (by rw [List.length_append] at hl; omega), List.append_assoc]
    rfl
end
/-! ### data -/
def oc (b : Bool) : D := .tuple [.int (if b then 1 else 0), .int 1]
def cE : Option Bool → D
  | none => .none
  | some b => oc b
def rowE (w : Nat) (r : Nat → Option Bool) : D := .tuple ((List.range w).map fun j => cE (r j))
def shE (h w : Nat) (s : Nat → Nat → Option Bool) : D := .tuple ((List.range h).map fun i => rowE w (s i))
def nD (k : Nat) : D := .int (k : Int)
def nT (l : List Nat) : D := .tuple (l.map nD)
theorem atI_nat {α : Type} {l : List α} {k : Nat} {x : α} (h : l[k]? = some x) : atI l (k : Int) = some x := by
  have hl := (List.getElem?_eq_some_iff.mp h).1
  unfold atI ixN
  rw [if_pos (by omega), if_pos (by omega)]
  exact h
theorem get_range {α : Type} {f : Nat → α} {n k : Nat} (h : k < n) : ((List.range n).map f)[k]? = some (f k) := by
  rw [List.getElem?_map, List.getElem?_range h]
  rfl
theorem ix_sh {h w k : Nat} {s : Nat → Nat → Option Bool} (hk : k < h) : ixF (shE h w s) (nD k) = some (rowE w (s k)) := atI_nat (get_range hk)
theorem ix_row {w k : Nat} {r : Nat → Option Bool} (hk : k < w) : ixF (rowE w r) (nD k) = some (cE (r k)) := atI_nat (get_range hk)
theorem len_sh {h w : Nat} {s : Nat → Nat → Option Bool} : f1F .len (shE h w s) = some (nD h) := by
  simp only [shE, f1F, List.length_map, List.length_range, nD]
theorem len_row {w : Nat} {r : Nat → Option Bool} : f1F .len (rowE w r) = some (nD w) := by
  simp only [rowE, f1F, List.length_map, List.length_range, nD]
theorem len_nT {l : List Nat} : f1F .len (nT l) = some (nD l.length) := by
  simp only [nT, f1F, List.length_map, nD]
theorem items_nT {l : List Nat} : itemsOf (nT l) = some (l.map nD) := rfl
theorem items_sh {h w : Nat} {s : Nat → Nat → Option Bool} : itemsOf (shE h w s) = some ((List.range h).map fun i => rowE w (s i)) := rfl
theorem items_row {w : Nat} {r : Nat → Option Bool} : itemsOf (rowE w r) = some ((List.range w).map fun j => cE (r j)) := rfl
theorem range0 (n : Nat) : rangeD 0 (n : Int) = (List.range n).map nD := by
  unfold rangeD
  have : ((n : Int) - 0).toNat = n := by omega
  rw [this]
  refine List.map_congr_left fun i _ => ?_
  rw [Int.zero_add]
  rfl
theorem okR0 {n : Nat} (h : n ≤ 5000) : okR 0 (n : Int) = true := by
  unfold okR
  simp only [Bool.and_eq_true, decide_eq_true_eq]
  omega
theorem isN_c (x : Option Bool) : isNone (cE x) = x.isNone := by
  cases x <;> rfl
end PV
end
section -- M1
namespace PV
open PySem L2
section
variable {n h w : Nat} {s : Nat → Nat → Option Bool}
def told (w : Nat) (s : Nat → Nat → Option Bool) (rows : List Nat) : List Nat := (List.range w).filter fun j => rows.all fun k => (s k j).isSome
/-- all([bool]) of a comprehension -/
theorem ev_all {c : Bool → Nat → List D → Option D} {ρ : Rho} {e : E} {α : Type} {l : List α} {p : α → Bool} (h : bor ρ e (evE c e ρ) = some (.list (l.map fun x => PyData.bool (p x)))) : evE c (.f1 .all e) ρ = some (.bool (l.all p)) := by
  have e1 : ∀ l : List α, boolsD (l.map fun x => PyData.bool (p x)) = some (l.map p) := by
    intro l
    induction l with
    | nil => rfl
    | cons x l ih => simp only [List.map_cons, boolsD, ih, Option.bind_some]
  simp only [evE, h, Option.bind_some, f1F, e1, List.all_map]
  rfl
theorem ev_any {c : Bool → Nat → List D → Option D} {ρ : Rho} {e : E} {α : Type} {l : List α} {p : α → Bool} (h : bor ρ e (evE c e ρ) = some (.list (l.map fun x => PyData.bool (p x)))) : evE c (.f1 .any e) ρ = some (.bool (l.any p)) := by
  have e1 : ∀ l : List α, boolsD (l.map fun x => PyData.bool (p x)) = some (l.map p) := by
    intro l
    induction l with
    | nil => rfl
    | cons x l ih => simp only [List.map_cons, boolsD, ih, Option.bind_some]
  simp only [evE, h, Option.bind_some, f1F, e1, List.any_map]
  rfl
theorem ev_tup {c : Bool → Nat → List D → Option D} {ρ : Rho} {e : E} {ds : List D} (h : bor ρ e (evE c e ρ) = some (.list ds)) : evE c (.f1 .tuple e) ρ = some (.tuple ds) := by
  simp only [evE, h, Option.bind_some, f1F]
theorem e30 {rows : List Nat} (hn : 4 ≤ n) (hh : 0 < h) (hw : w ≤ 5000) (hr : ∀ k ∈ rows, k < h) (hl : rows.length ≤ 5000) : runF tab n 30 [shE h w s, nT rows] = some (nT (told w s rows)) := by
  refine run_of hn rfl rfl (ex_ret (ev_tup ?_))
  refine ev_lc1 (List.range w) nD nD (fun j => rows.all fun k => (s k j).isSome) (fun j => [.val (shE h w s), .val (nT rows), .val (nD j), .un]) ?_ (fun _ _ => rfl) ?_ (fun _ _ _ => rfl) (by rw [List.length_range]; exact hw)
  · have e0 : evE (cn n) (.f1 .len (.ix (.var 0) (.cI 0))) [.val (shE h w s), .val (nT rows), .un, .un] = some (nD w) := by
      simp only [evE, bor, getB, List.getElem?_cons_zero, Option.bind_some]
      rw [show (PyData.int 0) = nD 0 from rfl, ix_sh hh]
      exact len_row
    simp only [bor]
    rw [evE, show startR df_30.n [shE h w s, nT rows] = [.val (shE h w s), .val (nT rows), .un, .un] from rfl, e0]
    simp only [nD, Option.bind_some, intO, okR0 hw, if_true, range0, itemsOf]
  · intro j hj
    have hj := List.mem_range.mp hj
    refine ev_all (p := fun k => (s k j).isSome) ?_
    refine ev_lc0 rows nD (fun k => .bool ((s k j).isSome)) (fun k => [.val (shE h w s), .val (nT rows), .val (nD j), .val (nD k)]) rfl (fun _ _ => rfl) (fun k hk => ?_) hl
    simp only [evE, bor, getB, getV, List.getElem?_cons_zero, List.getElem?_cons_succ, Option.bind_some, ix_sh (hr k hk), ix_row hj, isN_c]
    cases s k j <;> rfl
theorem it_rng {c : Bool → Nat → List D → Option D} {ρ : Rho} {e : E} {k : Nat} (h : evE c e ρ = some (nD k)) (hk : k ≤ 5000) : (bor ρ (.rng1 e) (evE c (.rng1 e) ρ)).bind itemsOf = some ((List.range k).map nD) := by
  simp only [bor]
  rw [evE, h]
  simp only [nD, Option.bind_some, intO, okR0 hk, if_true, range0, itemsOf]
theorem ev_len {c : Bool → Nat → List D → Option D} {ρ : Rho} {e : E} {d d' : D} (h : bor ρ e (evE c e ρ) = some d) (h2 : f1F .len d = some d') : evE c (.f1 .len e) ρ = some d' := by
  simp only [evE, h, Option.bind_some, h2]
theorem ev_ix {c : Bool → Nat → List D → Option D} {ρ : Rho} {a b : E} {d k d' : D} (h : bor ρ a (evE c a ρ) = some d) (h1 : evE c b ρ = some k) (h2 : ixF d k = some d') : evE c (.ix a b) ρ = some d' := by
  simp only [evE, h, Option.bind_some, h1, h2]
/-- the cells at the places rows x cols -/
def crE (s : Nat → Nat → Option Bool) (rows cols : List Nat) : D := .tuple (rows.map fun i => .tuple (cols.map fun j => cE (s i j)))
theorem sh_cr : shE h w s = crE s (List.range h) (List.range w) := rfl
theorem e29 {rows cols : List Nat} (hn : 4 ≤ n) (hr : ∀ k ∈ rows, k < h) (hc : ∀ k ∈ cols, k < w) (hl : rows.length ≤ 5000) (hl2 : cols.length ≤ 5000) : runF tab n 29 [shE h w s, nT rows, nT cols] = some (crE s rows cols) := by
  refine run_of hn rfl rfl (ex_ret (ev_tup ?_))
  refine ev_lc0 rows nD (fun i => .tuple (cols.map fun j => cE (s i j))) (fun i => [.val (shE h w s), .val (nT rows), .val (nT cols), .un, .val (nD i)]) rfl (fun _ _ => rfl) (fun i hi => ev_tup ?_) hl
  refine ev_lc0 cols nD (fun j => cE (s i j)) (fun j => [.val (shE h w s), .val (nT rows), .val (nT cols), .val (nD j), .val (nD i)]) rfl (fun _ _ => rfl) (fun j hj => ?_) hl2
  exact ev_ix (ev_ix rfl rfl (ix_sh (hr i hi))) rfl (ix_row (hc j hj))
theorem e64 {rows cols : List Nat} (hn : 4 ≤ n) (hr : ∀ k ∈ rows, k < h) (hc : ∀ k ∈ cols, k < w) (hl : rows.length ≤ 5000) (hl2 : cols.length ≤ 5000) : runF tab n 64 [shE h w s, nT rows, nT cols] = some (crE s rows cols) := by
  refine run_of hn rfl rfl (ex_ret (ev_tup ?_))
  refine ev_lc0 rows nD (fun i => .tuple (cols.map fun j => cE (s i j))) (fun i => [.val (shE h w s), .val (nT rows), .val (nT cols), .un, .val (nD i)]) rfl (fun _ _ => rfl) (fun i hi => ev_tup ?_) hl
  refine ev_lc0 cols nD (fun j => cE (s i j)) (fun j => [.val (shE h w s), .val (nT rows), .val (nT cols), .val (nD j), .val (nD i)]) rfl (fun _ _ => rfl) (fun j hj => ?_) hl2
  exact ev_ix (ev_ix rfl rfl (ix_sh (hr i hi))) rfl (ix_row (hc j hj))
theorem e17 (hn : 4 ≤ n) (hh : h ≤ 5000) (hw : w ≤ 5000) : runF tab n 17 [shE h w s, nD w] = some (shE w h fun j i => s i j) := by
  refine run_of hn rfl rfl (ex_ret (ev_tup ?_))
  refine ev_lc0 (List.range w) nD (fun j => rowE h fun i => s i j) (fun j => [.val (shE h w s), .val (nD w), .un, .val (nD j)]) (it_rng rfl hw) (fun _ _ => rfl) (fun j hj => ev_tup ?_) (by rw [List.length_range]; exact hw)
  refine ev_lc0 (List.range h) (fun i => rowE w (s i)) (fun i => cE (s i j)) (fun i => [.val (shE h w s), .val (nD w), .val (rowE w (s i)), .val (nD j)]) rfl (fun _ _ => rfl) (fun i hi => ?_) (by rw [List.length_range]; exact hh)
  exact ev_ix rfl rfl (ix_row (List.mem_range.mp hj))
theorem e57 (hn : 4 ≤ n) (hh : h ≤ 5000) (hw : w ≤ 5000) : runF tab n 57 [shE h w s, nD w] = some (shE w h fun j i => s i j) := by
  refine run_of hn rfl rfl (ex_ret (ev_tup ?_))
  refine ev_lc0 (List.range w) nD (fun j => rowE h fun i => s i j) (fun j => [.val (shE h w s), .val (nD w), .un, .val (nD j)]) (it_rng rfl hw) (fun _ _ => rfl) (fun j hj => ev_tup ?_) (by rw [List.length_range]; exact hw)
  refine ev_lc0 (List.range h) (fun i => rowE w (s i)) (fun i => cE (s i j)) (fun i => [.val (shE h w s), .val (nD w), .val (rowE w (s i)), .val (nD j)]) rfl (fun _ _ => rfl) (fun i hi => ?_) (by rw [List.length_range]; exact hh)
  exact ev_ix rfl rfl (ix_row (List.mem_range.mp hj))
/-! tupled, _law_lists -/
theorem e4_t {α : Type} {l : List α} {f g : α → D} (hn : 4 ≤ n) (hl : l.length ≤ 5000) (H : ∀ x ∈ l, runF tab (n - 1) 4 [f x] = some (g x)) : runF tab n 4 [.tuple (l.map f)] = some (.tuple (l.map g)) := by
  refine run_of hn rfl rfl (ex_ret ?_)
  have e : evE (cn n) (.f1 .tuple (.lc (.call 4 [(.var 1)]) (.one 1) (.var 0) none [("part", 1)])) [.val (.tuple (l.map f)), .un] = some (.tuple (l.map g)) := by
    refine ev_tup (ev_lc0 l f g (fun x => [.val (.tuple (l.map f)), .val (f x)]) rfl (fun _ _ => rfl) (fun x hx => ?_) hl)
    simp only [evE, evL, getV, List.getElem?_cons_zero, List.getElem?_cons_succ, Option.bind_some, cn_f, H x hx]
  rw [evE, show startR df_4.n [.tuple (l.map f)] = [.val (.tuple (l.map f)), .un] from rfl, e]
  rfl
theorem e4_l {α : Type} {l : List α} {f g : α → D} (hn : 4 ≤ n) (hl : l.length ≤ 5000) (H : ∀ x ∈ l, runF tab (n - 1) 4 [f x] = some (g x)) : runF tab n 4 [.list (l.map f)] = some (.tuple (l.map g)) := by
  refine run_of hn rfl rfl (ex_ret ?_)
  have e : evE (cn n) (.f1 .tuple (.lc (.call 4 [(.var 1)]) (.one 1) (.var 0) none [("part", 1)])) [.val (.list (l.map f)), .un] = some (.tuple (l.map g)) := by
    refine ev_tup (ev_lc0 l f g (fun x => [.val (.list (l.map f)), .val (f x)]) rfl (fun _ _ => rfl) (fun x hx => ?_) hl)
    simp only [evE, evL, getV, List.getElem?_cons_zero, List.getElem?_cons_succ, Option.bind_some, cn_f, H x hx]
  rw [evE, show startR df_4.n [.list (l.map f)] = [.val (.list (l.map f)), .un] from rfl, e]
  rfl
theorem e4_i {i : Int} (hn : 4 ≤ n) : runF tab n 4 [.int i] = some (.int i) := run_of hn rfl rfl (ex_ret rfl)
theorem e4_n (hn : 4 ≤ n) : runF tab n 4 [.none] = some .none := run_of hn rfl rfl (ex_ret rfl)
theorem e4_c {x : Option Bool} (hn : 5 ≤ n) : runF tab n 4 [cE x] = some (cE x) := by
  cases x with
  | none => exact e4_n (by omega)
  | some b => exact e4_t (l := [(if b then 1 else 0 : Int), 1]) (f := fun i => .int i) (g := fun i => .int i) (by omega) (show 2 ≤ 5000 by decide) fun i _ => e4_i (by omega)
theorem e4_cr {rows cols : List Nat} (hn : 7 ≤ n) (h1 : rows.length ≤ 5000) (h2 : cols.length ≤ 5000) : runF tab n 4 [crE s rows cols] = some (crE s rows cols) :=
  e4_t (by omega) h1 fun i _ => e4_t (by omega) h2 fun j _ => e4_c (by omega)
/-- lists in place of tuples -/
def cL_ : Option Bool → D
  | none => .none
  | some b => .list [.int (if b then 1 else 0), .int 1]
def soft (h w : Nat) (s : Nat → Nat → Option Bool) : D := .list ((List.range h).map fun i => .list ((List.range w).map fun j => cL_ (s i j)))
theorem e4_cl {x : Option Bool} (hn : 5 ≤ n) : runF tab n 4 [cL_ x] = some (cE x) := by
  cases x with
  | none => exact e4_n (by omega)
  | some b => exact e4_l (l := [(if b then 1 else 0 : Int), 1]) (f := fun i => .int i) (g := fun i => .int i) (by omega) (show 2 ≤ 5000 by decide) fun i _ => e4_i (by omega)
theorem e4_soft (hn : 7 ≤ n) (h1 : h ≤ 5000) (h2 : w ≤ 5000) : runF tab n 4 [soft h w s] = some (shE h w s) :=
  e4_l (by omega) (by rw [List.length_range]; exact h1) fun i _ => e4_l (by omega) (by rw [List.length_range]; exact h2) fun j _ => e4_cl (by omega)
theorem e49_t {α : Type} {l : List α} {f g : α → D} (hn : 4 ≤ n) (hl : l.length ≤ 5000) (H : ∀ x ∈ l, runF tab (n - 1) 49 [f x] = some (g x)) : runF tab n 49 [.tuple (l.map f)] = some (.list (l.map g)) := by
  refine run_of hn rfl rfl (ex_ret ?_)
  have e : evE (cn n) (.lc (.call 49 [(.var 1)]) (.one 1) (.var 0) none [("_law_bit", 1)]) [.val (.tuple (l.map f)), .un] = some (.list (l.map g)) := by
    refine ev_lc0 l f g (fun x => [.val (.tuple (l.map f)), .val (f x)]) rfl (fun _ _ => rfl) (fun x hx => ?_) hl
    simp only [evE, evL, getV, List.getElem?_cons_zero, List.getElem?_cons_succ, Option.bind_some, cn_f, H x hx]
  rw [evE, show startR df_49.n [.tuple (l.map f)] = [.val (.tuple (l.map f)), .un] from rfl, e]
  rfl
theorem e49_c {x : Option Bool} (hn : 5 ≤ n) : runF tab n 49 [cE x] = some (cL_ x) := by
  cases x with
  | none => exact run_of (by omega) rfl rfl (ex_ret rfl)
  | some b => exact e49_t (l := [(if b then 1 else 0 : Int), 1]) (f := fun i => .int i) (g := fun i => .int i) (by omega) (show 2 ≤ 5000 by decide) fun i _ => run_of (by omega) rfl rfl (ex_ret rfl)
theorem e49_sh (hn : 7 ≤ n) (h1 : h ≤ 5000) (h2 : w ≤ 5000) : runF tab n 49 [shE h w s] = some (soft h w s) :=
  e49_t (by omega) (by rw [List.length_range]; exact h1) fun i _ => e49_t (by omega) (by rw [List.length_range]; exact h2) fun j _ => e49_c (by omega)
end
end PV
end
section -- M2
/-! Ranks of 0/1 matrices with at most one 1 in each row and column, determinants; lots: by evaluation. -/
namespace PV
open PySem L2
def isI (d : Option D) (k : Nat) : Bool := match d with
  | some (.int i) => decide (i = (k : Int))
  | _ => false
theorem isI_eq {d : Option D} {k : Nat} (h : isI d k = true) : d = some (nD k) := by
  unfold isI at h
  split at h
  · rw [of_decide_eq_true h]
    rfl
  · cases h
def mtD (m : List (List Bool)) : D := .tuple (m.map fun r => .tuple (r.map oc))
/-- rows of width w with at most one true, at a place not in used -/
def ppm (w : Nat) : Nat → List Nat → List (List (List Bool))
  | 0, _ => [[]]
  | h + 1, used => ((ppm w h used).map fun m => List.replicate w false :: m) ++ ((List.range w).filter fun k => !used.contains k).flatMap fun k => (ppm w h (k :: used)).map fun m => ((List.range w).map fun j => decide (j = k)) :: m
def onesM (m : List (List Bool)) : Nat := (m.map fun r => (r.filter id).length).sum
def szs : List (Nat × Nat) := [(1,1),(1,2),(1,3),(1,4),(2,1),(2,2),(2,3),(2,4),(3,1),(3,2),(3,3),(3,4),(4,1),(4,2),(4,3),(4,4)]
theorem rk_all (n : Nat) : (szs.all fun z => (ppm z.2 z.1 []).all fun m => isI (runF tab (n + 14) 22 [mtD m]) (onesM m)) = true := by kernel_rfl
end PV
end
section -- LR
namespace PV
open PySem L2
def lrOk (n : Nat) (m : List (List Bool)) : Bool := isI (runF tab (n + 14) 61 [mtD m]) (onesM m)
theorem all_cut {α : Type} {p : α → Bool} {l : List α} (a k b : Nat) (hb : b = a + k) (h1 : ((l.drop a).take k).all p = true) (h2 : (l.drop b).all p = true) : (l.drop a).all p = true := by
  subst hb
  rw [← List.take_append_drop k (l.drop a), List.all_append, h1, List.drop_drop, h2]
  rfl
theorem lr_s (n : Nat) : ([(1,1),(1,2),(1,3),(1,4),(2,1),(2,2),(2,3),(3,1),(3,2),(4,1)] : List (Nat × Nat)).all (fun z => (ppm z.2 z.1 []).all (lrOk n)) = true := by kernel_rfl
theorem lr_24_0 (n : Nat) : ((ppm 4 2 []).drop 0).all (lrOk n) = true := by kernel_rfl
theorem lr_24 (n : Nat) : (ppm 4 2 []).all (lrOk n) = true := lr_24_0 n
theorem lr_42_0 (n : Nat) : ((ppm 2 4 []).drop 0).all (lrOk n) = true := by kernel_rfl
theorem lr_42 (n : Nat) : (ppm 2 4 []).all (lrOk n) = true := lr_42_0 n
theorem lr_33_0 (n : Nat) : (((ppm 3 3 []).drop 0).take 17).all (lrOk n) = true := by kernel_rfl
theorem lr_33_1 (n : Nat) : ((ppm 3 3 []).drop 17).all (lrOk n) = true := by kernel_rfl
theorem lr_33 (n : Nat) : (ppm 3 3 []).all (lrOk n) = true := all_cut 0 17 17 (by rfl) (lr_33_0 n) (lr_33_1 n)
theorem lr_34_0 (n : Nat) : (((ppm 4 3 []).drop 0).take 15).all (lrOk n) = true := by kernel_rfl
theorem lr_34_1 (n : Nat) : (((ppm 4 3 []).drop 15).take 15).all (lrOk n) = true := by kernel_rfl
theorem lr_34_2 (n : Nat) : (((ppm 4 3 []).drop 30).take 15).all (lrOk n) = true := by kernel_rfl
theorem lr_34_3 (n : Nat) : (((ppm 4 3 []).drop 45).take 15).all (lrOk n) = true := by kernel_rfl
theorem lr_34_4 (n : Nat) : ((ppm 4 3 []).drop 60).all (lrOk n) = true := by kernel_rfl
theorem lr_34 (n : Nat) : (ppm 4 3 []).all (lrOk n) = true := all_cut 0 15 15 (by rfl) (lr_34_0 n) (all_cut 15 15 30 (by rfl) (lr_34_1 n) (all_cut 30 15 45 (by rfl) (lr_34_2 n) (all_cut 45 15 60 (by rfl) (lr_34_3 n) (lr_34_4 n))))
theorem lr_43_0 (n : Nat) : (((ppm 3 4 []).drop 0).take 15).all (lrOk n) = true := by kernel_rfl
theorem lr_43_1 (n : Nat) : (((ppm 3 4 []).drop 15).take 15).all (lrOk n) = true := by kernel_rfl
theorem lr_43_2 (n : Nat) : (((ppm 3 4 []).drop 30).take 15).all (lrOk n) = true := by kernel_rfl
theorem lr_43_3 (n : Nat) : (((ppm 3 4 []).drop 45).take 15).all (lrOk n) = true := by kernel_rfl
theorem lr_43_4 (n : Nat) : ((ppm 3 4 []).drop 60).all (lrOk n) = true := by kernel_rfl
theorem lr_43 (n : Nat) : (ppm 3 4 []).all (lrOk n) = true := all_cut 0 15 15 (by rfl) (lr_43_0 n) (all_cut 15 15 30 (by rfl) (lr_43_1 n) (all_cut 30 15 45 (by rfl) (lr_43_2 n) (all_cut 45 15 60 (by rfl) (lr_43_3 n) (lr_43_4 n))))
theorem lr_44_0 (n : Nat) : (((ppm 4 4 []).drop 0).take 14).all (lrOk n) = true := by kernel_rfl
theorem lr_44_1 (n : Nat) : (((ppm 4 4 []).drop 14).take 14).all (lrOk n) = true := by kernel_rfl
theorem lr_44_2 (n : Nat) : (((ppm 4 4 []).drop 28).take 14).all (lrOk n) = true := by kernel_rfl
theorem lr_44_3 (n : Nat) : (((ppm 4 4 []).drop 42).take 14).all (lrOk n) = true := by kernel_rfl
theorem lr_44_4 (n : Nat) : (((ppm 4 4 []).drop 56).take 14).all (lrOk n) = true := by kernel_rfl
theorem lr_44_5 (n : Nat) : (((ppm 4 4 []).drop 70).take 14).all (lrOk n) = true := by kernel_rfl
theorem lr_44_6 (n : Nat) : (((ppm 4 4 []).drop 84).take 14).all (lrOk n) = true := by kernel_rfl
theorem lr_44_7 (n : Nat) : (((ppm 4 4 []).drop 98).take 14).all (lrOk n) = true := by kernel_rfl
theorem lr_44_8 (n : Nat) : (((ppm 4 4 []).drop 112).take 14).all (lrOk n) = true := by kernel_rfl
theorem lr_44_9 (n : Nat) : (((ppm 4 4 []).drop 126).take 14).all (lrOk n) = true := by kernel_rfl
theorem lr_44_10 (n : Nat) : (((ppm 4 4 []).drop 140).take 14).all (lrOk n) = true := by kernel_rfl
theorem lr_44_11 (n : Nat) : (((ppm 4 4 []).drop 154).take 14).all (lrOk n) = true := by kernel_rfl
theorem lr_44_12 (n : Nat) : (((ppm 4 4 []).drop 168).take 14).all (lrOk n) = true := by kernel_rfl
theorem lr_44_13 (n : Nat) : (((ppm 4 4 []).drop 182).take 14).all (lrOk n) = true := by kernel_rfl
theorem lr_44_14 (n : Nat) : ((ppm 4 4 []).drop 196).all (lrOk n) = true := by kernel_rfl
theorem lr_44 (n : Nat) : (ppm 4 4 []).all (lrOk n) = true := all_cut 0 14 14 (by rfl) (lr_44_0 n) (all_cut 14 14 28 (by rfl) (lr_44_1 n) (all_cut 28 14 42 (by rfl) (lr_44_2 n) (all_cut 42 14 56 (by rfl) (lr_44_3 n) (all_cut 56 14 70 (by rfl) (lr_44_4 n) (all_cut 70 14 84 (by rfl) (lr_44_5 n) (all_cut 84 14 98 (by rfl) (lr_44_6 n) (all_cut 98 14 112 (by rfl) (lr_44_7 n) (all_cut 112 14 126 (by rfl) (lr_44_8 n) (all_cut 126 14 140 (by rfl) (lr_44_9 n) (all_cut 140 14 154 (by rfl) (lr_44_10 n) (all_cut 154 14 168 (by rfl) (lr_44_11 n) (all_cut 168 14 182 (by rfl) (lr_44_12 n) (all_cut 182 14 196 (by rfl) (lr_44_13 n) (lr_44_14 n))))))))))))))
end PV
end
section -- M3
namespace PV
open PySem L2
/-! windows of a sheet whose ones stand at most once in each row and column -/
/-- at most one 1 in each row and column -/
def Pm (h w : Nat) (s : Nat → Nat → Option Bool) : Prop := ∀ i j i' j', i < h → i' < h → j < w → j' < w → s i j = some true → s i' j' = some true → (i = i' ↔ j = j')
def one? (x : Option Bool) : Bool := x == some true
theorem one_iff {x : Option Bool} : one? x = true ↔ x = some true := by
  unfold one?
  exact beq_iff_eq
def mt (s : Nat → Nat → Option Bool) (R C : List Nat) : List (List Bool) := R.map fun i => C.map fun j => one? (s i j)
def ones (s : Nat → Nat → Option Bool) (R C : List Nat) : Nat := (R.map fun i => (C.filter fun j => one? (s i j)).length).sum
theorem onesM_mt (s : Nat → Nat → Option Bool) (R C : List Nat) : onesM (mt s R C) = ones s R C := by
  unfold onesM mt ones
  rw [List.map_map]
  congr 1
  refine List.map_congr_left fun i _ => ?_
  show ((C.map fun j => one? (s i j)).filter id).length = _
  rw [List.filter_map, List.length_map]
  rfl
theorem cr_mt {s : Nat → Nat → Option Bool} {R C : List Nat} (ht : ∀ i ∈ R, ∀ j ∈ C, (s i j).isSome = true) : crE s R C = mtD (mt s R C) := by
  unfold crE mtD mt
  rw [List.map_map]
  refine congrArg _ (List.map_congr_left fun i hi => ?_)
  show _ = PyData.tuple ((C.map fun j => one? (s i j)).map oc)
  rw [List.map_map]
  refine congrArg _ (List.map_congr_left fun j hj => ?_)
  have := ht i hi j hj
  cases e : s i j with
  | none => rw [e] at this; cases this
  | some b => cases b <;> simp [cE, one?, e]
theorem row_zero {P : Nat → Bool} : ∀ {C : List Nat}, (∀ j ∈ C, P j = false) → C.map P = List.replicate C.length false
  | [], _ => rfl
  | j :: C, h => by rw [List.map_cons, h j List.mem_cons_self, row_zero fun k hk => h k (List.mem_cons_of_mem _ hk), List.length_cons, List.replicate_succ]
theorem row_one {P : Nat → Bool} {C : List Nat} {k : Nat} {a : Nat} (hk : C[k]? = some a) (ha : P a = true) (hu : ∀ l b, C[l]? = some b → P b = true → l = k) : C.map P = (List.range C.length).map fun j => decide (j = k) := by
  refine List.ext_getElem? fun l => ?_
  rw [List.getElem?_map, List.getElem?_map]
  by_cases hl : l < C.length
  · rw [List.getElem?_range hl, List.getElem?_eq_getElem hl]
    simp only [Option.map_some]
    by_cases e : l = k
    · subst e
      rw [List.getElem?_eq_getElem hl] at hk
      cases hk
      rw [ha, decide_eq_true rfl]
    · rw [decide_eq_false e]
      cases q : P C[l] with
      | false => rfl
      | true => exact absurd (hu l _ (List.getElem?_eq_getElem hl) q) e
  · rw [List.getElem?_eq_none (by omega), List.getElem?_eq_none (by rw [List.length_range]; omega)]
    rfl
theorem nodup_get {C : List Nat} (h : C.Nodup) {k l a : Nat} (h1 : C[k]? = some a) (h2 : C[l]? = some a) : k = l := by
  obtain ⟨a1, a2⟩ := List.getElem?_eq_some_iff.mp h1
  obtain ⟨b1, b2⟩ := List.getElem?_eq_some_iff.mp h2
  have hp := List.pairwise_iff_getElem.mp h
  rcases Nat.lt_trichotomy k l with z | z | z
  · exact absurd (a2.trans b2.symm) (hp k l a1 b1 z)
  · exact z
  · exact absurd (b2.trans a2.symm) (hp l k b1 a1 z)
theorem mt_mem {h w : Nat} {s : Nat → Nat → Option Bool} (pm : Pm h w s) {C : List Nat} (hC : ∀ j ∈ C, j < w) (nd : C.Nodup) : ∀ (R : List Nat) (used : List Nat), R.Nodup → (∀ i ∈ R, i < h) → (∀ k ∈ used, ∀ a, C[k]? = some a → ∀ i ∈ R, one? (s i a) = false) → mt s R C ∈ ppm C.length R.length used
  | [], used, _, _, _ => List.mem_singleton.mpr rfl
  | i :: R, used, nr, hR, hu => by
    have nr' := (List.nodup_cons.mp nr)
    have hR' : ∀ i ∈ R, i < h := fun x hx => hR x (List.mem_cons_of_mem _ hx)
    rw [List.length_cons]
    unfold ppm
    show (C.map fun j => one? (s i j)) :: mt s R C ∈ _
    rw [List.mem_append]
    by_cases hz : ∀ j ∈ C, one? (s i j) = false
    · refine .inl (List.mem_map.mpr ⟨mt s R C, mt_mem pm hC nd R used nr'.2 hR' fun k hk a ha x hx => hu k hk a ha x (List.mem_cons_of_mem _ hx), ?_⟩)
      rw [row_zero hz]
    · refine .inr ?_
      obtain ⟨j, hj, hp⟩ : ∃ j ∈ C, one? (s i j) = true := by
        refine Classical.byContradiction fun hn => hz fun j hj => ?_
        cases q : one? (s i j) with
        | false => rfl
        | true => exact absurd ⟨j, hj, q⟩ hn
      obtain ⟨k, hk⟩ := List.getElem?_of_mem hj
      have hkl := (List.getElem?_eq_some_iff.mp hk).1
      rw [List.mem_flatMap]
      refine ⟨k, List.mem_filter.mpr ⟨List.mem_range.mpr hkl, ?_⟩, List.mem_map.mpr ⟨mt s R C, mt_mem pm hC nd R (k :: used) nr'.2 hR' fun l hl a ha x hx => ?_, ?_⟩⟩
      · cases q : used.contains k with
        | false => rfl
        | true =>
          have := hu k (List.contains_iff_mem.mp q) j hk i List.mem_cons_self
          rw [hp] at this
          cases this
      · rcases List.mem_cons.mp hl with rfl | hl
        · rw [hk] at ha
          cases ha
          cases q : one? (s x j) with
          | false => rfl
          | true =>
            have := (pm i j x j (hR i List.mem_cons_self) (hR' x hx) (hC j hj) (hC j hj) (one_iff.mp hp) (one_iff.mp q)).mpr rfl
            exact absurd (this ▸ hx) nr'.1
        · exact hu l hl a ha x (List.mem_cons_of_mem _ hx)
      · rw [row_one hk hp fun l b hl hb => ?_]
        have hbC := List.mem_of_getElem? hl
        have := (pm i b i j (hR i List.mem_cons_self) (hR i List.mem_cons_self) (hC b hbC) (hC j hj) (one_iff.mp hb) (one_iff.mp hp)).mp rfl
        exact nodup_get nd hl (this ▸ hk)
theorem szs_mem {a b : Nat} (h1 : 1 ≤ a) (h2 : a ≤ 4) (h3 : 1 ≤ b) (h4 : b ≤ 4) : (a, b) ∈ szs := by
  have e1 : a = 1 ∨ a = 2 ∨ a = 3 ∨ a = 4 := by omega
  have e2 : b = 1 ∨ b = 2 ∨ b = 3 ∨ b = 4 := by omega
  rcases e1 with rfl | rfl | rfl | rfl <;> rcases e2 with rfl | rfl | rfl | rfl <;> decide
/-- rank of a told window -/
theorem e22 {n h w : Nat} {s : Nat → Nat → Option Bool} {R C : List Nat} (hn : 14 ≤ n) (pm : Pm h w s) (hR : ∀ i ∈ R, i < h) (hC : ∀ j ∈ C, j < w) (nr : R.Nodup) (nc : C.Nodup) (ht : ∀ i ∈ R, ∀ j ∈ C, (s i j).isSome = true) (r1 : 1 ≤ R.length) (r2 : R.length ≤ 4) (c1 : 1 ≤ C.length) (c2 : C.length ≤ 4) :
    runF tab n 22 [crE s R C] = some (nD (ones s R C)) := by
  obtain ⟨m, rfl⟩ : ∃ m, n = m + 14 := ⟨n - 14, by omega⟩
  have h1 := List.all_eq_true.mp (List.all_eq_true.mp (rk_all m) _ (szs_mem r1 r2 c1 c2)) _ (mt_mem pm hC nc R [] nr hR fun k hk => nomatch hk)
  rw [cr_mt ht, ← onesM_mt]
  exact isI_eq h1
end PV
end
section -- M4
namespace PV
open PySem L2
def lots : Nat → List (List Nat)
  | 0 => [[]]
  | 1 => [[],[0]]
  | 2 => [[],[0],[1],[0,1]]
  | 3 => [[],[0],[1],[2],[0,1],[0,2],[1,2],[0,1,2]]
  | 4 => [[],[0],[1],[2],[3],[0,1],[0,2],[0,3],[1,2],[1,3],[2,3],[0,1,2],[0,1,3],[0,2,3],[1,2,3],[0,1,2,3]]
  | _ => []
theorem e8_0 (n : Nat) : ∀ h ∈ [0,1,2,3,4], runF tab (n + 4) 8 [.list ((List.range h).map nD)] = some (.list ((lots h).map nT)) := by
  simp only [List.forall_mem_cons]
  exact ⟨by kernel_rfl, by kernel_rfl, by kernel_rfl, by kernel_rfl, by kernel_rfl, fun _ z => nomatch z⟩
theorem e62_0 (n : Nat) : ∀ h ∈ [0,1,2,3,4], runF tab (n + 4) 62 [.list ((List.range h).map nD)] = some (.list ((lots h).map nT)) := by
  simp only [List.forall_mem_cons]
  exact ⟨by kernel_rfl, by kernel_rfl, by kernel_rfl, by kernel_rfl, by kernel_rfl, fun _ z => nomatch z⟩
theorem le4 {h : Nat} (hh : h ≤ 4) : h ∈ [0,1,2,3,4] := by
  have : h = 0 ∨ h = 1 ∨ h = 2 ∨ h = 3 ∨ h = 4 := by omega
  rcases this with rfl | rfl | rfl | rfl | rfl <;> decide
theorem e8 {n h : Nat} (hn : 4 ≤ n) (hh : h ≤ 4) : runF tab n 8 [.list ((List.range h).map nD)] = some (.list ((lots h).map nT)) := by
  obtain ⟨m, rfl⟩ : ∃ m, n = m + 4 := ⟨n - 4, by omega⟩
  exact e8_0 m h (le4 hh)
theorem e62 {n h : Nat} (hn : 4 ≤ n) (hh : h ≤ 4) : runF tab n 62 [.list ((List.range h).map nD)] = some (.list ((lots h).map nT)) := by
  obtain ⟨m, rfl⟩ : ∃ m, n = m + 4 := ⟨n - 4, by omega⟩
  exact e62_0 m h (le4 hh)
theorem lots_in : ∀ h ∈ [0,1,2,3,4], ∀ R ∈ lots h, (∀ k ∈ R, k < h) ∧ R.length ≤ h ∧ R.Nodup ∧ R = (List.range h).filter fun k => R.contains k := by decide
theorem lots_of {h : Nat} (hh : h ≤ 4) (p : Nat → Bool) : (List.range h).filter p ∈ lots h := by
  have : h = 0 ∨ h = 1 ∨ h = 2 ∨ h = 3 ∨ h = 4 := by omega
  rcases this with rfl | rfl | rfl | rfl | rfl
  · exact List.mem_singleton.mpr rfl
  · cases h0 : p 0 <;> simp [List.range_succ, List.filter, h0, lots]
  · cases h0 : p 0 <;> cases h1 : p 1 <;> simp [List.range_succ, List.filter, h0, h1, lots]
  · cases h0 : p 0 <;> cases h1 : p 1 <;> cases h2 : p 2 <;> simp [List.range_succ, List.filter, h0, h1, h2, lots]
  · cases h0 : p 0 <;> cases h1 : p 1 <;> cases h2 : p 2 <;> cases h3 : p 3 <;> simp [List.range_succ, List.filter, h0, h1, h2, h3, lots]
theorem lots_len : ∀ h ∈ [0,1,2,3,4], (lots h).length ≤ 5000 := by decide
/-! steps -/
section
variable {c : Bool → Nat → List D → Option D} {ρ : Rho} {a b : E}
theorem ev_bin {o : Op} {x y z : D} (ha : evE c a ρ = some x) (hb : evE c b ρ = some y) (h : binF o x y = some z) : evE c (.bin o a b) ρ = some z := by
  simp only [evE, ha, hb, Option.bind_some, h]
theorem ev_cmp {o : Cm} {x y z : D} (ha : bor ρ a (evE c a ρ) = some x) (hb : evE c b ρ = some y) (h : cmpF o x y = some z) : evE c (.cmp o a b) ρ = some z := by
  simp only [evE, ha, hb, Option.bind_some, h]
theorem ev_or {x y : Bool} (ha : evE c a ρ = some (.bool x)) (hb : x = false → evE c b ρ = some (.bool y)) : evE c (.or a b) ρ = some (.bool (x || y)) := by
  cases x with
  | true => simp only [evE, ha, Option.bind_some, boolO, if_true, Bool.true_or]
  | false => simp only [evE, ha, Option.bind_some, boolO, Bool.false_eq_true, if_false, hb rfl, Bool.false_or]
theorem ev_and {x y : Bool} (ha : evE c a ρ = some (.bool x)) (hb : x = true → evE c b ρ = some (.bool y)) : evE c (.and a b) ρ = some (.bool (x && y)) := by
  cases x with
  | true => simp only [evE, ha, Option.bind_some, boolO, if_true, Bool.true_and, hb rfl]
  | false => simp only [evE, ha, Option.bind_some, boolO, Bool.false_eq_true, if_false, Bool.false_and]
theorem ev_not {x : Bool} (ha : evE c a ρ = some (.bool x)) : evE c (.not a) ρ = some (.bool !x) := by
  simp only [evE, ha, Option.bind_some, boolO]
theorem ev_call {f : Nat} {es : List E} {ds : List D} {d : D} (ha : evL c es ρ = some ds) (h : c false f ds = some d) : evE c (.call f es) ρ = some d := by
  simp only [evE, ha, Option.bind_some, h]
theorem ev_iteE {t : E} {x : Bool} {d : D} (ht : evE c t ρ = some (.bool x)) (h : (if x then evE c a ρ else evE c b ρ) = some d) : evE c (.ite t a b) ρ = some d := by
  simp only [evE, ht, Option.bind_some, boolO, h]
end
theorem eq_nD (x y : Nat) : cmpF .eq (nD x) (nD y) = some (.bool (decide (x = y))) := by
  show some (PyData.bool (PyData.eqv (nD x) (nD y))) = _
  congr 2
  show decide ((x : Int) = (y : Int)) = decide (x = y)
  exact decide_eq_decide.mpr (by omega)
theorem ne_nD (x y : Nat) : cmpF .ne (nD x) (nD y) = some (.bool (decide (x ≠ y))) := by
  show some (PyData.bool (!PyData.eqv (nD x) (nD y))) = _
  congr 2
  show (!decide ((x : Int) = (y : Int))) = decide (x ≠ y)
  rw [← decide_not]
  exact decide_eq_decide.mpr (by omega)
theorem lt_nD (x y : Nat) : cmpF .lt (nD x) (nD y) = some (.bool (decide (x < y))) := by
  show some (PyData.bool (decide ((x : Int) < (y : Int)))) = _
  congr 2
  exact decide_eq_decide.mpr (by omega)
theorem ge_nD (x y : Nat) : cmpF .ge (nD x) (nD y) = some (.bool (decide (y ≤ x))) := by
  show some (PyData.bool (decide ((y : Int) ≤ (x : Int)))) = _
  congr 2
  exact decide_eq_decide.mpr (by omega)
theorem gt_nD (x y : Nat) : cmpF .gt (nD x) (nD y) = some (.bool (decide (y < x))) := by
  show some (PyData.bool (decide ((y : Int) < (x : Int)))) = _
  congr 2
  exact decide_eq_decide.mpr (by omega)
theorem ones_nil (s : Nat → Nat → Option Bool) : ∀ R : List Nat, ones s R [] = 0
  | [] => rfl
  | x :: R => by
    have := ones_nil s R
    unfold ones at this ⊢
    rw [List.map_cons, List.sum_cons, this]
    rfl
def isSt : E → Bool
  | .star _ => true
  | _ => false
theorem evL_cons {c : Bool → Nat → List D → Option D} {ρ : Rho} {e : E} {es : List E} {x : D} {ys : List D} (hs : isSt e = false) (h1 : evE c e ρ = some x) (h2 : evL c es ρ = some ys) : evL c (e :: es) ρ = some (x :: ys) := by
  cases e <;> first | (cases hs; done) | simp only [evL, h1, h2, Option.bind_some]
theorem evL_star {c : Bool → Nat → List D → Option D} {ρ : Rho} {e : E} {es : List E} {x : D} {xs ys : List D} (h1 : evE c e ρ = some x) (h3 : itemsOf x = some xs) (h2 : evL c es ρ = some ys) : evL c (.star e :: es) ρ = some (xs ++ ys) := by
  simp only [evL, h1, h2, h3, Option.bind_some]
/-- the bound by the window (R, C) -/
def wb (h w : Nat) (s : Nat → Nat → Option Bool) (R C : List Nat) : Nat := (h - R.length) + (w - C.length) + ones s R C
section
variable {n h w : Nat} {s : Nat → Nat → Option Bool}
theorem e31 {R C : List Nat} (hn : 15 ≤ n) (pm : Pm h w s) (h0 : 0 < h) (hh : h ≤ 4) (hw : w ≤ 4) (hR : ∀ i ∈ R, i < h) (hC : ∀ j ∈ C, j < w) (nr : R.Nodup) (nc : C.Nodup) (lr : R.length ≤ h) (lc : C.length ≤ w) (ht : ∀ i ∈ R, ∀ j ∈ C, (s i j).isSome = true) :
    runF tab n 31 [shE h w s, nT R, nT C] = some (nD (wb h w s R C)) := by
  have ez : evE (cn n) (.bin .sub (.bin .add (.bin .sub (.f1 .len (.var 0)) (.f1 .len (.var 1))) (.f1 .len (.ix (.var 0) (.cI 0)))) (.f1 .len (.var 2))) [.val (shE h w s), .val (nT R), .val (nT C), .un] = some (nD ((h - R.length) + (w - C.length))) := by
    refine ev_bin (x := .int ((h : Int) - R.length + w)) (y := nD C.length) (ev_bin (x := .int ((h : Int) - R.length)) (y := nD w) (ev_bin (x := nD h) (y := nD R.length) (ev_len rfl len_sh) (ev_len rfl len_nT) rfl) (ev_len (ev_ix rfl rfl (ix_sh h0)) len_row) rfl) (ev_len rfl len_nT) ?_
    show some (PyData.int _) = some (PyData.int _)
    congr 2
    omega
  have ec : evE (cn n) (.or (.cmp .eq (.f1 .len (.var 1)) (.cI 0)) (.cmp .eq (.f1 .len (.var 2)) (.cI 0))) [.val (shE h w s), .val (nT R), .val (nT C), .val (nD ((h - R.length) + (w - C.length)))] = some (.bool (decide (R.length = 0) || decide (C.length = 0))) :=
    ev_or (ev_cmp (ev_len rfl len_nT) rfl (eq_nD _ 0)) fun _ => ev_cmp (ev_len rfl len_nT) rfl (eq_nD _ 0)
  by_cases hz : (decide (R.length = 0) || decide (C.length = 0)) = true
  · refine run_of (by omega) rfl rfl (ex_nx (s_asg ez rfl) (ex_rt (s_iteT (by rw [← hz]; exact ec) (ex_ret (show _ = some (nD (wb h w s R C)) from ?_)))))
    have : ones s R C = 0 := by
      simp only [Bool.or_eq_true, decide_eq_true_eq] at hz
      rcases hz with hz | hz
      · rw [List.length_eq_zero_iff.mp hz]; rfl
      · rw [List.length_eq_zero_iff.mp hz, ones_nil]
    show some (nD _) = some (nD _)
    rw [wb, this, Nat.add_zero]
  · rw [Bool.not_eq_true] at hz
    refine run_of (by omega) rfl rfl (ex_nx (s_asg ez rfl) (ex_nx (s_iteF (by rw [← hz]; exact ec) rfl) (ex_ret (ev_bin (x := nD ((h - R.length) + (w - C.length))) (y := nD (ones s R C)) rfl (ev_call (ds := [crE s R C]) ?_ ?_) ?_))))
    · exact evL_cons rfl (ev_call (ds := [shE h w s, nT R, nT C]) rfl (e29 (n := n - 1) (by omega) hR hC (by omega) (by omega))) rfl
    · simp only [Bool.or_eq_false_iff, decide_eq_false_iff_not] at hz
      exact e22 (h := h) (w := w) (by omega) pm hR hC nr nc ht (by omega) (by omega) (by omega) (by omega)
    · show some (PyData.int _) = some (PyData.int _)
      congr 2
end
end PV
end
section -- M5
namespace PV
open PySem L2
/-- the bound by the rows R -/
def phi (h w : Nat) (s : Nat → Nat → Option Bool) (R : List Nat) : Nat := wb h w s R (told w s R)
theorem told_lt {w : Nat} {s : Nat → Nat → Option Bool} {R : List Nat} : ∀ j ∈ told w s R, j < w := fun j hj => List.mem_range.mp (List.mem_filter.mp hj).1
theorem told_nd {w : Nat} {s : Nat → Nat → Option Bool} {R : List Nat} : (told w s R).Nodup := List.Pairwise.sublist List.filter_sublist List.nodup_range
theorem told_len {w : Nat} {s : Nat → Nat → Option Bool} {R : List Nat} : (told w s R).length ≤ w := by
  have := List.length_filter_le (fun j => R.all fun k => (s k j).isSome) (List.range w)
  rw [List.length_range] at this
  exact this
theorem told_some {w : Nat} {s : Nat → Nat → Option Bool} {R : List Nat} : ∀ i ∈ R, ∀ j ∈ told w s R, (s i j).isSome = true := fun i hi j hj => List.all_eq_true.mp (List.mem_filter.mp hj).2 i hi
/-- the least of a list -/
def mnN : List Nat → Nat
  | [] => 0
  | x :: r => r.foldl (fun m y => if y < m then y else m) x
theorem intsD_nat (l : List Nat) : intsD (l.map nD) = some (l.map fun k : Nat => (k : Int)) := by
  induction l with
  | nil => rfl
  | cons x l ih => simp only [List.map_cons, nD, intsD, Option.bind_some] at ih ⊢; rw [ih]; rfl
theorem minI_nat {l : List Nat} (h : l ≠ []) : minI (l.map fun k : Nat => (k : Int)) = some ((mnN l : Nat) : Int) := by
  cases l with
  | nil => exact absurd rfl h
  | cons x l =>
    show some _ = some _
    congr 1
    show (l.map fun k : Nat => (k : Int)).foldl _ (x : Int) = ((l.foldl (fun m y => if y < m then y else m) x : Nat) : Int)
    induction l generalizing x with
    | nil => rfl
    | cons y l ih =>
      rw [List.map_cons, List.foldl_cons, List.foldl_cons]
      by_cases hy : y < x
      · rw [if_pos hy, if_pos (by omega)]
        exact ih y (by simp)
      · rw [if_neg hy, if_neg (by omega)]
        exact ih x (by simp)
theorem foldl_mn : ∀ (l : List Nat) (x : Nat), (l.foldl (fun m y => if y < m then y else m) x = x ∨ l.foldl (fun m y => if y < m then y else m) x ∈ l) ∧ l.foldl (fun m y => if y < m then y else m) x ≤ x ∧ ∀ z ∈ l, l.foldl (fun m y => if y < m then y else m) x ≤ z
  | [], x => ⟨.inl rfl, Nat.le_refl _, fun _ z => nomatch z⟩
  | y :: l, x => by
    rw [List.foldl_cons]
    by_cases hy : y < x
    · rw [if_pos hy]
      obtain ⟨h1, h2, h3⟩ := foldl_mn l y
      refine ⟨.inr ?_, by omega, fun z hz => ?_⟩
      · rcases h1 with h1 | h1
        · rw [h1]; exact List.mem_cons_self
        · exact List.mem_cons_of_mem _ h1
      · rcases List.mem_cons.mp hz with rfl | hz
        · exact h2
        · exact h3 z hz
    · rw [if_neg hy]
      obtain ⟨h1, h2, h3⟩ := foldl_mn l x
      refine ⟨h1.imp id (List.mem_cons_of_mem _), h2, fun z hz => ?_⟩
      rcases List.mem_cons.mp hz with rfl | hz
      · omega
      · exact h3 z hz
theorem mnN_mem {l : List Nat} (h : l ≠ []) : mnN l ∈ l := by
  cases l with
  | nil => exact absurd rfl h
  | cons x l =>
    rcases (foldl_mn l x).1 with e | e
    · exact List.mem_cons.mpr (.inl e)
    · exact List.mem_cons_of_mem _ e
theorem mnN_le {l : List Nat} : ∀ z ∈ l, mnN l ≤ z := by
  cases l with
  | nil => exact fun _ z => nomatch z
  | cons x l =>
    intro z hz
    rcases List.mem_cons.mp hz with rfl | hz
    · exact (foldl_mn l z).2.1
    · exact (foldl_mn l x).2.2 z hz
theorem ev_min {c : Bool → Nat → List D → Option D} {ρ : Rho} {e : E} {l : List Nat} (h : bor ρ e (evE c e ρ) = some (.list (l.map nD))) (hl : l ≠ []) : evE c (.f1 .min e) ρ = some (nD (mnN l)) := by
  simp only [evE, h, Option.bind_some, f1F, intsD_nat, minI_nat hl]
  rfl
theorem lots_ne {h : Nat} (hh : h ≤ 4) : lots h ≠ [] := fun z => by
  have := lots_of hh fun _ => false
  rw [z] at this
  cases this
/-- the least bound by rows -/
def gR (h w : Nat) (s : Nat → Nat → Option Bool) : Nat := mnN ((lots h).map (phi h w s))
def tr (s : Nat → Nat → Option Bool) : Nat → Nat → Option Bool := fun j i => s i j
/-- greatest_of -/
def gr (h w : Nat) (s : Nat → Nat → Option Bool) : Nat := if w < h then gR w h (tr s) else gR h w s
theorem Pm.tr {h w : Nat} {s : Nat → Nat → Option Bool} (p : Pm h w s) : Pm w h (tr s) := fun i j i' j' a b c d e f => (p j i j' i' c d a b e f).symm
section
variable {n h w : Nat} {s : Nat → Nat → Option Bool}
theorem ev_lrng {c : Bool → Nat → List D → Option D} {ρ : Rho} {e : E} {k : Nat} (h : bor ρ e (evE c e ρ) = some (nD k)) (hk : k ≤ 5000) : evE c (.f1 .lrng e) ρ = some (.list ((List.range k).map nD)) := by
  simp only [evE, h, Option.bind_some, f1F, nD, okR0 hk, if_true, range0]
theorem e33 (hn : 16 ≤ n) (pm : Pm h w s) (h0 : 0 < h) (hh : h ≤ 4) (hw : w ≤ 4) : runF tab n 33 [shE h w s] = some (.list ((lots h).map fun R => .tuple [nD (phi h w s R), nT R])) := by
  refine run_of (by omega) rfl rfl (ex_nx (s_asg (d := .list ((lots h).map nT)) (ev_call (ds := [.list ((List.range h).map nD)]) (evL_cons rfl (ev_lrng (ev_len rfl len_sh) (by omega)) rfl) (e8 (n := n - 1) (by omega) hh)) rfl) (ex_ret ?_))
  refine ev_lc0 (lots h) nT (fun R => .tuple [nD (phi h w s R), nT R]) (fun R => [.val (shE h w s), .val (.list ((lots h).map nT)), .val (nT R)]) rfl (fun _ _ => rfl) (fun R hR => ?_) (lots_len h (le4 hh))
  obtain ⟨r1, r2, r3, _⟩ := lots_in h (le4 hh) R hR
  have e1 : evL (cn n) [.call 31 [(.var 0), (.var 2), (.call 30 [(.var 0), (.var 2)])], .var 2] [.val (shE h w s), .val (.list ((lots h).map nT)), .val (nT R)] = some [nD (phi h w s R), nT R] := by
    refine evL_cons rfl (ev_call (ds := [shE h w s, nT R, nT (told w s R)]) (evL_cons rfl rfl (evL_cons rfl rfl (evL_cons rfl (ev_call (ds := [shE h w s, nT R]) rfl (e30 (n := n - 1) (by omega) h0 (by omega) r1 (by omega))) rfl))) ?_) rfl
    exact e31 (n := n - 1) (by omega) pm h0 hh hw r1 told_lt r3 told_nd r2 told_len told_some
  simp only [evE, e1, Option.bind_some]
  rfl
theorem e34 (hn : 17 ≤ n) (pm : Pm h w s) (h0 : 0 < h) (hh : h ≤ 4) (w0 : 0 < w) (hw : w ≤ 4) : runF tab n 34 [shE h w s] = some (nD (gr h w s)) := by
  have main : ∀ (h w : Nat) (s : Nat → Nat → Option Bool), Pm h w s → 0 < h → h ≤ 4 → w ≤ 4 → exL (cn n) [.ret (.f1 .min (.lc (.var 1) (.tup [(.one 1), (.one 2)]) (.call 33 [(.var 0)]) none [("count", 1), ("_", 2)]))] [.val (shE h w s), .un, .un] = some (.ret (nD (gR h w s))) := by
    intro h w s pm h0 hh hw
    refine ex_ret (ev_min (l := (lots h).map (phi h w s)) ?_ (fun z => lots_ne hh (List.map_eq_nil_iff.mp z)))
    rw [List.map_map]
    refine ev_lc0 (lots h) (fun R => .tuple [nD (phi h w s R), nT R]) (fun R => nD (phi h w s R)) (fun R => [.val (shE h w s), .val (nD (phi h w s R)), .val (nT R)]) ?_ (fun _ _ => rfl) (fun _ _ => rfl) (lots_len h (le4 hh))
    have := ev_call (c := cn n) (ρ := [.val (shE h w s), .un, .un]) (f := 33) (es := [.var 0]) (ds := [shE h w s]) rfl (e33 (n := n - 1) (by omega) pm h0 hh hw)
    simp only [bor]
    rw [this]
    rfl
  have ec : evE (cn n) (.cmp .gt (.f1 .len (.var 0)) (.f1 .len (.ix (.var 0) (.cI 0)))) [.val (shE h w s), .un, .un] = some (.bool (decide (w < h))) := ev_cmp (ev_len rfl len_sh) (ev_len (ev_ix rfl rfl (ix_sh h0)) len_row) (gt_nD h w)
  by_cases hc : w < h
  · rw [decide_eq_true hc] at ec
    refine run_of (by omega) rfl rfl (ex_nx (s_iteT ec (ex_nx (s_asg (d := shE w h (tr s)) (ev_call (ds := [shE h w s, nD w]) (evL_cons rfl rfl (evL_cons rfl (ev_len (ev_ix rfl rfl (ix_sh h0)) len_row) rfl)) (e17 (n := n - 1) (by omega) (by omega) (by omega))) rfl) rfl)) ?_)
    rw [gr, if_pos hc]
    exact main w h (tr s) pm.tr w0 hw hh
  · rw [decide_eq_false hc] at ec
    refine run_of (by omega) rfl rfl (ex_nx (s_iteF ec rfl) ?_)
    rw [gr, if_neg hc]
    exact main h w s pm h0 hh hw
theorem e35 (hn : 18 ≤ n) (pm : Pm h w s) (h0 : 0 < h) (hh : h ≤ 4) (w0 : 0 < w) (hw : w ≤ 4) : runF tab n 35 [soft h w s] = some (nD (gr h w s)) :=
  run_of (by omega) rfl rfl (ex_ret (ev_call (ds := [shE h w s]) (evL_cons rfl (ev_call (ds := [soft h w s]) rfl (e4_soft (n := n - 1) (by omega) (by omega) (by omega))) rfl) (e34 (n := n - 1) (by omega) pm h0 hh w0 hw)))
end
end PV
end
section -- M6
namespace PV
open PySem L2
/-! data that may be compared -/
def Okd (k : Nat) (d : D) : Prop := d.canLay0 = true ∧ d.depth ≤ k
theorem okd_int (i : Int) : Okd 0 (.int i) := ⟨rfl, Nat.le_refl _⟩
theorem okd_none : Okd 0 .none := ⟨rfl, Nat.le_refl _⟩
theorem okd_all {k : Nat} : ∀ {l : List D}, (∀ x ∈ l, Okd k x) → PyData.canLayAll0 l = true ∧ PyData.depthAll l ≤ k
  | [], _ => ⟨rfl, Nat.zero_le _⟩
  | x :: l, h => by
    obtain ⟨a1, a2⟩ := h x List.mem_cons_self
    obtain ⟨b1, b2⟩ := okd_all fun y hy => h y (List.mem_cons_of_mem _ hy)
    refine ⟨?_, ?_⟩
    · simp [PyData.canLayAll0, a1, b1]
    · simp only [PyData.depthAll]
      omega
theorem okd_tup {k : Nat} {l : List D} (h : ∀ x ∈ l, Okd k x) : Okd (k + 1) (.tuple l) := by
  obtain ⟨a, b⟩ := okd_all h
  refine ⟨?_, ?_⟩
  · simp [PyData.canLay0, a]
  · simp only [PyData.depth]
    omega
theorem okd_lst {k : Nat} {l : List D} (h : ∀ x ∈ l, Okd k x) : Okd (k + 1) (.list l) := by
  obtain ⟨a, b⟩ := okd_all h
  refine ⟨?_, ?_⟩
  · simp [PyData.canLay0, a]
  · simp only [PyData.depth]
    omega
theorem Okd.up {k m : Nat} {d : D} (h : Okd k d) (hk : k ≤ m) : Okd m d := ⟨h.1, Nat.le_trans h.2 hk⟩
theorem Okd.shp {k : Nat} {d : D} (h : Okd k d) (hk : k ≤ 64) : shp d = true := by
  show (d.canLay0 && decide (d.depth ≤ 64)) = true
  rw [h.1, decide_eq_true (Nat.le_trans h.2 hk)]
  rfl
theorem okd_map {α : Type} {k : Nat} {f : α → D} {l : List α} (h : ∀ x ∈ l, Okd k (f x)) : ∀ y ∈ l.map f, Okd k y := fun y hy => by
  obtain ⟨x, hx, rfl⟩ := List.mem_map.mp hy
  exact h x hx
theorem okd_nT (l : List Nat) : Okd 1 (nT l) := okd_tup (okd_map fun _ _ => okd_int _)
theorem okd_c (x : Option Bool) : Okd 1 (cE x) := by
  cases x with
  | none => exact okd_none.up (by decide)
  | some b =>
    refine okd_tup (k := 0) fun y hy => ?_
    simp only [List.mem_cons, List.not_mem_nil, or_false] at hy
    rcases hy with rfl | rfl <;> exact okd_int _
theorem okd_cr (s : Nat → Nat → Option Bool) (R C : List Nat) : Okd 3 (crE s R C) := okd_tup (okd_map fun _ _ => okd_tup (okd_map fun _ _ => okd_c _))
theorem okd_nil : Okd 1 (.tuple []) := okd_tup fun _ h => nomatch h
theorem eqv_nD (x y : Nat) : PyData.eqv (nD x) (nD y) = decide (x = y) := by
  show ((x : Int) == (y : Int)) = decide (x = y)
  rw [Bool.beq_eq_decide_eq]
  exact decide_eq_decide.mpr (by omega)
theorem in_nT (k : Nat) (R : List Nat) : cmpF .in_ (nD k) (nT R) = some (.bool (R.contains k)) := by
  have e : ∀ R : List Nat, (R.map nD).any (fun z => PyData.eqv z (nD k)) = R.contains k := by
    intro R
    induction R with
    | nil => rfl
    | cons x R ih =>
      rw [List.map_cons, List.any_cons, ih, eqv_nD, List.contains_cons]
      congr 1
      rw [Bool.beq_eq_decide_eq]
      exact decide_eq_decide.mpr eq_comm
  show (if shp (nD k) && shp (nT R) then _ else none) = _
  rw [show shp (nD k) = true from (okd_int _).shp (by decide), (okd_nT R).shp (by decide), Bool.and_self, if_pos rfl]
  show some (PyData.bool ((R.map nD).any fun z => PyData.eqv z (nD k))) = _
  rw [e]
theorem nin_nT (k : Nat) (R : List Nat) : cmpF .notIn (nD k) (nT R) = some (.bool (!R.contains k)) := by
  have := in_nT k R
  show (if shp (nD k) && shp (nT R) then _ else none) = _
  rw [show shp (nD k) = true from (okd_int _).shp (by decide), (okd_nT R).shp (by decide), Bool.and_self, if_pos rfl]
  have h2 : (if shp (nD k) && shp (nT R) then some (PyData.bool ((R.map nD).any fun z => PyData.eqv z (nD k))) else none) = some (.bool (R.contains k)) := this
  rw [show shp (nD k) = true from (okd_int _).shp (by decide), (okd_nT R).shp (by decide), Bool.and_self, if_pos rfl] at h2
  have h3 : (R.map nD).any (fun z => PyData.eqv z (nD k)) = R.contains k := by injection h2 with h2; injection h2
  show some (PyData.bool (!(R.map nD).any fun z => PyData.eqv z (nD k))) = _
  rw [h3]
/-! tight -/
def tR (h w : Nat) (s : Nat → Nat → Option Bool) : List (List Nat) := (lots h).filter fun R => decide (phi h w s R = gR h w s)
def tRows (h w : Nat) (s : Nat → Nat → Option Bool) : List Nat := (List.range h).filter fun k => (tR h w s).all fun R => R.contains k
section
variable {n h w : Nat} {s : Nat → Nat → Option Bool}
theorem e36 (hn : 17 ≤ n) (pm : Pm h w s) (h0 : 0 < h) (hh : h ≤ 4) (hw : w ≤ 4) : runF tab n 36 [shE h w s] = some (.tuple [nT (tRows h w s), nT (told w s (tRows h w s))]) := by
  let cs : D := .list ((lots h).map fun R => .tuple [nD (phi h w s R), nT R])
  have g1 : evE (cn n) (.call 33 [(.var 0)]) [.val (shE h w s), .un, .un, .un, .un, .un, .un, .un, .un] = some cs := ev_call (ds := [shE h w s]) rfl (e33 (n := n - 1) (by omega) pm h0 hh hw)
  have g2 : evE (cn n) (.f1 .min (.lc (.var 3) (.tup [(.one 3), (.one 4)]) (.var 1) none [("count", 3), ("_", 4)])) [.val (shE h w s), .val cs, .un, .un, .un, .un, .un, .un, .un] = some (nD (gR h w s)) := by
    refine ev_min (l := (lots h).map (phi h w s)) ?_ (fun z => lots_ne hh (List.map_eq_nil_iff.mp z))
    rw [List.map_map]
    exact ev_lc0 (lots h) (fun R => .tuple [nD (phi h w s R), nT R]) (fun R => nD (phi h w s R)) (fun R => [.val (shE h w s), .val cs, .un, .val (nD (phi h w s R)), .val (nT R), .un, .un, .un, .un]) rfl (fun _ _ => rfl) (fun _ _ => rfl) (lots_len h (le4 hh))
  have g3 : evE (cn n) (.lc (.var 6) (.tup [(.one 3), (.one 6)]) (.var 1) (some (.cmp .eq (.var 3) (.var 2))) [("count", 3), ("rows", 6)]) [.val (shE h w s), .val cs, .val (nD (gR h w s)), .un, .un, .un, .un, .un, .un] = some (.list ((tR h w s).map nT)) :=
    ev_lc1 (lots h) (fun R => .tuple [nD (phi h w s R), nT R]) nT (fun R => decide (phi h w s R = gR h w s)) (fun R => [.val (shE h w s), .val cs, .val (nD (gR h w s)), .val (nD (phi h w s R)), .un, .un, .val (nT R), .un, .un]) rfl (fun _ _ => rfl) (fun R _ => ev_cmp rfl rfl (eq_nD _ _)) (fun _ _ _ => rfl) (lots_len h (le4 hh))
  have g4 : evE (cn n) (.f1 .tuple (.lc (.var 7) (.one 7) (.rng1 (.f1 .len (.var 0))) (some (.f1 .all (.lc (.cmp .in_ (.var 7) (.var 8)) (.one 8) (.var 5) none [("lot", 8)]))) [("k", 7)])) [.val (shE h w s), .val cs, .val (nD (gR h w s)), .un, .un, .val (.list ((tR h w s).map nT)), .un, .un, .un] = some (nT (tRows h w s)) := by
    refine ev_tup ?_
    refine ev_lc1 (List.range h) nD nD (fun k => (tR h w s).all fun R => R.contains k) (fun k => [.val (shE h w s), .val cs, .val (nD (gR h w s)), .un, .un, .val (.list ((tR h w s).map nT)), .un, .val (nD k), .un]) (it_rng (ev_len rfl len_sh) (by omega)) (fun _ _ => rfl) (fun k _ => ?_) (fun _ _ _ => rfl) (by rw [List.length_range]; omega)
    refine ev_all (p := fun R : List Nat => R.contains k) ?_
    refine ev_lc0 (tR h w s) nT (fun R => .bool (R.contains k)) (fun R => [.val (shE h w s), .val cs, .val (nD (gR h w s)), .un, .un, .val (.list ((tR h w s).map nT)), .un, .val (nD k), .val (nT R)]) rfl (fun _ _ => rfl) (fun R _ => ev_cmp rfl rfl (in_nT k R)) (Nat.le_trans (List.length_filter_le _ _) (lots_len h (le4 hh)))
  refine run_of (by omega) rfl rfl (ex_nx (s_asg g1 rfl) (ex_nx (s_asg g2 rfl) (ex_nx (s_asg g3 rfl) (ex_nx (s_asg g4 rfl) (ex_ret ?_)))))
  have e1 : evL (cn n) [.var 6, .call 30 [(.var 0), (.var 6)]] [.val (shE h w s), .val cs, .val (nD (gR h w s)), .un, .un, .val (.list ((tR h w s).map nT)), .val (nT (tRows h w s)), .un, .un] = some [nT (tRows h w s), nT (told w s (tRows h w s))] := by
    refine evL_cons rfl rfl (evL_cons rfl (ev_call (ds := [shE h w s, nT (tRows h w s)]) rfl (e30 (n := n - 1) (by omega) h0 (by omega) (fun k hk => List.mem_range.mp (List.mem_filter.mp hk).1) ?_)) rfl)
    have := List.length_filter_le (fun k => (tR h w s).all fun R => R.contains k) (List.range h)
    rw [List.length_range] at this
    unfold tRows
    omega
  show (evL (cn n) _ _).bind okT = _
  exact (congrArg (fun x => Option.bind x okT) e1).trans rfl
theorem e37 (hn : 18 ≤ n) (pm : Pm h w s) (h0 : 0 < h) (hh : h ≤ 4) (w0 : 0 < w) (hw : w ≤ 4) : runF tab n 37 [shE h w s] = some (.tuple [.tuple [nT (tRows h w s), nT (told w s (tRows h w s))], .tuple [nT (told h (tr s) (tRows w h (tr s))), nT (tRows w h (tr s))]]) := by
  have g1 : evE (cn n) (.call 4 [(.var 0)]) [.val (shE h w s), .un, .un, .un] = some (shE h w s) := ev_call (ds := [shE h w s]) rfl (e4_cr (n := n - 1) (rows := List.range h) (cols := List.range w) (by omega) (by rw [List.length_range]; omega) (by rw [List.length_range]; omega))
  have g2 : evE (cn n) (.call 36 [(.call 17 [(.var 1), (.f1 .len (.ix (.var 1) (.cI 0)))])]) [.val (shE h w s), .val (shE h w s), .un, .un] = some (.tuple [nT (tRows w h (tr s)), nT (told h (tr s) (tRows w h (tr s)))]) :=
    ev_call (ds := [shE w h (tr s)]) (evL_cons rfl (ev_call (ds := [shE h w s, nD w]) (evL_cons rfl rfl (evL_cons rfl (ev_len (ev_ix rfl rfl (ix_sh h0)) len_row) rfl)) (e17 (n := n - 1) (by omega) (by omega) (by omega))) rfl) (e36 (n := n - 1) (by omega) pm.tr w0 hw hh)
  refine run_of (by omega) rfl rfl (ex_nx (s_asg g1 rfl) (ex_nx (s_asg g2 rfl) (ex_ret ?_)))
  have e1 : evL (cn n) [.call 36 [(.var 1)], .tup [(.var 3), (.var 2)]] [.val (shE h w s), .val (shE h w s), .val (nT (tRows w h (tr s))), .val (nT (told h (tr s) (tRows w h (tr s))))] = some [.tuple [nT (tRows h w s), nT (told w s (tRows h w s))], .tuple [nT (told h (tr s) (tRows w h (tr s))), nT (tRows w h (tr s))]] :=
    evL_cons rfl (ev_call (ds := [shE h w s]) rfl (e36 (n := n - 1) (by omega) pm h0 hh hw)) (evL_cons rfl rfl rfl)
  show (evL (cn n) _ _).bind okT = _
  exact (congrArg (fun x => Option.bind x okT) e1).trans rfl
end
end PV
end
section -- M7
namespace PV
open PySem L2
section
variable {c : Bool → Nat → List D → Option D} {ρ : Rho}
theorem ev_lc2 {α β : Type} {elt it it2 q : E} {tg tg2 : T} {ws : List (Str × Nat)} {vs : List Nat} (l : List α) (m : α → List β) (enc : α → D) (enc2 : α → β → D) (g : α → β → D) (p : α → β → Bool) (ρx : α → Rho) (ρy : α → β → Rho)
    (hit : (bor ρ it (evE c it ρ)).bind itemsOf = some (l.map enc)) (hb : ∀ x ∈ l, bindT tg (enc x) (wipeC ρ (ws.map (·.2))) = some (ρx x)) (hit2 : ∀ x ∈ l, (evE c it2 (ρx x)).bind itemsOf = some ((m x).map (enc2 x)))
    (hb2 : ∀ x ∈ l, ∀ y ∈ m x, bindT tg2 (enc2 x y) (wipeC (ρx x) vs) = some (ρy x y)) (hq : ∀ x ∈ l, ∀ y ∈ m x, evE c q (ρy x y) = some (.bool (p x y))) (he : ∀ x ∈ l, ∀ y ∈ m x, p x y = true → evE c elt (ρy x y) = some (g x y))
    (hs : (l.flatMap fun x => ((m x).filter (p x)).map (g x)).length ≤ 5000) : evE c (.lc2 elt tg it tg2 it2 (some q) ws vs) ρ = some (.list (l.flatMap fun x => ((m x).filter (p x)).map (g x))) := by
  simp only [evE, hit, Option.bind_some]
  rw [mapO_map (h := fun x => ((m x).filter (p x)).map (g x)) fun x hx => by
    simp only [hb x hx, hit2 x hx, Option.bind_some]
    rw [mapO_map (h := fun y => if p x y then [g x y] else []) fun y hy => by
      simp only [hb2 x hx y hy, Option.bind_some, evQ, under, hq x hx y hy, boolO]
      cases hp : p x y with
      | true => simp only [one1, he x hx y hy hp, Option.bind_some, if_true]
      | false => simp only [Bool.false_eq_true, if_false]]
    simp only [Option.bind_some, flat_filter]]
  simp only [Option.bind_some]
  rw [← List.flatMap_def]
  exact okL_of hs
theorem ev_lc2n {α β : Type} {elt it it2 : E} {tg tg2 : T} {ws : List (Str × Nat)} {vs : List Nat} (l : List α) (m : α → List β) (enc : α → D) (enc2 : α → β → D) (g : α → β → D) (ρx : α → Rho) (ρy : α → β → Rho)
    (hit : (bor ρ it (evE c it ρ)).bind itemsOf = some (l.map enc)) (hb : ∀ x ∈ l, bindT tg (enc x) (wipeC ρ (ws.map (·.2))) = some (ρx x)) (hit2 : ∀ x ∈ l, (evE c it2 (ρx x)).bind itemsOf = some ((m x).map (enc2 x)))
    (hb2 : ∀ x ∈ l, ∀ y ∈ m x, bindT tg2 (enc2 x y) (wipeC (ρx x) vs) = some (ρy x y)) (he : ∀ x ∈ l, ∀ y ∈ m x, evE c elt (ρy x y) = some (g x y))
    (hs : (l.flatMap fun x => (m x).map (g x)).length ≤ 5000) : evE c (.lc2 elt tg it tg2 it2 none ws vs) ρ = some (.list (l.flatMap fun x => (m x).map (g x))) := by
  simp only [evE, hit, Option.bind_some]
  rw [mapO_map (h := fun x => (m x).map (g x)) fun x hx => by
    simp only [hb x hx, hit2 x hx, Option.bind_some]
    rw [mapO_map (h := fun y => [g x y]) fun y hy => by
      simp only [hb2 x hx y hy, Option.bind_some, evQ, under, one1, he x hx y hy]]
    simp only [Option.bind_some, flat_one]]
  simp only [Option.bind_some]
  rw [← List.flatMap_def]
  exact okL_of hs
/-! slices -/
theorem sl_take {l : List D} {k : Nat} : sliceF (.tuple l) none (some (k : Int)) = some (.tuple (l.take k)) := by
  show some _ = _
  rw [HT.sIx_none, HT.sIx_nat, Nat.sub_zero, List.drop_zero]
  congr 2
  rw [← List.take_take]
  congr 1
  exact (List.take_length ▸ rfl)
theorem sl_drop {l : List D} {k : Nat} : sliceF (.tuple l) (some (k : Int)) none = some (.tuple (l.drop k)) := by
  show some _ = _
  rw [HT.sIx_none, HT.sIx_nat]
  congr 2
  rw [List.take_of_length_le (by rw [List.length_drop]; omega)]
  by_cases hk : k ≤ l.length
  · rw [Nat.min_eq_left hk]
  · rw [Nat.min_eq_right (by omega), List.drop_of_length_le (by omega), List.drop_of_length_le (by omega)]
theorem ev_slT {a e : E} {l : List D} {k : Nat} (ha : evE c a ρ = some (.tuple l)) (he : evE c e ρ = some (nD k)) : evE c (.sl a none (some e)) ρ = some (.tuple (l.take k)) := by
  simp only [evE, ha, evO, he, Option.bind_some, nD, intO]
  exact sl_take
theorem ev_slD {a e : E} {l : List D} {k : Nat} (ha : evE c a ρ = some (.tuple l)) (he : evE c e ρ = some (nD k)) : evE c (.sl a (some e) none) ρ = some (.tuple (l.drop k)) := by
  simp only [evE, ha, evO, he, Option.bind_some, nD, intO]
  exact sl_drop
theorem ev_tupl {es : List E} {ds : List D} (h : evL c es ρ = some ds) (hl : ds.length ≤ 5000) : evE c (.tup es) ρ = some (.tuple ds) := by
  simp only [evE, h, Option.bind_some]
  exact okT_of hl
theorem ev_isN {a : E} {no : Bool} {d : D} (h : evE c a ρ = some d) : evE c (.isN no a) ρ = some (.bool (isNone d != no)) := by
  simp only [evE, h, Option.bind_some]
theorem ev_inc {e : E} {k : Nat} (h : evE c e ρ = some (nD k)) : evE c (.bin .add e (.cI 1)) ρ = some (nD (k + 1)) := by
  refine ev_bin h rfl ?_
  show some (PyData.int ((k : Int) + 1)) = some (PyData.int ((k + 1 : Nat) : Int))
  congr 2
end
theorem list_upd {α : Type} {f : Nat → α} {n k : Nat} {x : α} (hk : k < n) : ((List.range n).map f).take k ++ x :: ((List.range n).map f).drop (k + 1) = (List.range n).map fun j => if j = k then x else f j := by
  refine List.ext_getElem? fun i => ?_
  rw [List.getElem?_append, List.length_take, List.length_map, List.length_range, Nat.min_eq_left (by omega)]
  by_cases h1 : i < k
  · rw [if_pos h1, List.getElem?_take, if_pos h1, get_range (by omega), get_range (by omega), if_neg (by omega)]
  · rw [if_neg h1]
    by_cases h2 : i = k
    · subst h2
      rw [Nat.sub_self, get_range hk, if_pos rfl]
      rfl
    · obtain ⟨m, hm⟩ : ∃ m, i - k = m + 1 := ⟨i - k - 1, by omega⟩
      rw [hm, List.getElem?_cons_succ, List.getElem?_drop, show k + 1 + m = i by omega]
      by_cases h3 : i < n
      · rw [get_range h3, get_range h3, if_neg h2]
      · rw [List.getElem?_eq_none (by rw [List.length_map, List.length_range]; omega), List.getElem?_eq_none (by rw [List.length_map, List.length_range]; omega)]
theorem list_del {α : Type} {f : Nat → α} {n k : Nat} (hk : k < n) : ((List.range n).map f).take k ++ ((List.range n).map f).drop (k + 1) = (List.range (n - 1)).map fun j => if j < k then f j else f (j + 1) := by
  refine List.ext_getElem? fun i => ?_
  rw [List.getElem?_append, List.length_take, List.length_map, List.length_range, Nat.min_eq_left (by omega)]
  by_cases h1 : i < k
  · rw [if_pos h1, List.getElem?_take, if_pos h1, get_range (by omega), get_range (by omega), if_pos h1]
  · rw [if_neg h1, List.getElem?_drop, show k + 1 + (i - k) = i + 1 by omega]
    by_cases h3 : i + 1 < n
    · rw [get_range h3, get_range (by omega), if_neg h1]
    · rw [List.getElem?_eq_none (by rw [List.length_map, List.length_range]; omega), List.getElem?_eq_none (by rw [List.length_map, List.length_range]; omega)]
def pD (z : Nat × Nat) : D := .tuple [nD z.1, nD z.2]
def holes (h w : Nat) (s : Nat → Nat → Option Bool) : List (Nat × Nat) := (List.range h).flatMap fun i => ((List.range w).filter fun j => (s i j).isNone).map fun j => (i, j)
def put (s : Nat → Nat → Option Bool) (r c : Nat) (x : Option Bool) : Nat → Nat → Option Bool := fun i j => if i = r then (if j = c then x else s r j) else s i j
def delR (s : Nat → Nat → Option Bool) (r : Nat) : Nat → Nat → Option Bool := fun i => if i < r then s i else s (i + 1)
section
variable {n h w : Nat} {s : Nat → Nat → Option Bool}
theorem holes_len : (holes h w s).length ≤ h * w := by
  unfold holes
  have e : ∀ l : List Nat, (l.flatMap fun i => ((List.range w).filter fun j => (s i j).isNone).map fun j => (i, j)).length ≤ l.length * w := by
    intro l
    induction l with
    | nil => simp
    | cons x l ih =>
      rw [List.flatMap_cons, List.length_append, List.length_cons, List.length_map]
      have := List.length_filter_le (fun j => (s x j).isNone) (List.range w)
      rw [List.length_range] at this
      have e : (l.length + 1) * w = l.length * w + w := Nat.succ_mul _ _
      omega
  have := e (List.range h)
  rw [List.length_range] at this
  exact this
theorem holes_mem {z : Nat × Nat} : z ∈ holes h w s ↔ z.1 < h ∧ z.2 < w ∧ s z.1 z.2 = none := by
  unfold holes
  rw [List.mem_flatMap]
  constructor
  · rintro ⟨i, hi, hz⟩
    obtain ⟨j, hj, rfl⟩ := List.mem_map.mp hz
    obtain ⟨h1, h2⟩ := List.mem_filter.mp hj
    exact ⟨List.mem_range.mp hi, List.mem_range.mp h1, Option.isNone_iff_eq_none.mp h2⟩
  · rintro ⟨h1, h2, h3⟩
    exact ⟨z.1, List.mem_range.mpr h1, List.mem_map.mpr ⟨z.2, List.mem_filter.mpr ⟨List.mem_range.mpr h2, by rw [h3]; rfl⟩, rfl⟩⟩
theorem e26 (hn : 4 ≤ n) (h0 : 0 < h) (hh : h ≤ 4) (hw : w ≤ 4) : runF tab n 26 [shE h w s] = some (.list ((holes h w s).map pD)) := by
  refine run_of hn rfl rfl (ex_ret ?_)
  have hl : ((List.range h).flatMap fun i => ((List.range w).filter fun j => (s i j).isNone).map fun j => pD (i, j)).length ≤ 5000 := by
    have := holes_len (h := h) (w := w) (s := s)
    have e : (holes h w s).map pD = (List.range h).flatMap fun i => ((List.range w).filter fun j => (s i j).isNone).map fun j => pD (i, j) := by
      unfold holes
      rw [List.map_flatMap]
      simp only [List.map_map, Function.comp_def]
    rw [← e, List.length_map]
    have : h * w ≤ 4 * 4 := Nat.mul_le_mul hh hw
    omega
  have e : (holes h w s).map pD = (List.range h).flatMap fun i => ((List.range w).filter fun j => (s i j).isNone).map fun j => pD (i, j) := by
    unfold holes
    rw [List.map_flatMap]
    simp only [List.map_map, Function.comp_def]
  rw [e]
  refine ev_lc2 (List.range h) (fun _ => List.range w) nD (fun _ => nD) (fun i j => pD (i, j)) (fun i j => (s i j).isNone) (fun i => [.val (shE h w s), .val (nD i), .un]) (fun i j => [.val (shE h w s), .val (nD i), .val (nD j)])
    (it_rng (ev_len rfl len_sh) (by omega)) (fun _ _ => rfl) (fun i hi => ?_) (fun _ _ _ _ => rfl) (fun i hi j hj => ?_) (fun _ _ _ _ _ => rfl) hl
  · have := it_rng (c := cn n) (ρ := [.val (shE h w s), .val (nD i), .un]) (e := .f1 .len (.ix (.var 0) (.cI 0))) (ev_len (ev_ix rfl rfl (ix_sh h0)) len_row) (show w ≤ 5000 by omega)
    simp only [bor] at this
    exact this
  · have t : evE (cn n) (.ix (.ix (.var 0) (.var 1)) (.var 2)) [.val (shE h w s), .val (nD i), .val (nD j)] = some (cE (s i j)) := ev_ix (ev_ix rfl rfl (ix_sh (List.mem_range.mp hi))) rfl (ix_row (List.mem_range.mp hj))
    refine (ev_isN t).trans ?_
    rw [isN_c]
    cases s i j <;> rfl
theorem e27 {r c : Nat} {x : Option Bool} (hn : 4 ≤ n) (hr : r < h) (hc : c < w) (hh : h ≤ 4) (hw : w ≤ 4) : runF tab n 27 [shE h w s, nD r, nD c, cE x] = some (shE h w (put s r c x)) := by
  have g1 : evE (cn n) (.tup [(.star (.sl (.ix (.var 0) (.var 1)) none (some (.var 2)))), (.var 3), (.star (.sl (.ix (.var 0) (.var 1)) (some (.bin .add (.var 2) (.cI 1))) none))]) [.val (shE h w s), .val (nD r), .val (nD c), .val (cE x), .un] = some (rowE w fun j => if j = c then x else s r j) := by
    have ei : evE (cn n) (.ix (.var 0) (.var 1)) [.val (shE h w s), .val (nD r), .val (nD c), .val (cE x), .un] = some (rowE w (s r)) := ev_ix rfl rfl (ix_sh hr)
    have := list_upd (f := fun j => cE (s r j)) (x := cE x) hc
    refine (ev_tupl (evL_star (ev_slT ei rfl) rfl (evL_cons rfl rfl (evL_star (ev_slD ei (ev_inc rfl)) rfl rfl))) ?_).trans ?_
    · rw [List.append_nil, this, List.length_map, List.length_range]
      omega
    · rw [List.append_nil, this]
      unfold rowE
      congr 2
      refine List.map_congr_left fun j _ => ?_
      show _ = cE (if j = c then x else s r j)
      by_cases e : j = c
      · rw [if_pos e, if_pos e]
      · rw [if_neg e, if_neg e]
  refine run_of hn rfl rfl (ex_nx (s_asg g1 rfl) (ex_ret ?_))
  have := list_upd (f := fun i => rowE w (s i)) (x := rowE w fun j => if j = c then x else s r j) hr
  refine (ev_tupl (evL_star (ev_slT rfl rfl) rfl (evL_cons rfl rfl (evL_star (ev_slD rfl (ev_inc rfl)) rfl rfl))) ?_).trans ?_
  · rw [List.append_nil, this, List.length_map, List.length_range]
    omega
  · rw [List.append_nil, this]
    unfold shE
    congr 2
    refine List.map_congr_left fun i _ => ?_
    by_cases e : i = r
    · rw [if_pos e]
      unfold put
      simp only [if_pos e]
    · rw [if_neg e]
      unfold put
      simp only [if_neg e]
end
end PV
end
section -- M8
namespace PV
open PySem L2
/-! needed -/
theorem eqv_nil (l : List D) : PyData.eqv (.tuple l) (.tuple []) = l.isEmpty := by
  cases l <;> rfl
/-- rank_without -/
def rwo (h w : Nat) (s : Nat → Nat → Option Bool) (r : Nat) : Nat := if h = 1 then 0 else gr (h - 1) w (delR s r)
theorem Pm.del {h w : Nat} {s : Nat → Nat → Option Bool} (p : Pm h w s) {r : Nat} (hr : r < h) : Pm (h - 1) w (delR s r) := by
  intro i j i' j' a b c d e f
  unfold delR at e f
  have q : ∀ i, i < h - 1 → ∃ k, k < h ∧ (if i < r then s i else s (i + 1)) = s k ∧ (k = if i < r then i else i + 1) := by
    intro i hi
    by_cases h1 : i < r
    · exact ⟨i, by omega, by rw [if_pos h1], by rw [if_pos h1]⟩
    · exact ⟨i + 1, by omega, by rw [if_neg h1], by rw [if_neg h1]⟩
  obtain ⟨k, k1, k2, k3⟩ := q i a
  obtain ⟨k', k1', k2', k3'⟩ := q i' b
  rw [k2] at e
  rw [k2'] at f
  rw [← p k j k' j' k1 k1' c d e f, k3, k3']
  constructor
  · rintro rfl; rfl
  · intro z
    split at z <;> split at z <;> omega
section
variable {n h w : Nat} {s : Nat → Nat → Option Bool}
theorem okd_sh : Okd 3 (shE h w s) := okd_cr s (List.range h) (List.range w)
theorem e_eqnil {c : Bool → Nat → List D → Option D} {ρ : Rho} {a : E} (ha : bor ρ a (evE c a ρ) = some (shE h w s)) : evE c (.cmp .eq a (.tup [])) ρ = some (.bool (decide (h = 0))) := by
  refine ev_cmp ha (y := .tuple []) rfl ?_
  show (if shp (shE h w s) && shp (.tuple []) then some (PyData.bool (PyData.eqv (shE h w s) (.tuple []))) else none) = _
  rw [okd_sh.shp (by decide), okd_nil.shp (by decide), Bool.and_self, if_pos rfl, shE, eqv_nil]
  cases h with
  | zero => rfl
  | succ h => rw [List.range_succ_eq_map]; rfl
theorem e_nenil {c : Bool → Nat → List D → Option D} {ρ : Rho} {a : E} (ha : bor ρ a (evE c a ρ) = some (shE h w s)) : evE c (.cmp .ne a (.tup [])) ρ = some (.bool (decide (h ≠ 0))) := by
  refine ev_cmp ha (y := .tuple []) rfl ?_
  show (if shp (shE h w s) && shp (.tuple []) then some (PyData.bool (!PyData.eqv (shE h w s) (.tuple []))) else none) = _
  rw [okd_sh.shp (by decide), okd_nil.shp (by decide), Bool.and_self, if_pos rfl, shE, eqv_nil]
  cases h with
  | zero => rfl
  | succ h => rw [List.range_succ_eq_map]; rfl
theorem del_tup {c : Bool → Nat → List D → Option D} {ρ : Rho} {a b : E} {r : Nat} (ha : evE c a ρ = some (shE h w s)) (hb : evE c b ρ = some (nD r)) (hr : r < h) (hh : h ≤ 4) : evE c (.tup [(.star (.sl a none (some b))), (.star (.sl a (some (.bin .add b (.cI 1))) none))]) ρ = some (shE (h - 1) w (delR s r)) := by
  have := list_del (f := fun i => rowE w (s i)) hr
  refine (ev_tupl (evL_star (ev_slT ha hb) rfl (evL_star (ev_slD ha (ev_inc hb)) rfl rfl)) ?_).trans ?_
  · rw [List.append_nil, this, List.length_map, List.length_range]
    omega
  · rw [List.append_nil, this]
    unfold shE delR
    congr 2
    refine List.map_congr_left fun i _ => ?_
    by_cases e : i < r
    · rw [if_pos e, if_pos e]
    · rw [if_neg e, if_neg e]
theorem e43 {r : Nat} (hn : 18 ≤ n) (pm : Pm h w s) (hr : r < h) (hh : h ≤ 4) (w0 : 0 < w) (hw : w ≤ 4) : runF tab n 43 [shE h w s, nD r] = some (nD (rwo h w s r)) := by
  refine run_of (by omega) rfl rfl (ex_nx (s_asg (del_tup (r := r) rfl rfl hr hh) rfl) (ex_ret (ev_iteE (e_eqnil (h := h - 1) rfl) ?_)))
  unfold rwo
  by_cases h1 : h = 1
  · rw [if_pos h1, decide_eq_true (by omega), if_pos rfl]
    rfl
  · rw [if_neg h1, decide_eq_false (by omega)]
    exact ev_call (ds := [shE (h - 1) w (delR s r)]) rfl (e34 (n := n - 1) (by omega) (pm.del hr) (by omega) (by omega) w0 hw)
theorem e6_0 (n : Nat) : ((lots 4).all fun L => match runF tab (n + 4) 6 [.list (L.map nD)] with | some d => decide (intsD ((itemsOf d).getD []) = some (L.map fun k : Nat => (k : Int))) && tyIs d .tuple | none => false) = true := by kernel_rfl
theorem ints_nat : ∀ {ds : List D} {L : List Nat}, intsD ds = some (L.map fun k : Nat => (k : Int)) → ds = L.map nD
  | [], [], _ => rfl
  | [], _ :: _, h => by simp [intsD] at h
  | d :: ds, L, h => by
    cases d with
    | int i =>
      simp only [intsD] at h
      cases e : intsD ds with
      | none => rw [e] at h; cases h
      | some l =>
        rw [e] at h
        cases L with
        | nil => cases h
        | cons k L =>
          simp only [Option.bind_some, List.map_cons, Option.some.injEq, List.cons.injEq] at h
          obtain ⟨h1, h2⟩ := h
          subst h1
          rw [h2] at e
          rw [ints_nat e]
          rfl
    | _ => simp [intsD] at h
theorem e6 {L : List Nat} (hn : 4 ≤ n) (hL : L ∈ lots 4) : runF tab n 6 [.list (L.map nD)] = some (nT L) := by
  obtain ⟨m, rfl⟩ : ∃ m, n = m + 4 := ⟨n - 4, by omega⟩
  have h1 := List.all_eq_true.mp (e6_0 m) L hL
  cases e : runF tab (m + 4) 6 [.list (L.map nD)] with
  | none => rw [e] at h1; cases h1
  | some d =>
    rw [e] at h1
    simp only [Bool.and_eq_true, decide_eq_true_eq] at h1
    obtain ⟨h2, h3⟩ := h1
    cases d with
    | tuple ds =>
      have h4 : ds = L.map nD := ints_nat h2
      rw [h4]
      rfl
    | _ => cases h3
theorem lots_4 : ∀ h ∈ [0,1,2,3,4], ∀ R ∈ lots h, R ∈ lots 4 := by decide
def rnd (h w : Nat) (s : Nat → Nat → Option Bool) (g : Nat) : List Nat := (List.range h).filter fun r => decide (rwo h w s r < g)
theorem e44 {g : Nat} (hn : 19 ≤ n) (pm : Pm h w s) (hh : h ≤ 4) (w0 : 0 < w) (hw : w ≤ 4) : runF tab n 44 [shE h w s, nD g] = some (nT (rnd h w s g)) := by
  refine run_of (by omega) rfl rfl (ex_ret (ev_call (ds := [.list ((rnd h w s g).map nD)]) (evL_cons rfl ?_ rfl) (e6 (n := n - 1) (by omega) (lots_4 h (le4 hh) _ (lots_of hh _)))))
  exact ev_lc1 (List.range h) nD nD (fun r => decide (rwo h w s r < g)) (fun r => [.val (shE h w s), .val (nD g), .val (nD r)]) (it_rng (ev_len rfl len_sh) (by omega)) (fun _ _ => rfl) (fun r hr => ev_cmp (ev_call (ds := [shE h w s, nD r]) rfl (e43 (n := n - 1) (by omega) pm (List.mem_range.mp hr) hh w0 hw)) rfl (lt_nD _ _)) (fun _ _ _ => rfl) (by rw [List.length_range]; omega)
/-! sorted(set(..)) of ascending pairs -/
def ltP (x y : Nat × Nat) : Bool := ltI [(x.1 : Int), (x.2 : Int)] [(y.1 : Int), (y.2 : Int)]
def tI (z : Nat × Nat) : List Int := [(z.1 : Int), (z.2 : Int)]
theorem ltI_asym {x y : Nat × Nat} (h : ltI (tI x) (tI y) = true) : ltI (tI y) (tI x) = false ∧ tI x ≠ tI y := by
  unfold tI ltI at *
  by_cases h1 : (x.1 : Int) = y.1
  · rw [if_pos h1] at h
    rw [if_pos h1.symm]
    unfold ltI at *
    by_cases h2 : (x.2 : Int) = y.2
    · rw [if_pos h2] at h
      simp [ltI] at h
    · rw [if_neg h2] at h
      rw [if_neg (Ne.symm h2)]
      have := of_decide_eq_true h
      refine ⟨decide_eq_false (by omega), fun z => ?_⟩
      simp only [List.cons.injEq, and_true] at z
      omega
  · rw [if_neg h1] at h
    rw [if_neg (Ne.symm h1)]
    have := of_decide_eq_true h
    refine ⟨decide_eq_false (by omega), fun z => ?_⟩
    simp only [List.cons.injEq, and_true] at z
    omega
theorem dedup_p : ∀ {l : List (Nat × Nat)}, l.Pairwise (fun x y => ltI (tI x) (tI y) = true) → dedup (l.map tI) = l.map tI
  | [], _ => rfl
  | x :: l, h => by
    obtain ⟨h1, h2⟩ := List.pairwise_cons.mp h
    rw [List.map_cons, dedup, if_neg ?_, dedup_p h2]
    intro z
    obtain ⟨y, hy, e⟩ := List.mem_map.mp z
    exact (ltI_asym (h1 y hy)).2 e.symm
theorem isort_p : ∀ {l : List (Nat × Nat)}, l.Pairwise (fun x y => ltI (tI x) (tI y) = true) → isort ltI (l.map tI) = l.map tI
  | [], _ => rfl
  | [x], _ => rfl
  | x :: y :: l, h => by
    obtain ⟨h1, h2⟩ := List.pairwise_cons.mp h
    have ih := isort_p h2
    rw [List.map_cons, isort, ih, List.map_cons, ins, (ltI_asym (h1 y List.mem_cons_self)).1]
    rfl
theorem setS_p {l : List (Nat × Nat)} (h : l.Pairwise (fun x y => ltI (tI x) (tI y) = true)) (hl : l.length ≤ 60) (hb : ∀ z ∈ l, z.1 < 64 ∧ z.2 < 64) : setS (l.map pD) = some (.list (l.map pD)) := by
  cases l with
  | nil => rfl
  | cons x l =>
    have e1 : intsD ((x :: l).map pD) = none := rfl
    have e2 : mapO tupI ((x :: l).map pD) = some ((x :: l).map tI) := mapO_map fun z _ => rfl
    unfold setS
    rw [e1]
    simp only
    rw [e2]
    simp only [Option.bind_some]
    rw [if_pos, dedup_p h, isort_p h, List.map_map]
    · rfl
    · rw [Bool.and_eq_true]
      refine ⟨Nat.ble_eq.mpr (by rw [List.length_map]; exact hl), List.all_eq_true.mpr fun t ht => ?_⟩
      obtain ⟨z, hz, rfl⟩ := List.mem_map.mp ht
      obtain ⟨b1, b2⟩ := hb z hz
      have c1 : decide ((0 : Int) ≤ (z.1 : Int)) = true := decide_eq_true (by omega)
      have c2 : decide ((z.1 : Int) < 64) = true := decide_eq_true (by omega)
      have c3 : decide ((0 : Int) ≤ (z.2 : Int)) = true := decide_eq_true (by omega)
      have c4 : decide ((z.2 : Int) < 64) = true := decide_eq_true (by omega)
      simp only [tI, List.length_cons, List.length_nil, List.all_cons, List.all_nil, c1, c2, c3, c4]
      rfl
def allP (h w : Nat) : List (Nat × Nat) := (List.range h).flatMap fun i => (List.range w).map fun j => (i, j)
theorem holes_eq : holes h w s = (allP h w).filter fun z => (s z.1 z.2).isNone := by
  unfold holes allP
  generalize List.range h = l
  induction l with
  | nil => rfl
  | cons x l ih =>
    rw [List.flatMap_cons, List.flatMap_cons, List.filter_append, ih, List.filter_map]
    rfl
theorem allP_pw : ∀ h ∈ [0,1,2,3,4], ∀ w ∈ [0,1,2,3,4], (allP h w).Pairwise (fun x y => ltI (tI x) (tI y) = true) := by decide +kernel
theorem holes_pw (hh : h ≤ 4) (hw : w ≤ 4) : (holes h w s).Pairwise (fun x y => ltI (tI x) (tI y) = true) := by
  rw [holes_eq]
  exact List.Pairwise.sublist List.filter_sublist (allP_pw h (le4 hh) w (le4 hw))
/-- the places without which the rank is less -/
def plc (h w : Nat) (s : Nat → Nat → Option Bool) (g : Nat) : List (Nat × Nat) := (holes h w s).filter fun z => decide (gr h w (put s z.1 z.2 (some false)) < g)
theorem Pm.put0 (p : Pm h w s) (r c : Nat) : Pm h w (put s r c (some false)) := by
  intro i j i' j' a b c' d e f
  have q : ∀ i j, put s r c (some false) i j = some true → s i j = some true := by
    intro i j e
    unfold put at e
    by_cases h1 : i = r
    · rw [if_pos h1] at e
      by_cases h2 : j = c
      · rw [if_pos h2] at e; cases e
      · rw [if_neg h2] at e; rw [h1]; exact e
    · rw [if_neg h1] at e; exact e
  exact p i j i' j' a b c' d (q _ _ e) (q _ _ f)
theorem e45 {d : D} (hn : 20 ≤ n) (pm : Pm h w s) (h0 : 0 < h) (hh : h ≤ 4) (w0 : 0 < w) (hw : w ≤ 4) (hd : runF tab (n - 1) 4 [d] = some (shE h w s)) :
    runF tab n 45 [d] = some (.tuple [nT (rnd h w s (gr h w s)), nT (rnd w h (tr s) (gr h w s)), .tuple ((plc h w s (gr h w s)).map pD)]) := by
  have hml : h * w ≤ 4 * 4 := Nat.mul_le_mul hh hw
  have g1 : evE (cn n) (.call 4 [(.var 0)]) [.val d, .un, .un, .un, .un] = some (shE h w s) := ev_call (ds := [d]) rfl hd
  have g2 : evE (cn n) (.call 34 [(.var 1)]) [.val d, .val (shE h w s), .un, .un, .un] = some (nD (gr h w s)) := ev_call (ds := [shE h w s]) rfl (e34 (n := n - 1) (by omega) pm h0 hh w0 hw)
  have g3 : evE (cn n) (.lc (.var 4) (.one 4) (.call 26 [(.var 1)]) (some (.cmp .lt (.call 34 [(.call 27 [(.var 1), (.ix (.var 4) (.cI 0)), (.ix (.var 4) (.cI 1)), (.gl false)])]) (.var 2))) [("spot", 4)]) [.val d, .val (shE h w s), .val (nD (gr h w s)), .un, .un] = some (.list ((plc h w s (gr h w s)).map pD)) := by
    refine ev_lc1 (holes h w s) pD pD (fun z => decide (gr h w (put s z.1 z.2 (some false)) < gr h w s)) (fun z => [.val d, .val (shE h w s), .val (nD (gr h w s)), .un, .val (pD z)]) ?_ (fun _ _ => rfl) (fun z hz => ?_) (fun _ _ _ => rfl) ?_
    · have := ev_call (c := cn n) (ρ := [.val d, .val (shE h w s), .val (nD (gr h w s)), .un, .un]) (f := 26) (es := [.var 1]) (ds := [shE h w s]) rfl (e26 (n := n - 1) (by omega) h0 hh hw)
      simp only [bor]
      rw [this]
      rfl
    · obtain ⟨z1, z2, _⟩ := holes_mem.mp hz
      exact ev_cmp (ev_call (ds := [shE h w (put s z.1 z.2 (some false))]) (evL_cons rfl (ev_call (ds := [shE h w s, nD z.1, nD z.2, cE (some false)]) rfl (e27 (n := n - 1) (by omega) z1 z2 hh hw)) rfl) (e34 (n := n - 1) (by omega) (pm.put0 _ _) h0 hh w0 hw)) rfl (lt_nD _ _)
    · have := holes_len (h := h) (w := w) (s := s)
      omega
  refine run_of (by omega) rfl rfl (ex_nx (s_asg g1 rfl) (ex_nx (s_asg g2 rfl) (ex_nx (s_asg g3 rfl) (ex_ret (ev_tupl ?_ (show 3 ≤ 5000 by decide))))))
  refine evL_cons rfl (ev_call (ds := [shE h w s, nD (gr h w s)]) rfl (e44 (n := n - 1) (by omega) pm hh w0 hw)) (evL_cons rfl (ev_call (ds := [shE w h (tr s), nD (gr h w s)]) (evL_cons rfl (ev_call (ds := [shE h w s, nD w]) (evL_cons rfl rfl (evL_cons rfl (ev_len (ev_ix rfl rfl (ix_sh h0)) len_row) rfl)) (e17 (n := n - 1) (by omega) (by omega) (by omega))) rfl) (e44 (n := n - 1) (by omega) pm.tr hw h0 hh)) (evL_cons rfl (ev_call (ds := [.list ((plc h w s (gr h w s)).map pD)]) rfl ?_) rfl))
  have hs := setS_p (l := plc h w s (gr h w s)) (List.Pairwise.sublist List.filter_sublist (holes_pw hh hw)) (Nat.le_trans (List.length_filter_le _ _) (by have := holes_len (h := h) (w := w) (s := s); omega)) fun z hz => by
    obtain ⟨z1, z2, _⟩ := holes_mem.mp (List.mem_filter.mp hz).1
    omega
  refine run_of (n := n - 1) (by omega) rfl rfl (ex_ret (ev_tup ?_))
  show srtF (cn (n - 1) true) .setL (.list ((plc h w s (gr h w s)).map pD)) = _
  exact hs
end
end PV
end
section -- M9
namespace PV
open PySem L2
theorem loop_inv {α : Type} {f : D → Rho → Option Out} (enc : α → D) (I : List α → Rho → Prop) : ∀ (l done : List α) (ρ : Rho), (∀ (pre : List α) (x : α) (post : List α) (ρ : Rho), done ++ l = pre ++ x :: post → I pre ρ → ∃ ρ', f (enc x) ρ = some (.nx ρ') ∧ I (pre ++ [x]) ρ') → I done ρ → ∃ ρ', loopO f (l.map enc) ρ = some (.nx ρ') ∧ I (done ++ l) ρ'
  | [], done, ρ, _, h => ⟨ρ, rfl, by rw [List.append_nil]; exact h⟩
  | x :: l, done, ρ, H, h => by
    obtain ⟨ρ1, e1, h1⟩ := H done x l ρ rfl h
    obtain ⟨ρ2, e2, h2⟩ := loop_inv enc I l (done ++ [x]) ρ1 (fun pre y post ρ e => H pre y post ρ (by rw [← e, List.append_assoc]; rfl)) h1
    refine ⟨ρ2, ?_, by rw [List.append_assoc] at h2; exact h2⟩
    rw [List.map_cons, loopO, e1]
    exact e2
theorem s_for {c : Bool → Nat → List D → Option D} {ρ ρ' : Rho} {t : T} {it : E} {b : List S} {ds : List D} {d : D} (h : evE c it ρ = some d) (h1 : itemsOf d = some ds) (h2 : loopO (fun d ρ => (bindT t d ρ).bind fun ρ' => exL c b ρ') ds ρ = some (.nx ρ')) : exS c (.for_ t it b) ρ = some (.nx ρ') := by
  simp only [exS, h, h1, Option.bind_some, h2]
def cel : Option D → Cel
  | none => .un
  | some d => .val d
/-- one step of best_filling -/
def bst (h w g : Nat) (s : Nat → Nat → Option Bool) (z : Nat × Nat) : Nat → Nat → Option Bool := put s z.1 z.2 (if gr h w (put s z.1 z.2 (some false)) = g then some false else some true)
def bfl (h w g : Nat) (s : Nat → Nat → Option Bool) (l : List (Nat × Nat)) : Nat → Nat → Option Bool := l.foldl (bst h w g) s
section
variable {n h w : Nat} {s : Nat → Nat → Option Bool}
theorem e38 (hn : 18 ≤ n) (h0 : 0 < h) (hh : h ≤ 4) (w0 : 0 < w) (hw : w ≤ 4) (hP : ∀ pre post, holes h w s = pre ++ post → Pm h w (bfl h w (gr h w s) s pre)) : runF tab n 38 [shE h w s] = some (shE h w (bfl h w (gr h w s) s (holes h w s))) := by
  have g1 : evE (cn n) (.call 34 [(.var 0)]) [.val (shE h w s), .un, .un, .un, .un] = some (nD (gr h w s)) := ev_call (ds := [shE h w s]) rfl (e34 (n := n - 1) (by omega) (hP [] _ rfl) h0 hh w0 hw)
  have g2 : evE (cn n) (.call 26 [(.var 0)]) [.val (shE h w s), .val (nD (gr h w s)), .un, .un, .un] = some (.list ((holes h w s).map pD)) := ev_call (ds := [shE h w s]) rfl (e26 (n := n - 1) (by omega) h0 hh hw)
  obtain ⟨ρ', e, x, y, z, hρ⟩ := loop_inv (f := fun d ρ => (bindT (.tup [(.one 2), (.one 3)]) d ρ).bind fun ρ' => exL (cn n) [.asg (.one 4) (.call 27 [(.var 0), (.var 2), (.var 3), (.gl false)]), .asg (.one 0) (.ite (.cmp .eq (.call 34 [(.var 4)]) (.var 1)) (.var 4) (.call 27 [(.var 0), (.var 2), (.var 3), (.gl true)]))] ρ') pD
    (fun pre ρ => ∃ x y z : Option D, ρ = [.val (shE h w (bfl h w (gr h w s) s pre)), .val (nD (gr h w s)), cel x, cel y, cel z]) (holes h w s) [] [.val (shE h w s), .val (nD (gr h w s)), .un, .un, .un] (fun pre q post ρ eq ⟨x, y, z, hρ⟩ => by
      subst hρ
      have pm : Pm h w (bfl h w (gr h w s) s pre) := hP pre _ eq
      have hq : q ∈ holes h w s := by rw [show holes h w s = pre ++ q :: post from eq]; exact List.mem_append_right _ List.mem_cons_self
      obtain ⟨q1, q2, _⟩ := holes_mem.mp hq
      have eb : bindT (.tup [(.one 2), (.one 3)]) (pD q) [.val (shE h w (bfl h w (gr h w s) s pre)), .val (nD (gr h w s)), cel x, cel y, cel z] = some [.val (shE h w (bfl h w (gr h w s) s pre)), .val (nD (gr h w s)), .val (nD q.1), .val (nD q.2), cel z] := by
        cases x <;> cases y <;> rfl
      refine ⟨[.val (shE h w (bfl h w (gr h w s) s (pre ++ [q]))), .val (nD (gr h w s)), .val (nD q.1), .val (nD q.2), .val (shE h w (put (bfl h w (gr h w s) s pre) q.1 q.2 (some false)))], ?_, ⟨some (nD q.1), some (nD q.2), some _, rfl⟩⟩
      simp only [eb, Option.bind_some]
      refine ex_nx (s_asg (d := shE h w (put (bfl h w (gr h w s) s pre) q.1 q.2 (some false))) (ev_call (ds := [shE h w (bfl h w (gr h w s) s pre), nD q.1, nD q.2, cE (some false)]) rfl (e27 (n := n - 1) (by omega) q1 q2 hh hw)) (by cases z <;> rfl)) ?_
      refine ex_nx (s_asg (d := shE h w (bfl h w (gr h w s) s (pre ++ [q]))) (ev_iteE (x := decide (gr h w (put (bfl h w (gr h w s) s pre) q.1 q.2 (some false)) = gr h w s)) (ev_cmp (ev_call (ds := [shE h w (put (bfl h w (gr h w s) s pre) q.1 q.2 (some false))]) rfl (e34 (n := n - 1) (by omega) (pm.put0 _ _) h0 hh w0 hw)) rfl (eq_nD _ _)) ?_) rfl) rfl
      have e2 : bfl h w (gr h w s) s (pre ++ [q]) = bst h w (gr h w s) (bfl h w (gr h w s) s pre) q := by
        unfold bfl
        rw [List.foldl_append]
        rfl
      rw [e2]
      unfold bst
      by_cases hc : gr h w (put (bfl h w (gr h w s) s pre) q.1 q.2 (some false)) = gr h w s
      · rw [if_pos hc, decide_eq_true hc, if_pos rfl]
        rfl
      · rw [if_neg hc, decide_eq_false hc]
        exact ev_call (ds := [shE h w (bfl h w (gr h w s) s pre), nD q.1, nD q.2, cE (some true)]) rfl (e27 (n := n - 1) (by omega) q1 q2 hh hw)) ⟨none, none, none, rfl⟩
  subst hρ
  exact run_of (by omega) rfl rfl (ex_nx (s_asg g1 rfl) (ex_nx (s_for g2 rfl e) (ex_ret rfl)))
/-- all holes get 0 -/
def zer (s : Nat → Nat → Option Bool) : Nat → Nat → Option Bool := fun i j => if (s i j).isNone then some false else s i j
def pz (s : Nat → Nat → Option Bool) (l : List (Nat × Nat)) : Nat → Nat → Option Bool := l.foldl (fun s z => put s z.1 z.2 (some false)) s
end
end PV
end
section -- M10
namespace PV
open PySem L2
theorem pairs_map {α : Type} (f : α → D) (d : D) : ∀ l : List α, pairs (l.map f) (List.replicate l.length d) = l.map fun z => .tuple [f z, d]
  | [] => rfl
  | x :: l => by
    rw [List.map_cons, List.length_cons, List.replicate_succ, pairs, pairs_map f d l]
    rfl
section
variable {n h w : Nat} {s : Nat → Nat → Option Bool}
theorem put_eq {i j r c : Nat} {x : Option Bool} : put s r c x i j = if i = r ∧ j = c then x else s i j := by
  unfold put
  by_cases h1 : i = r
  · subst h1
    by_cases h2 : j = c
    · simp [h2]
    · simp [h2]
  · simp [h1]
theorem pz_eq : ∀ (l : List (Nat × Nat)) (s : Nat → Nat → Option Bool) (i j : Nat), pz s l i j = if (i, j) ∈ l then some false else s i j
  | [], s, i, j => by simp [pz]
  | z :: l, s, i, j => by
    show pz (put s z.1 z.2 (some false)) l i j = _
    rw [pz_eq l, put_eq]
    by_cases h1 : (i, j) ∈ l
    · rw [if_pos h1, if_pos (List.mem_cons_of_mem _ h1)]
    · rw [if_neg h1]
      by_cases h2 : i = z.1 ∧ j = z.2
      · rw [if_pos h2, if_pos (by rw [h2.1, h2.2]; exact List.mem_cons_self)]
      · rw [if_neg h2, if_neg fun z' => (List.mem_cons.mp z').elim (fun e => h2 (by rw [← e]; exact ⟨rfl, rfl⟩)) h1]
theorem shE_congr {s t : Nat → Nat → Option Bool} (e : ∀ i j, i < h → j < w → s i j = t i j) : shE h w s = shE h w t := by
  unfold shE rowE
  refine congrArg _ (List.map_congr_left fun i hi => congrArg _ (List.map_congr_left fun j hj => ?_))
  rw [e i j (List.mem_range.mp hi) (List.mem_range.mp hj)]
theorem pz_zer : shE h w (pz s (holes h w s)) = shE h w (zer s) := shE_congr fun i j hi hj => by
  rw [pz_eq]
  unfold zer
  by_cases e : s i j = none
  · rw [if_pos (holes_mem.mpr ⟨hi, hj, e⟩), e]
    rfl
  · rw [if_neg fun z => e (holes_mem.mp z).2.2, if_neg fun z => e (Option.isNone_iff_eq_none.mp z)]
theorem e28 (hn : 5 ≤ n) (h0 : 0 < h) (hh : h ≤ 4) (hw : w ≤ 4) : runF tab n 28 [shE h w s, .list (List.replicate (holes h w s).length (cE (some false)))] = some (shE h w (zer s)) := by
  have g1 : evE (cn n) (.zip (.call 26 [(.var 0)]) (.var 1)) [.val (shE h w s), .val (.list (List.replicate (holes h w s).length (cE (some false)))), .un, .un, .un] = some (.list ((holes h w s).map fun z => .tuple [pD z, cE (some false)])) := by
    have := ev_call (c := cn n) (ρ := [.val (shE h w s), .val (.list (List.replicate (holes h w s).length (cE (some false)))), .un, .un, .un]) (f := 26) (es := [.var 0]) (ds := [shE h w s]) rfl (e26 (n := n - 1) (by omega) h0 hh hw)
    rw [evE, this]
    show zipF (.list ((holes h w s).map pD)) (.list (List.replicate (holes h w s).length (cE (some false)))) = _
    rw [zipF, pairs_map]
  obtain ⟨ρ', e, x, y, z, hρ⟩ := loop_inv (f := fun d ρ => (bindT (.tup [(.tup [(.one 2), (.one 3)]), (.one 4)]) d ρ).bind fun ρ' => exL (cn n) [.asg (.one 0) (.call 27 [(.var 0), (.var 2), (.var 3), (.var 4)])] ρ') (fun z => PyData.tuple [pD z, cE (some false)])
    (fun pre ρ => ∃ x y z : Option D, ρ = [.val (shE h w (pz s pre)), .val (.list (List.replicate (holes h w s).length (cE (some false)))), cel x, cel y, cel z]) (holes h w s) [] [.val (shE h w s), .val (.list (List.replicate (holes h w s).length (cE (some false)))), .un, .un, .un] (fun pre q post ρ eq ⟨x, y, z, hρ⟩ => by
      subst hρ
      have hq : q ∈ holes h w s := by rw [show holes h w s = pre ++ q :: post from eq]; exact List.mem_append_right _ List.mem_cons_self
      obtain ⟨q1, q2, _⟩ := holes_mem.mp hq
      have eb : bindT (.tup [(.tup [(.one 2), (.one 3)]), (.one 4)]) (.tuple [pD q, cE (some false)]) [.val (shE h w (pz s pre)), .val (.list (List.replicate (holes h w s).length (cE (some false)))), cel x, cel y, cel z] = some [.val (shE h w (pz s pre)), .val (.list (List.replicate (holes h w s).length (cE (some false)))), .val (nD q.1), .val (nD q.2), .val (cE (some false))] := by
        cases x <;> cases y <;> cases z <;> rfl
      refine ⟨[.val (shE h w (pz s (pre ++ [q]))), .val (.list (List.replicate (holes h w s).length (cE (some false)))), .val (nD q.1), .val (nD q.2), .val (cE (some false))], ?_, ⟨some (nD q.1), some (nD q.2), some (cE (some false)), rfl⟩⟩
      simp only [eb, Option.bind_some]
      have e2 : pz s (pre ++ [q]) = put (pz s pre) q.1 q.2 (some false) := by
        unfold pz
        rw [List.foldl_append]
        rfl
      rw [e2]
      exact ex_nx (s_asg (d := shE h w (put (pz s pre) q.1 q.2 (some false))) (ev_call (ds := [shE h w (pz s pre), nD q.1, nD q.2, cE (some false)]) rfl (e27 (n := n - 1) (by omega) q1 q2 hh hw)) rfl) rfl) ⟨none, none, none, rfl⟩
  subst hρ
  rw [← pz_zer]
  exact run_of (by omega) rfl rfl (ex_nx (s_for g1 rfl e) (ex_ret rfl))
/-- without a row and a column -/
def delRC (s : Nat → Nat → Option Bool) (r c : Nat) : Nat → Nat → Option Bool := fun i j => delR s r i (if j < c then j else j + 1)
theorem e46 {r c : Nat} (hn : 4 ≤ n) (hr : r < h) (hc : c < w) (hh : h ≤ 4) (hw : w ≤ 4) : runF tab n 46 [shE h w s, nD r, nD c] = some (shE (h - 1) (w - 1) (delRC s r c)) := by
  refine run_of hn rfl rfl (ex_nx (s_asg (del_tup (r := r) rfl rfl hr hh) rfl) (ex_ret (ev_tup ?_)))
  refine ev_lc0 (List.range (h - 1)) (fun i => rowE w (delR s r i)) (fun i => rowE (w - 1) (delRC s r c i)) (fun i => [.val (shE h w s), .val (nD r), .val (nD c), .val (shE (h - 1) w (delR s r)), .val (rowE w (delR s r i))]) rfl (fun _ _ => rfl) (fun i hi => ?_) (by rw [List.length_range]; omega)
  have := list_del (f := fun j => cE (delR s r i j)) hc
  refine (ev_tupl (evL_star (ev_slT rfl rfl) rfl (evL_star (ev_slD rfl (ev_inc rfl)) rfl rfl)) ?_).trans ?_
  · rw [List.append_nil, this, List.length_map, List.length_range]
    omega
  · rw [List.append_nil, this]
    unfold rowE delRC
    congr 2
    refine List.map_congr_left fun j _ => ?_
    by_cases e : j < c
    · rw [if_pos e, if_pos e]
    · rw [if_neg e, if_neg e]
end
end PV
end
section -- M11
namespace PV
open PySem L2
/-- the window is told -/
def tw (s : Nat → Nat → Option Bool) (R C : List Nat) : Bool := R.all fun i => C.all fun j => (s i j).isSome
theorem eqv_cN (x : Option Bool) : PyData.eqv (cE x) .none = x.isNone := by
  cases x <;> rfl
theorem none_in (s : Nat → Nat → Option Bool) (i : Nat) (C : List Nat) : cmpF .in_ .none (.tuple (C.map fun j => cE (s i j))) = some (.bool (!C.all fun j => (s i j).isSome)) := by
  have e : (C.map fun j => cE (s i j)).any (fun z => PyData.eqv z .none) = !C.all fun j => (s i j).isSome := by
    induction C with
    | nil => rfl
    | cons j C ih =>
      rw [List.map_cons, List.any_cons, List.all_cons, ih, eqv_cN]
      cases s i j <;> simp
  show (if shp .none && shp (.tuple (C.map fun j => cE (s i j))) then _ else none) = _
  rw [show shp (.none : D) = true from okd_none.shp (by decide), (okd_tup (okd_map fun j (_ : j ∈ C) => okd_c (s i j))).shp (by decide), Bool.and_self, if_pos rfl]
  exact congrArg (fun b => some (PyData.bool b)) e
theorem tw_empty (s : Nat → Nat → Option Bool) (C : List Nat) : ∀ R : List Nat, ((R.filter fun i => !C.all fun j => (s i j).isSome).map fun _ => nD 1).isEmpty = tw s R C
  | [] => rfl
  | i :: R => by
    have ih := tw_empty s C R
    unfold tw at ih ⊢
    rw [List.all_cons, List.filter_cons]
    cases hc : C.all fun j => (s i j).isSome with
    | true =>
      rw [Bool.true_and]
      exact ih
    | false => rfl
section
variable {n h w : Nat} {s : Nat → Nat → Option Bool}
theorem e65 {R C : List Nat} (hn : 5 ≤ n) (hr : ∀ k ∈ R, k < h) (hc : ∀ k ∈ C, k < w) (hl : R.length ≤ 60) (hl2 : C.length ≤ 5000) : runF tab n 65 [shE h w s, nT R, nT C] = some (.bool (tw s R C)) := by
  have g : evE (cn n) (.lc (.cI 1) (.one 3) (.call 64 [(.var 0), (.var 1), (.var 2)]) (some (.cmp .in_ .cN (.var 3))) [("_law_own", 3)]) [.val (shE h w s), .val (nT R), .val (nT C), .un] = some (.list ((R.filter fun i => !C.all fun j => (s i j).isSome).map fun _ => nD 1)) := by
    refine ev_lc1 R (fun i => .tuple (C.map fun j => cE (s i j))) (fun _ => nD 1) (fun i => !C.all fun j => (s i j).isSome) (fun i => [.val (shE h w s), .val (nT R), .val (nT C), .val (.tuple (C.map fun j => cE (s i j)))]) ?_ (fun _ _ => rfl) (fun i hi => ev_cmp rfl rfl (none_in s i C)) (fun _ _ _ => rfl) (by omega)
    have := ev_call (c := cn n) (ρ := [.val (shE h w s), .val (nT R), .val (nT C), .un]) (f := 64) (es := [.var 0, .var 1, .var 2]) (ds := [shE h w s, nT R, nT C]) rfl (e64 (n := n - 1) (by omega) hr hc (by omega) hl2)
    simp only [bor]
    rw [this]
    rfl
  refine run_of (by omega) rfl rfl (ex_ret (ev_cmp (y := .list []) g rfl ?_))
  have h1 : Okd 1 (.list ((R.filter fun i => !C.all fun j => (s i j).isSome).map fun _ => nD 1)) := okd_lst (okd_map fun _ _ => okd_int _)
  have h2 : Okd 1 (.list []) := okd_lst fun _ z => nomatch z
  show (if shp _ && shp _ then some (PyData.bool (PyData.eqv _ _)) else none) = _
  rw [h1.shp (by decide), h2.shp (by decide), Bool.and_self, if_pos rfl]
  congr 2
  have e : ∀ l : List D, PyData.eqv (.list l) (.list []) = l.isEmpty := fun l => by cases l <;> rfl
  rw [e]
  exact tw_empty s C R
/-- the law's rank of a told window -/
theorem lr_e (n : Nat) : ([0,1,2,3,4].all fun a => isI (runF tab (n + 14) 61 [mtD (List.replicate a [])]) 0) = true := by kernel_rfl
theorem lr_any {a b : Nat} {m : List (List Bool)} (n : Nat) (h1 : 1 ≤ a) (h2 : a ≤ 4) (h3 : 1 ≤ b) (h4 : b ≤ 4) (hm : m ∈ ppm b a []) : lrOk n m = true := by
  have e1 : a = 1 ∨ a = 2 ∨ a = 3 ∨ a = 4 := by omega
  have e2 : b = 1 ∨ b = 2 ∨ b = 3 ∨ b = 4 := by omega
  have sm : ∀ z ∈ ([(1,1),(1,2),(1,3),(1,4),(2,1),(2,2),(2,3),(3,1),(3,2),(4,1)] : List (Nat × Nat)), (ppm z.2 z.1 []).all (lrOk n) = true := List.all_eq_true.mp (lr_s n)
  rcases e1 with rfl | rfl | rfl | rfl <;> rcases e2 with rfl | rfl | rfl | rfl
  · exact List.all_eq_true.mp (sm (1,1) (by decide)) _ hm
  · exact List.all_eq_true.mp (sm (1,2) (by decide)) _ hm
  · exact List.all_eq_true.mp (sm (1,3) (by decide)) _ hm
  · exact List.all_eq_true.mp (sm (1,4) (by decide)) _ hm
  · exact List.all_eq_true.mp (sm (2,1) (by decide)) _ hm
  · exact List.all_eq_true.mp (sm (2,2) (by decide)) _ hm
  · exact List.all_eq_true.mp (sm (2,3) (by decide)) _ hm
  · exact List.all_eq_true.mp (lr_24 n) _ hm
  · exact List.all_eq_true.mp (sm (3,1) (by decide)) _ hm
  · exact List.all_eq_true.mp (sm (3,2) (by decide)) _ hm
  · exact List.all_eq_true.mp (lr_33 n) _ hm
  · exact List.all_eq_true.mp (lr_34 n) _ hm
  · exact List.all_eq_true.mp (sm (4,1) (by decide)) _ hm
  · exact List.all_eq_true.mp (lr_42 n) _ hm
  · exact List.all_eq_true.mp (lr_43 n) _ hm
  · exact List.all_eq_true.mp (lr_44 n) _ hm
theorem mt_nil (s : Nat → Nat → Option Bool) : ∀ R : List Nat, mt s R [] = List.replicate R.length []
  | [] => rfl
  | i :: R => by
    have := mt_nil s R
    unfold mt at this ⊢
    rw [List.map_cons, this]
    rfl
theorem e61 {R C : List Nat} (hn : 14 ≤ n) (pm : Pm h w s) (hR : ∀ i ∈ R, i < h) (hC : ∀ j ∈ C, j < w) (nr : R.Nodup) (nc : C.Nodup) (ht : ∀ i ∈ R, ∀ j ∈ C, (s i j).isSome = true) (r2 : R.length ≤ 4) (c2 : C.length ≤ 4) :
    runF tab n 61 [crE s R C] = some (nD (ones s R C)) := by
  obtain ⟨m, rfl⟩ : ∃ m, n = m + 14 := ⟨n - 14, by omega⟩
  rw [cr_mt ht, ← onesM_mt]
  by_cases hz : C.length = 0
  · have := List.length_eq_zero_iff.mp hz
    subst this
    rw [onesM_mt, ones_nil, mt_nil]
    exact isI_eq (List.all_eq_true.mp (lr_e m) R.length (le4 r2))
  · by_cases hy : R.length = 0
    · have := List.length_eq_zero_iff.mp hy
      subst this
      exact isI_eq (List.all_eq_true.mp (lr_e m) 0 (by decide))
    · exact isI_eq (lr_any m (by omega) r2 (by omega) c2 (mt_mem pm hC nc R [] nr hR fun k hk => nomatch hk))
theorem e66 {R C : List Nat} (hn : 15 ≤ n) (pm : Pm h w s) (h0 : 0 < h) (hh : h ≤ 4) (hw : w ≤ 4) (hR : ∀ i ∈ R, i < h) (hC : ∀ j ∈ C, j < w) (nr : R.Nodup) (nc : C.Nodup) (lr : R.length ≤ h) (lc : C.length ≤ w) (ht : ∀ i ∈ R, ∀ j ∈ C, (s i j).isSome = true) :
    runF tab n 66 [shE h w s, nT R, nT C] = some (nD (wb h w s R C)) := by
  have ez : evE (cn n) (.bin .sub (.bin .add (.bin .sub (.f1 .len (.var 0)) (.f1 .len (.var 1))) (.f1 .len (.ix (.var 0) (.cI 0)))) (.f1 .len (.var 2))) [.val (shE h w s), .val (nT R), .val (nT C), .un] = some (nD ((h - R.length) + (w - C.length))) := by
    refine ev_bin (x := .int ((h : Int) - R.length + w)) (y := nD C.length) (ev_bin (x := .int ((h : Int) - R.length)) (y := nD w) (ev_bin (x := nD h) (y := nD R.length) (ev_len rfl len_sh) (ev_len rfl len_nT) rfl) (ev_len (ev_ix rfl rfl (ix_sh h0)) len_row) rfl) (ev_len rfl len_nT) ?_
    show some (PyData.int _) = some (PyData.int _)
    congr 2
    omega
  refine run_of (by omega) rfl rfl (ex_nx (s_asg ez rfl) (ex_ret (ev_bin (x := nD ((h - R.length) + (w - C.length))) (y := nD (ones s R C)) rfl (ev_call (ds := [crE s R C]) (evL_cons rfl (ev_call (ds := [shE h w s, nT R, nT C]) rfl (e64 (n := n - 1) (by omega) hR hC (by omega) (by omega))) rfl) (e61 (h := h) (w := w) (by omega) pm hR hC nr nc ht (by omega) (by omega))) ?_)))
  show some (PyData.int _) = some (PyData.int _)
  congr 2
end
end PV
end
section -- M12
namespace PV
open PySem L2
/-- the law's search from row j on, m rows left -/
def mpF (w : Nat) (s : Nat → Nat → Option Bool) : Nat → Nat → List Nat → Nat
  | 0, _, _ => 0
  | m + 1, j, U => (List.range w).foldl (fun f k => if (s j k).isNone && !U.contains k then max f (1 + mpF w s m (j + 1) (U ++ [k])) else f) (mpF w s m (j + 1) U)
theorem numbered_map {α : Type} (f : α → D) : ∀ (l : List α) (n : Nat), numbered n (l.map f) = (List.range' n l.length).zipWith (fun k x => PyData.tuple [nD k, f x]) l
  | [], _ => rfl
  | x :: l, n => by
    rw [List.map_cons, numbered, numbered_map f l, List.length_cons, List.range'_succ]
    rfl
theorem numbered_range (f : Nat → D) (n : Nat) : numbered 0 ((List.range n).map f) = (List.range n).map fun k => PyData.tuple [nD k, f k] := by
  rw [numbered_map, List.length_range, ← List.range_eq_range']
  refine List.ext_getElem? fun i => ?_
  rw [List.getElem?_zipWith, List.getElem?_map]
  by_cases hi : i < n
  · rw [List.getElem?_range hi]
    rfl
  · rw [List.getElem?_eq_none (by rw [List.length_range]; omega)]
    rfl
theorem max_nD (a b : Nat) : f2F .max (nD a) (nD b) = some (nD (max a b)) := by
  show some (PyData.int (if (b : Int) > (a : Int) then (b : Int) else (a : Int))) = some (PyData.int ((max a b : Nat) : Int))
  congr 2
  by_cases h : b > a
  · rw [if_pos (by omega)]; omega
  · rw [if_neg (by omega)]; omega
section
variable {w : Nat} {s : Nat → Nat → Option Bool}
theorem e72 {h : Nat} (hw : w ≤ 4) (hh : h ≤ 4) : ∀ (m j : Nat) (U : List Nat) (n : Nat), 5 + m ≤ n → j + m = h → U.length ≤ 60 - m → runF tab n 72 [shE h w s, nD j, nT U] = some (nD (mpF w s m j U))
  | 0, j, U, n, hn, hj, hU => by
    have : j = h := hj
    subst this
    have ec : evE (cn n) (.cmp .eq (.var 1) (.f1 .len (.var 0))) [.val (shE j w s), .val (nD j), .val (nT U), .un, .un, .un] = some (.bool (decide (j = j))) := ev_cmp rfl (ev_len rfl len_sh) (eq_nD _ _)
    rw [decide_eq_true rfl] at ec
    exact run_of (by omega) rfl rfl (ex_rt (s_iteT ec (ex_ret rfl)))
  | m + 1, j, U, n, hn, hj, hU => by
    have ec : evE (cn n) (.cmp .eq (.var 1) (.f1 .len (.var 0))) [.val (shE h w s), .val (nD j), .val (nT U), .un, .un, .un] = some (.bool (decide (j = h))) := ev_cmp rfl (ev_len rfl len_sh) (eq_nD _ _)
    rw [decide_eq_false (by omega)] at ec
    have g1 : evE (cn n) (.call 72 [(.var 0), (.bin .add (.var 1) (.cI 1)), (.var 2)]) [.val (shE h w s), .val (nD j), .val (nT U), .un, .un, .un] = some (nD (mpF w s m (j + 1) U)) :=
      ev_call (ds := [shE h w s, nD (j + 1), nT U]) (evL_cons rfl rfl (evL_cons rfl (ev_inc rfl) rfl)) (e72 hw hh m (j + 1) U (n - 1) (by omega) (by omega) (by omega))
    have g2 : (evE (cn n) (.enum false (.ix (.var 0) (.var 1))) [.val (shE h w s), .val (nD j), .val (nT U), .val (nD (mpF w s m (j + 1) U)), .un, .un]) = some (.list ((List.range w).map fun k => PyData.tuple [nD k, cE (s j k)])) := by
      have t : evE (cn n) (.ix (.var 0) (.var 1)) [.val (shE h w s), .val (nD j), .val (nT U), .val (nD (mpF w s m (j + 1) U)), .un, .un] = some (rowE w (s j)) := ev_ix rfl rfl (ix_sh (by omega))
      rw [evE, t]
      show some (PyData.list (numbered 0 ((List.range w).map fun k => cE (s j k)))) = _
      rw [numbered_range]
    obtain ⟨ρ', e, x, y, hρ⟩ := loop_inv (f := fun d ρ => (bindT (.tup [(.one 4), (.one 5)]) d ρ).bind fun ρ' => exL (cn n) [.ite (.and (.isN false (.var 5)) (.cmp .notIn (.var 4) (.var 2))) [.asg (.one 3) (.f2 .max (.var 3) (.bin .add (.cI 1) (.call 72 [(.var 0), (.bin .add (.var 1) (.cI 1)), (.bin .add (.var 2) (.tup [(.var 4)]))])))] []] ρ') (fun k => PyData.tuple [nD k, cE (s j k)])
      (fun pre ρ => ∃ x y : Option D, ρ = [.val (shE h w s), .val (nD j), .val (nT U), .val (nD (pre.foldl (fun f k => if (s j k).isNone && !U.contains k then max f (1 + mpF w s m (j + 1) (U ++ [k])) else f) (mpF w s m (j + 1) U))), cel x, cel y]) (List.range w) [] [.val (shE h w s), .val (nD j), .val (nT U), .val (nD (mpF w s m (j + 1) U)), .un, .un] (fun pre k post ρ eq ⟨x, y, hρ⟩ => by
        subst hρ
        rw [List.foldl_append]
        generalize pre.foldl (fun f k => if (s j k).isNone && !U.contains k then max f (1 + mpF w s m (j + 1) (U ++ [k])) else f) (mpF w s m (j + 1) U) = f0
        have eb : bindT (.tup [(.one 4), (.one 5)]) (PyData.tuple [nD k, cE (s j k)]) [.val (shE h w s), .val (nD j), .val (nT U), .val (nD f0), cel x, cel y] = some [.val (shE h w s), .val (nD j), .val (nT U), .val (nD f0), .val (nD k), .val (cE (s j k))] := by
          cases x <;> cases y <;> rfl
        have ei : evE (cn n) (.and (.isN false (.var 5)) (.cmp .notIn (.var 4) (.var 2))) [.val (shE h w s), .val (nD j), .val (nT U), .val (nD f0), .val (nD k), .val (cE (s j k))] = some (.bool ((s j k).isNone && !U.contains k)) := by
          refine ev_and (x := (s j k).isNone) ?_ fun _ => ev_cmp rfl rfl (nin_nT k U)
          refine (ev_isN (d := cE (s j k)) rfl).trans ?_
          rw [isN_c]
          cases s j k <;> rfl
        refine ⟨[.val (shE h w s), .val (nD j), .val (nT U), .val (nD (if (s j k).isNone && !U.contains k then max f0 (1 + mpF w s m (j + 1) (U ++ [k])) else f0)), .val (nD k), .val (cE (s j k))], ?_, ⟨some (nD k), some (cE (s j k)), rfl⟩⟩
        simp only [eb, Option.bind_some]
        cases hc : ((s j k).isNone && !U.contains k) with
        | false =>
          rw [hc] at ei
          rw [if_neg (by decide)]
          exact ex_nx (s_iteF ei rfl) rfl
        | true =>
          rw [hc] at ei
          rw [if_pos rfl]
          refine ex_nx (s_iteT ei (ex_nx (s_asg (d := nD (max f0 (1 + mpF w s m (j + 1) (U ++ [k])))) ?_ rfl) rfl)) rfl
          have eU : evE (cn n) (.bin .add (.var 2) (.tup [(.var 4)])) [.val (shE h w s), .val (nD j), .val (nT U), .val (nD f0), .val (nD k), .val (cE (s j k))] = some (nT (U ++ [k])) := by
            refine ev_bin (x := nT U) (y := nT [k]) rfl rfl ?_
            show okT (U.map nD ++ [nD k]) = _
            rw [okT_of (by rw [List.length_append, List.length_map]; show U.length + 1 ≤ 5000; omega), nT, List.map_append]
            rfl
          have er : evE (cn n) (.bin .add (.cI 1) (.call 72 [(.var 0), (.bin .add (.var 1) (.cI 1)), (.bin .add (.var 2) (.tup [(.var 4)]))])) [.val (shE h w s), .val (nD j), .val (nT U), .val (nD f0), .val (nD k), .val (cE (s j k))] = some (nD (1 + mpF w s m (j + 1) (U ++ [k]))) := by
            refine ev_bin (x := nD 1) (y := nD (mpF w s m (j + 1) (U ++ [k]))) rfl (ev_call (ds := [shE h w s, nD (j + 1), nT (U ++ [k])]) (evL_cons rfl rfl (evL_cons rfl (ev_inc rfl) (evL_cons rfl eU rfl))) (e72 hw hh m (j + 1) (U ++ [k]) (n - 1) (by omega) (by omega) (by rw [List.length_append]; show U.length + 1 ≤ 60 - m; omega))) ?_
            show some (PyData.int _) = some (PyData.int _)
            congr 2
          rw [evE, er]
          exact max_nD _ _) ⟨none, none, rfl⟩
    subst hρ
    exact run_of (by omega) rfl rfl (ex_nx (s_iteF ec rfl) (ex_nx (s_asg g1 rfl) (ex_nx (s_for g2 rfl e) (ex_ret rfl))))
end
end PV
end
section -- M13
namespace PV
open PySem L2
/-- a window of the law's list -/
def wnd (h w : Nat) (z : List Nat × List Nat) : D := .tuple [nT z.1, nT z.2, nD ((h - z.1.length) + (w - z.2.length))]
def wins (h w : Nat) (s : Nat → Nat → Option Bool) : List (List Nat × List Nat) := (lots h).flatMap fun R => ((lots w).filter fun C => tw s R C).map fun C => (R, C)
theorem lots_16 : ∀ h ∈ [0,1,2,3,4], (lots h).length ≤ 16 := by decide
theorem wins_len {h w : Nat} {s : Nat → Nat → Option Bool} (hh : h ≤ 4) (hw : w ≤ 4) : (wins h w s).length ≤ 256 := by
  unfold wins
  have e : ∀ l : List (List Nat), (l.flatMap fun R => ((lots w).filter fun C => tw s R C).map fun C => (R, C)).length ≤ l.length * 16 := by
    intro l
    induction l with
    | nil => simp
    | cons x l ih =>
      rw [List.flatMap_cons, List.length_append, List.length_cons, List.length_map]
      have := List.length_filter_le (fun C => tw s x C) (lots w)
      have := lots_16 w (le4 hw)
      omega
  have := e (lots h)
  have := lots_16 h (le4 hh)
  omega
section
variable {n h w : Nat} {s : Nat → Nat → Option Bool}
theorem e73 (hn : 6 ≤ n) (h0 : 0 < h) (hh : h ≤ 4) (w0 : 0 < w) (hw : w ≤ 4) : runF tab n 73 [shE h w s] = some (.list ((wins h w s).map (wnd h w))) := by
  have g1 : exS (cn n) (.newP 1 2 (.lst []) (.bin .add (.f1 .len (.var 0)) (.f1 .len (.ix (.var 0) (.cI 0))))) [.val (shE h w s), .un, .un, .un, .un, .un] = some (.nx [.val (shE h w s), .own [], .val (nD (h + w)), .un, .un, .un]) := by
    have t : evE (cn n) (.bin .add (.f1 .len (.var 0)) (.f1 .len (.ix (.var 0) (.cI 0)))) [.val (shE h w s), .un, .un, .un, .un, .un] = some (nD (h + w)) := by
      refine ev_bin (x := nD h) (y := nD w) (ev_len rfl len_sh) (ev_len (ev_ix rfl rfl (ix_sh h0)) len_row) ?_
      show some (PyData.int _) = some (PyData.int _)
      congr 2
    rw [exS, t]
    rfl
  have g2 : evE (cn n) (.call 62 [(.f1 .lrng (.f1 .len (.ix (.var 0) (.cI 0))))]) [.val (shE h w s), .own [], .val (nD (h + w)), .un, .un, .un] = some (.list ((lots w).map nT)) :=
    ev_call (ds := [.list ((List.range w).map nD)]) (evL_cons rfl (ev_lrng (ev_len (ev_ix rfl rfl (ix_sh h0)) len_row) (by omega)) rfl) (e62 (n := n - 1) (by omega) hw)
  have g3 : evE (cn n) (.call 62 [(.f1 .lrng (.f1 .len (.var 0)))]) [.val (shE h w s), .own [], .val (nD (h + w)), .val (.list ((lots w).map nT)), .un, .un] = some (.list ((lots h).map nT)) :=
    ev_call (ds := [.list ((List.range h).map nD)]) (evL_cons rfl (ev_lrng (ev_len rfl len_sh) (by omega)) rfl) (e62 (n := n - 1) (by omega) hh)
  obtain ⟨ρ', e, x, y, hρ⟩ := loop_inv (f := fun d ρ => (bindT (.one 4) d ρ).bind fun ρ' => exL (cn n) [.for_ (.one 5) (.var 3) [.ite (.call 65 [(.var 0), (.var 4), (.var 5)]) [.app 1 (.tup [(.var 4), (.var 5), (.bin .sub (.bin .sub (.var 2) (.f1 .len (.var 4))) (.f1 .len (.var 5)))])] []]] ρ') nT
    (fun pre ρ => ∃ x y : Option D, ρ = [.val (shE h w s), .own ((pre.flatMap fun R => ((lots w).filter fun C => tw s R C).map fun C => (R, C)).map (wnd h w)), .val (nD (h + w)), .val (.list ((lots w).map nT)), cel x, cel y]) (lots h) [] [.val (shE h w s), .own [], .val (nD (h + w)), .val (.list ((lots w).map nT)), .un, .un] (fun pre R post ρ eq ⟨x, y, hρ⟩ => by
      subst hρ
      have hRm : R ∈ lots h := by rw [show lots h = pre ++ R :: post from eq]; exact List.mem_append_right _ List.mem_cons_self
      obtain ⟨r1, r2, r3, _⟩ := lots_in h (le4 hh) R hRm
      have hpl : (pre.flatMap fun R => ((lots w).filter fun C => tw s R C).map fun C => (R, C)).length ≤ 256 := by
        have h1 := wins_len (s := s) hh hw
        unfold wins at h1
        rw [show lots h = pre ++ R :: post from eq, List.flatMap_append, List.length_append] at h1
        omega
      generalize hA : (pre.flatMap fun R => ((lots w).filter fun C => tw s R C).map fun C => (R, C)) = A at hpl ⊢
      have eb : bindT (.one 4) (nT R) [.val (shE h w s), .own (A.map (wnd h w)), .val (nD (h + w)), .val (.list ((lots w).map nT)), cel x, cel y] = some [.val (shE h w s), .own (A.map (wnd h w)), .val (nD (h + w)), .val (.list ((lots w).map nT)), .val (nT R), cel y] := by
        cases x <;> rfl
      obtain ⟨ρ2, e2, y2, hρ2⟩ := loop_inv (f := fun d ρ => (bindT (.one 5) d ρ).bind fun ρ' => exL (cn n) [.ite (.call 65 [(.var 0), (.var 4), (.var 5)]) [.app 1 (.tup [(.var 4), (.var 5), (.bin .sub (.bin .sub (.var 2) (.f1 .len (.var 4))) (.f1 .len (.var 5)))])] []] ρ') nT
        (fun pre ρ => ∃ y : Option D, ρ = [.val (shE h w s), .own ((A ++ (pre.filter fun C => tw s R C).map fun C => (R, C)).map (wnd h w)), .val (nD (h + w)), .val (.list ((lots w).map nT)), .val (nT R), cel y]) (lots w) [] [.val (shE h w s), .own (A.map (wnd h w)), .val (nD (h + w)), .val (.list ((lots w).map nT)), .val (nT R), cel y] (fun pre2 C post2 ρ eq2 ⟨y, hρ⟩ => by
          subst hρ
          have hCm : C ∈ lots w := by rw [show lots w = pre2 ++ C :: post2 from eq2]; exact List.mem_append_right _ List.mem_cons_self
          obtain ⟨c1, c2, c3, _⟩ := lots_in w (le4 hw) C hCm
          have hBl : (A ++ (pre2.filter fun C => tw s R C).map fun C => (R, C)).length ≤ 5000 := by
            rw [List.length_append, List.length_map]
            have h1 := List.length_filter_le (fun C => tw s R C) pre2
            have h2 := lots_16 w (le4 hw)
            rw [show lots w = pre2 ++ C :: post2 from eq2, List.length_append] at h2
            omega
          have eq3 : A ++ ((pre2 ++ [C]).filter fun C => tw s R C).map (fun C => (R, C)) = (A ++ (pre2.filter fun C => tw s R C).map fun C => (R, C)) ++ (if tw s R C then [(R, C)] else []) := by
            rw [List.filter_append, List.map_append, List.append_assoc]
            congr 2
            cases hc : tw s R C <;> simp [hc]
          rw [eq3]
          generalize (A ++ (pre2.filter fun C => tw s R C).map fun C => (R, C)) = B at hBl ⊢
          have eb2 : bindT (.one 5) (nT C) [.val (shE h w s), .own (B.map (wnd h w)), .val (nD (h + w)), .val (.list ((lots w).map nT)), .val (nT R), cel y] = some [.val (shE h w s), .own (B.map (wnd h w)), .val (nD (h + w)), .val (.list ((lots w).map nT)), .val (nT R), .val (nT C)] := by
            cases y <;> rfl
          refine ⟨[.val (shE h w s), .own ((B ++ if tw s R C then [(R, C)] else []).map (wnd h w)), .val (nD (h + w)), .val (.list ((lots w).map nT)), .val (nT R), .val (nT C)], ?_, ⟨some (nT C), rfl⟩⟩
          simp only [eb2, Option.bind_some]
          have et : evE (cn n) (.call 65 [(.var 0), (.var 4), (.var 5)]) [.val (shE h w s), .own (B.map (wnd h w)), .val (nD (h + w)), .val (.list ((lots w).map nT)), .val (nT R), .val (nT C)] = some (.bool (tw s R C)) := ev_call (ds := [shE h w s, nT R, nT C]) rfl (e65 (n := n - 1) (by omega) r1 c1 (by omega) (by omega))
          cases hc : tw s R C with
          | false =>
            rw [hc] at et
            rw [if_neg (by decide), List.append_nil]
            exact ex_nx (s_iteF et rfl) rfl
          | true =>
            rw [hc] at et
            rw [if_pos rfl]
            refine ex_nx (s_iteT et (ex_nx ?_ rfl)) rfl
            have ew : evE (cn n) (.tup [(.var 4), (.var 5), (.bin .sub (.bin .sub (.var 2) (.f1 .len (.var 4))) (.f1 .len (.var 5)))]) [.val (shE h w s), .own (B.map (wnd h w)), .val (nD (h + w)), .val (.list ((lots w).map nT)), .val (nT R), .val (nT C)] = some (wnd h w (R, C)) := by
              refine ev_tupl (evL_cons rfl rfl (evL_cons rfl rfl (evL_cons rfl (ev_bin (x := .int (((h + w : Nat) : Int) - R.length)) (y := nD C.length) (ev_bin (x := nD (h + w)) (y := nD R.length) rfl (ev_len rfl len_nT) rfl) (ev_len rfl len_nT) (show _ = some (nD ((h - R.length) + (w - C.length))) from ?_)) rfl))) (show 3 ≤ 5000 by decide)
              show some (PyData.int _) = some (PyData.int _)
              congr 2
              omega
            rw [exS, ew]
            show (if small (B.map (wnd h w)).length then _ else none) = _
            rw [small_of (by rw [List.length_map]; exact hBl), if_pos rfl, List.map_append]
            rfl) ⟨y, by simp⟩
      subst hρ2
      refine ⟨_, ?_, ⟨some (nT R), y2, rfl⟩⟩
      simp only [eb, Option.bind_some]
      refine (ex_nx (s_for (d := .list ((lots w).map nT)) rfl rfl e2) rfl).trans ?_
      rw [List.flatMap_append, hA, List.flatMap_singleton]
      rfl) ⟨none, none, rfl⟩
  subst hρ
  exact run_of (by omega) rfl rfl (ex_nx g1 (ex_nx (s_asg g2 rfl) (ex_nx (s_for g3 rfl e) (ex_nx rfl (ex_ret rfl)))))
end
end PV
end
section -- M14
namespace PV
open PySem L2
def cnt (h w : Nat) (z : List Nat × List Nat) : Nat := (h - z.1.length) + (w - z.2.length)
def lst (h w : Nat) (s : Nat → Nat → Option Bool) : Nat := mnN ((wins h w s).map (cnt h w))
def tws (h w : Nat) (s : Nat → Nat → Option Bool) : List (List Nat × List Nat) := (wins h w s).filter fun z => decide (cnt h w z = lst h w s)
def rAll (h : Nat) (l : List (List Nat × List Nat)) : List Nat := (List.range h).filter fun k => l.all fun z => z.1.contains k
def rAny (h : Nat) (l : List (List Nat × List Nat)) : List Nat := (List.range h).filter fun k => l.any fun z => z.1.contains k
def cAll (w : Nat) (l : List (List Nat × List Nat)) : List Nat := (List.range w).filter fun k => l.all fun z => z.2.contains k
def cAny (w : Nat) (l : List (List Nat × List Nat)) : List Nat := (List.range w).filter fun k => l.any fun z => z.2.contains k
theorem wins_ne {h w : Nat} {s : Nat → Nat → Option Bool} (hh : h ≤ 4) (hw : w ≤ 4) : wins h w s ≠ [] := fun z => by
  have h1 : [] ∈ lots h := by
    have := lots_of hh fun _ => false
    rw [List.filter_eq_nil_iff.mpr (fun a _ => by simp)] at this
    exact this
  have h2 : [] ∈ lots w := by
    have := lots_of hw fun _ => false
    rw [List.filter_eq_nil_iff.mpr (fun a _ => by simp)] at this
    exact this
  have h3 : (([], []) : List Nat × List Nat) ∈ wins h w s := List.mem_flatMap.mpr ⟨[], h1, List.mem_map.mpr ⟨[], List.mem_filter.mpr ⟨h2, rfl⟩, rfl⟩⟩
  rw [z] at h3
  cases h3
section
variable {n h w : Nat} {s : Nat → Nat → Option Bool}
/-- the four sets, from the tight windows l -/
theorem ev_set {c : Bool → Nat → List D → Option D} {k i : Nat} {ρ : Rho} {q : E} {f : Nat → Bool} (hk : k ≤ 5000) (hl : getB ρ i = some (.list ((List.range k).map nD))) (hi : isOwn (wipeC ρ [8]) 8 = false) (hlen : 8 < (wipeC ρ [8]).length)
    (hq : ∀ x, x < k → evE c q ((wipeC ρ [8]).set 8 (.val (nD x))) = some (.bool (f x))) : evE c (.f1 .tuple (.lc (.var 8) (.one 8) (.var i) (some q) [("_law_k", 8)])) ρ = some (nT ((List.range k).filter f)) := by
  refine ev_tup (ev_lc1 (List.range k) nD nD f (fun x => (wipeC ρ [8]).set 8 (.val (nD x))) ?_ (fun x _ => ?_) (fun x hx => hq x (List.mem_range.mp hx)) (fun x _ _ => ?_) (by rw [List.length_range]; exact hk))
  · simp only [bor, hl, Option.bind_some, itemsOf]
  · show setV (wipeC ρ [8]) 8 (nD x) = _
    unfold setV
    rw [hi, Nat.blt_eq.mpr hlen]
    rfl
  · show getV ((wipeC ρ [8]).set 8 (.val (nD x))) 8 = _
    unfold getV
    rw [List.getElem?_set_self hlen]
theorem e67 (hn : 4 ≤ n) (h0 : 0 < h) (hh : h ≤ 4) (hw : w ≤ 4) : runF tab n 67 [shE h w s, .list ((wins h w s).map (wnd h w))] = some (.tuple [.tuple [nT (rAll h (tws h w s)), nT (cAny w (tws h w s))], .tuple [nT (rAny h (tws h w s)), nT (cAll w (tws h w s))]]) := by
  have hwl := wins_len (s := s) hh hw
  have htl : (tws h w s).length ≤ 5000 := Nat.le_trans (List.length_filter_le _ _) (by omega)
  generalize hW : (.list ((wins h w s).map (wnd h w)) : D) = W
  have g1 : evE (cn n) (.f1 .min (.lc (.ix (.var 3) (.cI 2)) (.one 3) (.var 1) none [("_law_own", 3)])) [.val (shE h w s), .val W, .un, .un, .un, .un, .un, .un, .un, .un] = some (nD (lst h w s)) := by
    refine ev_min (l := (wins h w s).map (cnt h w)) ?_ (fun z => wins_ne hh hw (List.map_eq_nil_iff.mp z))
    rw [List.map_map]
    exact ev_lc0 (wins h w s) (wnd h w) (fun z => nD (cnt h w z)) (fun z => [.val (shE h w s), .val W, .un, .val (wnd h w z), .un, .un, .un, .un, .un, .un]) (by rw [← hW]; rfl) (fun _ _ => rfl) (fun _ _ => rfl) (by omega)
  have g2 : evE (cn n) (.lc (.var 3) (.one 3) (.var 1) (some (.cmp .eq (.ix (.var 3) (.cI 2)) (.var 2))) [("_law_own", 3)]) [.val (shE h w s), .val W, .val (nD (lst h w s)), .un, .un, .un, .un, .un, .un, .un] = some (.list ((tws h w s).map (wnd h w))) :=
    ev_lc1 (wins h w s) (wnd h w) (wnd h w) (fun z => decide (cnt h w z = lst h w s)) (fun z => [.val (shE h w s), .val W, .val (nD (lst h w s)), .val (wnd h w z), .un, .un, .un, .un, .un, .un]) (by rw [← hW]; rfl) (fun _ _ => rfl) (fun z _ => ev_cmp (x := nD (cnt h w z)) rfl rfl (eq_nD _ _)) (fun _ _ _ => rfl) (by omega)
  have g3 : exS (cn n) (.par2 5 6 (.f1 .lrng (.f1 .len (.var 0))) (.f1 .lrng (.f1 .len (.ix (.var 0) (.cI 0))))) [.val (shE h w s), .val W, .val (nD (lst h w s)), .un, .val (.list ((tws h w s).map (wnd h w))), .un, .un, .un, .un, .un] = some (.nx [.val (shE h w s), .val W, .val (nD (lst h w s)), .un, .val (.list ((tws h w s).map (wnd h w))), .val (.list ((List.range h).map nD)), .val (.list ((List.range w).map nD)), .un, .un, .un]) := by
    have t1 : evE (cn n) (.f1 .lrng (.f1 .len (.var 0))) [.val (shE h w s), .val W, .val (nD (lst h w s)), .un, .val (.list ((tws h w s).map (wnd h w))), .un, .un, .un, .un, .un] = some (.list ((List.range h).map nD)) := ev_lrng (ev_len rfl len_sh) (by omega)
    have t2 : evE (cn n) (.f1 .lrng (.f1 .len (.ix (.var 0) (.cI 0)))) [.val (shE h w s), .val W, .val (nD (lst h w s)), .un, .val (.list ((tws h w s).map (wnd h w))), .un, .un, .un, .un, .un] = some (.list ((List.range w).map nD)) := ev_lrng (ev_len (ev_ix rfl rfl (ix_sh h0)) len_row) (by omega)
    rw [exS, t1, Option.bind_some, t2]
    rfl
  generalize hT : tws h w s = T at htl g2 g3 ⊢
  have qa : ∀ (x : Nat) (i : Nat) (f : List Nat × List Nat → List Nat) (c7 c9 : Cel), (∀ z, ixF (wnd h w z) (.int i) = some (nT (f z))) → evE (cn n) (.lc (.cmp .in_ (.var 8) (.ix (.var 3) (.cI i))) (.one 3) (.var 4) none [("_law_own", 3)]) [.val (shE h w s), .val W, .val (nD (lst h w s)), .un, .val (.list (T.map (wnd h w))), .val (.list ((List.range h).map nD)), .val (.list ((List.range w).map nD)), c7, .val (nD x), c9] = some (.list (T.map fun z => .bool ((f z).contains x))) := fun x i f c7 c9 hf =>
    ev_lc0 T (wnd h w) (fun z => .bool ((f z).contains x)) (fun z => [.val (shE h w s), .val W, .val (nD (lst h w s)), .val (wnd h w z), .val (.list (T.map (wnd h w))), .val (.list ((List.range h).map nD)), .val (.list ((List.range w).map nD)), c7, .val (nD x), c9]) rfl (fun _ _ => rfl) (fun z _ => ev_cmp rfl (ev_ix rfl rfl (hf z)) (in_nT x (f z))) htl
  refine run_of hn rfl rfl (ex_nx (s_asg g1 rfl) (ex_nx (s_asg g2 rfl) (ex_nx g3 (ex_nx (s_asg (d := .tuple [nT (rAll h T), nT (cAny w T)]) (ev_tupl (evL_cons rfl ?_ (evL_cons rfl ?_ rfl)) (show 2 ≤ 5000 by decide)) rfl) (ex_nx (s_asg (d := .tuple [nT (rAny h T), nT (cAll w T)]) (ev_tupl (evL_cons rfl ?_ (evL_cons rfl ?_ rfl)) (show 2 ≤ 5000 by decide)) rfl) (ex_ret rfl))))))
  · exact ev_set (by omega) rfl rfl (show 8 < 10 by decide) fun x _ => ev_all (p := fun z : List Nat × List Nat => z.1.contains x) (qa x 0 (·.1) _ _ fun _ => rfl)
  · exact ev_set (by omega) rfl rfl (show 8 < 10 by decide) fun x _ => ev_any (p := fun z : List Nat × List Nat => z.2.contains x) (qa x 1 (·.2) _ _ fun _ => rfl)
  · exact ev_set (by omega) rfl rfl (show 8 < 10 by decide) fun x _ => ev_any (p := fun z : List Nat × List Nat => z.1.contains x) (qa x 0 (·.1) _ _ fun _ => rfl)
  · exact ev_set (by omega) rfl rfl (show 8 < 10 by decide) fun x _ => ev_all (p := fun z : List Nat × List Nat => z.2.contains x) (qa x 1 (·.2) _ _ fun _ => rfl)
end
end PV
end
section -- M15
namespace PV
open PySem L2
section
variable {n h w : Nat} {s : Nat → Nat → Option Bool}
def hol (w : Nat) (s : Nat → Nat → Option Bool) (l : List Nat) : List (Nat × Nat) := l.flatMap fun i => ((List.range w).filter fun j => (s i j).isNone).map fun j => (i, j)
theorem e63 (hn : 4 ≤ n) (hh : h ≤ 4) (hw : w ≤ 4) : runF tab n 63 [shE h w s] = some (.list ((holes h w s).map pD)) := by
  have g2 : evE (cn n) (.enum false (.var 0)) [.val (shE h w s), .val (.list []), .un, .un, .un, .un] = some (.list ((List.range h).map fun i => PyData.tuple [nD i, rowE w (s i)])) := by
    rw [evE]
    show some (PyData.list (numbered 0 ((List.range h).map fun i => rowE w (s i)))) = _
    rw [numbered_range]
  obtain ⟨ρ', e, x, y, hρ⟩ := loop_inv (f := fun d ρ => (bindT (.tup [(.one 2), (.one 3)]) d ρ).bind fun ρ' => exL (cn n) [.asg (.one 1) (.bin .add (.var 1) (.lc (.tup [(.var 2), (.var 4)]) (.tup [(.one 4), (.one 5)]) (.enum false (.var 3)) (some (.isN false (.var 5))) [("_law_k", 4), ("_law_bit", 5)]))] ρ') (fun i => PyData.tuple [nD i, rowE w (s i)])
    (fun pre ρ => ∃ x y : Option D, ρ = [.val (shE h w s), .val (.list ((hol w s pre).map pD)), cel x, cel y, .un, .un]) (List.range h) [] [.val (shE h w s), .val (.list []), .un, .un, .un, .un] (fun pre i post ρ eq ⟨x, y, hρ⟩ => by
      subst hρ
      have hlen : (hol w s (pre ++ [i])).length ≤ 5000 := by
        have h1 := holes_len (h := h) (w := w) (s := s)
        have hml : h * w ≤ 4 * 4 := Nat.mul_le_mul hh hw
        have h2 : holes h w s = hol w s (pre ++ i :: post) := by rw [← show List.range h = pre ++ i :: post from eq]; rfl
        rw [h2] at h1
        unfold hol at h1 ⊢
        rw [List.flatMap_append, List.length_append, List.flatMap_cons, List.length_append] at h1
        rw [List.flatMap_append, List.length_append, List.flatMap_singleton]
        omega
      have eb : bindT (.tup [(.one 2), (.one 3)]) (PyData.tuple [nD i, rowE w (s i)]) [.val (shE h w s), .val (.list ((hol w s pre).map pD)), cel x, cel y, .un, .un] = some [.val (shE h w s), .val (.list ((hol w s pre).map pD)), .val (nD i), .val (rowE w (s i)), .un, .un] := by
        cases x <;> cases y <;> rfl
      refine ⟨[.val (shE h w s), .val (.list ((hol w s (pre ++ [i])).map pD)), .val (nD i), .val (rowE w (s i)), .un, .un], ?_, ⟨some (nD i), some (rowE w (s i)), rfl⟩⟩
      simp only [eb, Option.bind_some]
      have el : evE (cn n) (.lc (.tup [(.var 2), (.var 4)]) (.tup [(.one 4), (.one 5)]) (.enum false (.var 3)) (some (.isN false (.var 5))) [("_law_k", 4), ("_law_bit", 5)]) [.val (shE h w s), .val (.list ((hol w s pre).map pD)), .val (nD i), .val (rowE w (s i)), .un, .un] = some (.list (((List.range w).filter fun j => (s i j).isNone).map fun j => pD (i, j))) := by
        refine ev_lc1 (List.range w) (fun j => PyData.tuple [nD j, cE (s i j)]) (fun j => pD (i, j)) (fun j => (s i j).isNone) (fun j => [.val (shE h w s), .val (.list ((hol w s pre).map pD)), .val (nD i), .val (rowE w (s i)), .val (nD j), .val (cE (s i j))]) ?_ (fun _ _ => rfl) (fun j _ => ?_) (fun _ _ _ => rfl) (by rw [List.length_range]; omega)
        · simp only [bor]
          rw [evE]
          show some (numbered 0 ((List.range w).map fun j => cE (s i j))) = _
          rw [numbered_range]
        · refine (ev_isN (d := cE (s i j)) rfl).trans ?_
          rw [isN_c]
          cases s i j <;> rfl
      refine ex_nx (s_asg (ev_bin rfl el ?_) rfl) rfl
      show okL _ = some (PyData.list _)
      have e3 : (hol w s (pre ++ [i])).map pD = (hol w s pre).map pD ++ ((List.range w).filter fun j => (s i j).isNone).map fun j => pD (i, j) := by
        unfold hol
        rw [List.flatMap_append, List.map_append, List.flatMap_singleton, List.map_map]
        rfl
      rw [← e3, okL_of (by rw [List.length_map]; exact hlen)]) ⟨none, none, rfl⟩
  subst hρ
  exact run_of hn rfl rfl (ex_nx (s_asg (d := .list []) rfl rfl) (ex_nx (s_for g2 rfl e) (ex_ret rfl)))
theorem e71 {r : Nat} (hn : 4 ≤ n) (hr : r < h) (hh : h ≤ 4) : runF tab n 71 [shE h w s, nD r] = some (shE (h - 1) w (delR s r)) := by
  have := list_del (f := fun i => rowE w (s i)) hr
  refine run_of hn rfl rfl (ex_ret (ev_bin (ev_slT rfl rfl) (ev_slD rfl (ev_inc rfl)) ?_))
  show okT _ = _
  rw [this, okT_of (by rw [List.length_map, List.length_range]; omega)]
  unfold shE delR
  congr 2
  refine List.map_congr_left fun i _ => ?_
  by_cases e : i < r
  · rw [if_pos e, if_pos e]
  · rw [if_neg e, if_neg e]
end
end PV
end
section -- M16
namespace PV
open PySem L2
section
variable {n h w : Nat} {s : Nat → Nat → Option Bool}
theorem e24 {R : List Nat} {m : Nat} (hn : 4 ≤ n) (hR : ∀ k ∈ R, k < m) : runF tab n 24 [nT R, nD m] = some .none := by
  obtain ⟨ρ', e, x, hρ⟩ := loop_inv (f := fun d ρ => (bindT (.one 2) d ρ).bind fun ρ' => exL (cn n) [.ite (.not (.chain (.cI 0) (.var 2) (.var 1))) [.never] []] ρ') nD
    (fun pre ρ => ∃ x : Option D, ρ = [.val (nT R), .val (nD m), cel x]) R [] [.val (nT R), .val (nD m), .un] (fun pre k post ρ eq ⟨x, hρ⟩ => by
      subst hρ
      have hk : k < m := hR k (by rw [show R = pre ++ k :: post from eq]; exact List.mem_append_right _ List.mem_cons_self)
      have eb : bindT (.one 2) (nD k) [.val (nT R), .val (nD m), cel x] = some [.val (nT R), .val (nD m), .val (nD k)] := by
        cases x <;> rfl
      refine ⟨[.val (nT R), .val (nD m), .val (nD k)], ?_, ⟨some (nD k), rfl⟩⟩
      simp only [eb, Option.bind_some]
      have ec : evE (cn n) (.chain (.cI 0) (.var 2) (.var 1)) [.val (nT R), .val (nD m), .val (nD k)] = some (.bool true) := by
        show (if (0 : Int) ≤ (k : Int) then some (PyData.bool (decide ((k : Int) < (m : Int)))) else some (.bool false)) = _
        rw [if_pos (by omega), decide_eq_true (by omega)]
      exact ex_nx (s_iteF (ev_not ec) rfl) rfl) ⟨none, rfl⟩
  subst hρ
  exact run_nx hn rfl rfl (ex_nx (s_for (d := nT R) rfl rfl e) rfl)
theorem e32 {R C : List Nat} (hn : 16 ≤ n) (pm : Pm h w s) (h0 : 0 < h) (hh : h ≤ 4) (hw : w ≤ 4) (hR : ∀ i ∈ R, i < h) (hC : ∀ j ∈ C, j < w) (nr : R.Nodup) (nc : C.Nodup) (lr : R.length ≤ h) (lc : C.length ≤ w) (ht : ∀ i ∈ R, ∀ j ∈ C, (s i j).isSome = true) :
    runF tab n 32 [shE h w s, nT R, nT C] = some (nD (wb h w s R C)) := by
  have g1 : evE (cn n) (.call 4 [(.var 0)]) [.val (shE h w s), .val (nT R), .val (nT C), .un, .un] = some (shE h w s) := ev_call (ds := [shE h w s]) rfl (e4_cr (n := n - 1) (rows := List.range h) (cols := List.range w) (by omega) (by rw [List.length_range]; omega) (by rw [List.length_range]; omega))
  have x1 : evE (cn n) (.call 24 [(.var 1), (.f1 .len (.var 3))]) [.val (shE h w s), .val (nT R), .val (nT C), .val (shE h w s), .un] = some .none := ev_call (ds := [nT R, nD h]) (evL_cons rfl rfl (evL_cons rfl (ev_len rfl len_sh) rfl)) (e24 (n := n - 1) (by omega) hR)
  have x2 : evE (cn n) (.call 24 [(.var 2), (.f1 .len (.ix (.var 3) (.cI 0)))]) [.val (shE h w s), .val (nT R), .val (nT C), .val (shE h w s), .un] = some .none := ev_call (ds := [nT C, nD w]) (evL_cons rfl rfl (evL_cons rfl (ev_len (ev_ix rfl rfl (ix_sh h0)) len_row) rfl)) (e24 (n := n - 1) (by omega) hC)
  have x3 : evE (cn n) (.f1 .any (.lc (.cmp .in_ .cN (.var 4)) (.one 4) (.call 29 [(.var 3), (.var 1), (.var 2)]) none [("line", 4)])) [.val (shE h w s), .val (nT R), .val (nT C), .val (shE h w s), .un] = some (.bool false) := by
    have hf : (R.any fun i => !C.all fun j => (s i j).isSome) = false := List.any_eq_false.mpr fun i hi => by
      rw [List.all_eq_true.mpr fun j hj => ht i hi j hj]
      decide
    rw [← hf]
    refine ev_any (p := fun i => !C.all fun j => (s i j).isSome) ?_
    refine ev_lc0 R (fun i => .tuple (C.map fun j => cE (s i j))) (fun i => .bool (!C.all fun j => (s i j).isSome)) (fun i => [.val (shE h w s), .val (nT R), .val (nT C), .val (shE h w s), .val (.tuple (C.map fun j => cE (s i j)))]) ?_ (fun _ _ => rfl) (fun i hi => ev_cmp rfl rfl (none_in s i C)) (by omega)
    have := ev_call (c := cn n) (ρ := [.val (shE h w s), .val (nT R), .val (nT C), .val (shE h w s), .un]) (f := 29) (es := [.var 3, .var 1, .var 2]) (ds := [shE h w s, nT R, nT C]) rfl (e29 (n := n - 1) (by omega) hR hC (by omega) (by omega))
    simp only [bor]
    rw [this]
    rfl
  have s1 : ∀ {e : E} {ρ : Rho} {d : D}, evE (cn n) e ρ = some d → exS (cn n) (.ex e) ρ = some (.nx ρ) := fun h => by simp only [exS, h, Option.bind_some]
  exact run_of (by omega) rfl rfl (ex_nx (s_asg g1 rfl) (ex_nx (s1 x1) (ex_nx (s1 x2) (ex_nx (s_iteF x3 rfl) (ex_ret (ev_call (ds := [shE h w s, nT R, nT C]) rfl (e31 (n := n - 1) (by omega) pm h0 hh hw hR hC nr nc lr lc ht)))))))
end
end PV
end
section -- M17
namespace PV
open PySem L2
def isB (d : Option D) : Bool := match d with
  | some (.bool b) => b
  | _ => false
theorem isB_eq {d : Option D} (h : isB d = true) : d = some (.bool true) := by
  unfold isB at h
  split at h
  · rw [h]
  · cases h
theorem e55_0 (n : Nat) : ([true, false].all fun b => isB (runF tab (n + 10) 55 [oc b])) = true := by kernel_rfl
theorem e55 {n : Nat} {b : Bool} (hn : 10 ≤ n) : runF tab n 55 [oc b] = some (.bool true) := by
  obtain ⟨m, rfl⟩ : ∃ m, n = m + 10 := ⟨n - 10, by omega⟩
  exact isB_eq (List.all_eq_true.mp (e55_0 m) b (by cases b <;> decide))
theorem e3_0 (n : Nat) : ([true, false].all fun b => isB (runF tab (n + 10) 3 [oc b])) = true := by kernel_rfl
theorem e3 {n : Nat} {b : Bool} (hn : 10 ≤ n) : runF tab n 3 [oc b] = some (.bool true) := by
  obtain ⟨m, rfl⟩ : ∃ m, n = m + 10 := ⟨n - 10, by omega⟩
  exact isB_eq (List.all_eq_true.mp (e3_0 m) b (by cases b <;> decide))
theorem pairs_self : ∀ l : List D, pairs l l = l.map fun x => .tuple [x, x]
  | [] => rfl
  | x :: l => by rw [pairs, pairs_self l]; rfl
section
variable {n : Nat}
theorem same_t {l : List D} (hn : 4 ≤ n) (hl : l.length ≤ 5000) (H : ∀ x ∈ l, runF tab (n - 1) 50 [x, x] = some (.bool true)) : runF tab n 50 [.tuple l, .tuple l] = some (.bool true) := by
  have e : evE (cn n) (.f1 .all (.lc (.call 50 [(.var 2), (.var 3)]) (.tup [(.one 2), (.one 3)]) (.zip (.var 0) (.var 1)) none [("_law_mine", 2), ("_law_its", 3)])) [.val (.tuple l), .val (.tuple l), .un, .un] = some (.bool true) := by
    have := ev_all (c := cn n) (ρ := [.val (.tuple l), .val (.tuple l), .un, .un]) (e := .lc (.call 50 [(.var 2), (.var 3)]) (.tup [(.one 2), (.one 3)]) (.zip (.var 0) (.var 1)) none [("_law_mine", 2), ("_law_its", 3)]) (l := l) (p := fun _ => true) (ev_lc0 l (fun x => .tuple [x, x]) (fun _ => .bool true) (fun x => [.val (.tuple l), .val (.tuple l), .val x, .val x]) (by show some (pairs l l) = _; rw [pairs_self]) (fun _ _ => rfl) (fun x hx => ev_call (ds := [x, x]) rfl (H x hx)) hl)
    rw [this, List.all_eq_true.mpr fun _ _ => rfl]
  refine run_of hn rfl rfl (ex_rt (s_iteT (by rfl) (ex_nx (s_iteF (by rfl) rfl) (ex_ret (ev_and (x := true) (y := true) (ev_cmp (x := nD l.length) (y := nD l.length) (ev_len rfl rfl) (ev_len rfl rfl) ?_) fun _ => e)))))
  rw [eq_nD, decide_eq_true rfl]
theorem same_l {l : List D} (hn : 4 ≤ n) (hl : l.length ≤ 5000) (H : ∀ x ∈ l, runF tab (n - 1) 50 [x, x] = some (.bool true)) : runF tab n 50 [.list l, .list l] = some (.bool true) := by
  have e : evE (cn n) (.f1 .all (.lc (.call 50 [(.var 2), (.var 3)]) (.tup [(.one 2), (.one 3)]) (.zip (.var 0) (.var 1)) none [("_law_mine", 2), ("_law_its", 3)])) [.val (.list l), .val (.list l), .un, .un] = some (.bool true) := by
    have := ev_all (c := cn n) (ρ := [.val (.list l), .val (.list l), .un, .un]) (e := .lc (.call 50 [(.var 2), (.var 3)]) (.tup [(.one 2), (.one 3)]) (.zip (.var 0) (.var 1)) none [("_law_mine", 2), ("_law_its", 3)]) (l := l) (p := fun _ => true) (ev_lc0 l (fun x => .tuple [x, x]) (fun _ => .bool true) (fun x => [.val (.list l), .val (.list l), .val x, .val x]) (by show some (pairs l l) = _; rw [pairs_self]) (fun _ _ => rfl) (fun x hx => ev_call (ds := [x, x]) rfl (H x hx)) hl)
    rw [this, List.all_eq_true.mpr fun _ _ => rfl]
  refine run_of hn rfl rfl (ex_rt (s_iteT (by rfl) (ex_nx (s_iteF (by rfl) rfl) (ex_ret (ev_and (x := true) (y := true) (ev_cmp (x := nD l.length) (y := nD l.length) (ev_len rfl rfl) (ev_len rfl rfl) ?_) fun _ => e)))))
  rw [eq_nD, decide_eq_true rfl]
theorem same_n {k : Nat} (hn : 4 ≤ n) : runF tab n 50 [nD k, nD k] = some (.bool true) := by
  have e : evE (cn n) (.cmp .eq (.var 0) (.var 1)) [.val (nD k), .val (nD k), .un, .un] = some (.bool true) := (ev_cmp rfl rfl (eq_nD k k)).trans (by rw [decide_eq_true rfl])
  exact run_of hn rfl rfl (ex_nx (s_iteF (by rfl) rfl) (ex_nx (s_iteF (by rfl) rfl) (ex_ret (ev_and (x := true) (y := true) rfl fun _ => ev_and (x := true) (y := true) rfl fun _ => e))))
theorem same_b {b : Bool} (hn : 4 ≤ n) : runF tab n 50 [.bool b, .bool b] = some (.bool true) := by
  obtain ⟨m, rfl⟩ : ∃ m, n = m + 4 := ⟨n - 4, by omega⟩
  cases b <;> rfl
end
end PV
end
section -- M18
namespace PV
open PySem L2
/-- the law's most pairs -/
def mp (h w : Nat) (s : Nat → Nat → Option Bool) : Nat := mpF w s h 0 []
/-- rows without which there are fewer pairs -/
def rnl (h w : Nat) (s : Nat → Nat → Option Bool) (g : Nat) : List Nat := (List.range h).filter fun r => decide (mp (h - 1) w (delR s r) < g)
def pll (h w : Nat) (s : Nat → Nat → Option Bool) (g : Nat) : List (Nat × Nat) := (holes h w s).filter fun z => decide (mp h w (put s z.1 z.2 (some false)) < g)
section
variable {n h w : Nat} {s : Nat → Nat → Option Bool}
theorem e72' (hn : 10 ≤ n) (hh : h ≤ 4) (hw : w ≤ 4) : runF tab n 72 [shE h w s, nD 0, nT []] = some (nD (mp h w s)) := e72 (h := h) hw hh h 0 [] n (by omega) (by omega) (by show 0 ≤ _; omega)
theorem ev_rn {ρ : Rho} {t : Nat → Nat → Option Bool} {a b g : Nat} {x : Cel} (hn : 12 ≤ n) (ha : a ≤ 4) (hb : b ≤ 4) (d0 d1 d2 : D) (l : List D) (hρ : ρ = [.val d0, .val (nD g), .val d2, .own l, .val (shE a b t), .un, .un, .un, .un]) :
    evE (cn n) (.f1 .tuple (.lc (.var 5) (.one 5) (.rng1 (.f1 .len (.var 4))) (some (.cmp .lt (.call 72 [(.call 71 [(.var 4), (.var 5)]), (.cI 0), (.tup [])]) (.var 1))) [("_law_j", 5)])) ρ = some (nT (rnl a b t g)) := by
  subst hρ
  refine ev_tup (ev_lc1 (List.range a) nD nD (fun r => decide (mp (a - 1) b (delR t r) < g)) (fun r => [.val d0, .val (nD g), .val d2, .own l, .val (shE a b t), .val (nD r), .un, .un, .un]) (it_rng (ev_len rfl len_sh) (by omega)) (fun _ _ => rfl) (fun r hr => ?_) (fun _ _ _ => rfl) (by rw [List.length_range]; omega))
  exact ev_cmp (ev_call (ds := [shE (a - 1) b (delR t r), nD 0, nT []]) (evL_cons rfl (ev_call (ds := [shE a b t, nD r]) rfl (e71 (n := n - 1) (by omega) (List.mem_range.mp hr) ha)) rfl) (e72' (n := n - 1) (by omega) (by omega) hb)) rfl (lt_nD _ _)
end
end PV
end
section -- M19
namespace PV
open PySem L2
section
variable {n h w : Nat} {s : Nat → Nat → Option Bool}
/-- with_part by + -/
theorem put_line {c : Bool → Nat → List D → Option D} {ρ : Rho} {a b x : E} {f : Nat → D} {m k : Nat} {d : D} (ha : evE c a ρ = some (.tuple ((List.range m).map f))) (hb : evE c b ρ = some (nD k)) (hx : evE c (.tup [x]) ρ = some (.tuple [d])) (hk : k < m) (hm : m ≤ 4) :
    evE c (.bin .add (.bin .add (.sl a none (some b)) (.tup [x])) (.sl a (some (.bin .add b (.cI 1))) none)) ρ = some (.tuple ((List.range m).map fun j => if j = k then d else f j)) := by
  have := list_upd (f := f) (x := d) hk
  have hl : (((List.range m).map f).take k ++ [d]).length ≤ 5000 := by
    rw [List.length_append, List.length_take, List.length_map, List.length_range]
    show min k m + 1 ≤ 5000
    omega
  refine ev_bin (x := .tuple (((List.range m).map f).take k ++ [d])) (ev_bin (ev_slT ha hb) hx ?_) (ev_slD ha (ev_inc hb)) ?_
  · exact okT_of hl
  · show okT _ = _
    rw [List.append_assoc]
    show okT (((List.range m).map f).take k ++ d :: ((List.range m).map f).drop (k + 1)) = _
    rw [this, okT_of (by rw [List.length_map, List.length_range]; omega)]
theorem e74 (hn : 13 ≤ n) (h0 : 0 < h) (hh : h ≤ 4) (w0 : 0 < w) (hw : w ≤ 4) : runF tab n 74 [shE h w s] = some (.tuple [nT (rnl h w s (mp h w s)), nT (rnl w h (tr s) (mp h w s)), .tuple ((pll h w s (mp h w s)).map pD)]) := by
  have g1 : exS (cn n) (.par2 1 2 (.call 72 [(.var 0), (.cI 0), (.tup [])]) (.call 57 [(.var 0), (.f1 .len (.ix (.var 0) (.cI 0)))])) [.val (shE h w s), .un, .un, .un, .un, .un, .un, .un, .un] = some (.nx [.val (shE h w s), .val (nD (mp h w s)), .val (shE w h (tr s)), .un, .un, .un, .un, .un, .un]) := by
    have t1 : evE (cn n) (.call 72 [(.var 0), (.cI 0), (.tup [])]) [.val (shE h w s), .un, .un, .un, .un, .un, .un, .un, .un] = some (nD (mp h w s)) := ev_call (ds := [shE h w s, nD 0, nT []]) rfl (e72' (n := n - 1) (by omega) hh hw)
    have t2 : evE (cn n) (.call 57 [(.var 0), (.f1 .len (.ix (.var 0) (.cI 0)))]) [.val (shE h w s), .un, .un, .un, .un, .un, .un, .un, .un] = some (shE w h (tr s)) := ev_call (ds := [shE h w s, nD w]) (evL_cons rfl rfl (evL_cons rfl (ev_len (ev_ix rfl rfl (ix_sh h0)) len_row) rfl)) (e57 (n := n - 1) (by omega) (by omega) (by omega))
    rw [exS, t1, Option.bind_some, t2]
    rfl
  generalize hg : mp h w s = g at g1 ⊢
  -- the first loop: two rounds
  have g2 : exS (cn n) (.for_ (.one 4) (.tup [(.var 0), (.var 2)]) [.app 3 (.f1 .tuple (.lc (.var 5) (.one 5) (.rng1 (.f1 .len (.var 4))) (some (.cmp .lt (.call 72 [(.call 71 [(.var 4), (.var 5)]), (.cI 0), (.tup [])]) (.var 1))) [("_law_j", 5)]))]) [.val (shE h w s), .val (nD g), .val (shE w h (tr s)), .own [], .un, .un, .un, .un, .un] = some (.nx [.val (shE h w s), .val (nD g), .val (shE w h (tr s)), .own [nT (rnl h w s g), nT (rnl w h (tr s) g)], .val (shE w h (tr s)), .un, .un, .un, .un]) := by
    refine s_for (d := .tuple [shE h w s, shE w h (tr s)]) rfl rfl ?_
    have r1 := ev_rn (n := n) (x := .un) (t := s) (g := g) (by omega) hh hw (shE h w s) .none (shE w h (tr s)) [] rfl
    have r2 := ev_rn (n := n) (x := .un) (t := tr s) (g := g) (by omega) hw hh (shE h w s) .none (shE w h (tr s)) [nT (rnl h w s g)] rfl
    rw [loopO]
    show (Option.bind (exL (cn n) _ [.val (shE h w s), .val (nD g), .val (shE w h (tr s)), .own [], .val (shE h w s), .un, .un, .un, .un]) _) = _
    rw [exL, exS, r1]
    show (Option.bind (exL (cn n) _ [.val (shE h w s), .val (nD g), .val (shE w h (tr s)), .own [nT (rnl h w s g)], .val (shE w h (tr s)), .un, .un, .un, .un]) _) = _
    rw [exL, exS, r2]
    rfl
  generalize hN : ([nT (rnl h w s g), nT (rnl w h (tr s) g)] : List D) = N at g2
  have g3 : evE (cn n) (.call 63 [(.var 0)]) [.val (shE h w s), .val (nD g), .val (shE w h (tr s)), .own N, .val (shE w h (tr s)), .un, .own [], .un, .un] = some (.list ((holes h w s).map pD)) := ev_call (ds := [shE h w s]) rfl (e63 (n := n - 1) (by omega) hh hw)
  obtain ⟨ρ', e, x, y, z, hρ⟩ := loop_inv (f := fun d ρ => (bindT (.tup [(.one 5), (.one 7)]) d ρ).bind fun ρ' => exL (cn n) [.asg (.one 8) (.bin .add (.bin .add (.sl (.ix (.var 0) (.var 5)) none (some (.var 7))) (.tup [(.tup [(.cI 0), (.cI 1)])])) (.sl (.ix (.var 0) (.var 5)) (some (.bin .add (.var 7) (.cI 1))) none)), .ite (.cmp .lt (.call 72 [(.bin .add (.bin .add (.sl (.var 0) none (some (.var 5))) (.tup [(.var 8)])) (.sl (.var 0) (some (.bin .add (.var 5) (.cI 1))) none)), (.cI 0), (.tup [])]) (.var 1)) [.app 6 (.tup [(.var 5), (.var 7)])] []] ρ') pD
    (fun pre ρ => ∃ x y z : Option D, ρ = [.val (shE h w s), .val (nD g), .val (shE w h (tr s)), .own N, .val (shE w h (tr s)), cel x, .own ((pre.filter fun z => decide (mp h w (put s z.1 z.2 (some false)) < g)).map pD), cel y, cel z]) (holes h w s) [] [.val (shE h w s), .val (nD g), .val (shE w h (tr s)), .own N, .val (shE w h (tr s)), .un, .own [], .un, .un] (fun pre q post ρ eq ⟨x, y, z, hρ⟩ => by
      subst hρ
      have hq : q ∈ holes h w s := by rw [show holes h w s = pre ++ q :: post from eq]; exact List.mem_append_right _ List.mem_cons_self
      obtain ⟨q1, q2, _⟩ := holes_mem.mp hq
      have hBl : ((pre.filter fun z => decide (mp h w (put s z.1 z.2 (some false)) < g))).length ≤ 5000 := by
        have h1 := List.length_filter_le (fun z : Nat × Nat => decide (mp h w (put s z.1 z.2 (some false)) < g)) pre
        have h2 := holes_len (h := h) (w := w) (s := s)
        have h3 : h * w ≤ 4 * 4 := Nat.mul_le_mul hh hw
        rw [show holes h w s = pre ++ q :: post from eq, List.length_append] at h2
        omega
      rw [List.filter_append]
      generalize (pre.filter fun z => decide (mp h w (put s z.1 z.2 (some false)) < g)) = B at hBl ⊢
      have eb : bindT (.tup [(.one 5), (.one 7)]) (pD q) [.val (shE h w s), .val (nD g), .val (shE w h (tr s)), .own N, .val (shE w h (tr s)), cel x, .own (B.map pD), cel y, cel z] = some [.val (shE h w s), .val (nD g), .val (shE w h (tr s)), .own N, .val (shE w h (tr s)), .val (nD q.1), .own (B.map pD), .val (nD q.2), cel z] := by
        cases x <;> cases y <;> rfl
      have a1 : evE (cn n) (.bin .add (.bin .add (.sl (.ix (.var 0) (.var 5)) none (some (.var 7))) (.tup [(.tup [(.cI 0), (.cI 1)])])) (.sl (.ix (.var 0) (.var 5)) (some (.bin .add (.var 7) (.cI 1))) none)) [.val (shE h w s), .val (nD g), .val (shE w h (tr s)), .own N, .val (shE w h (tr s)), .val (nD q.1), .own (B.map pD), .val (nD q.2), cel z] = some (rowE w fun j => if j = q.2 then some false else s q.1 j) := by
        refine (put_line (f := fun j => cE (s q.1 j)) (d := cE (some false)) (ev_ix rfl rfl (ix_sh q1)) rfl rfl q2 hw).trans ?_
        unfold rowE
        congr 2
        refine List.map_congr_left fun j _ => ?_
        show _ = cE (if j = q.2 then some false else s q.1 j)
        by_cases e : j = q.2
        · rw [if_pos e, if_pos e]
        · rw [if_neg e, if_neg e]
      have a2 : evE (cn n) (.cmp .lt (.call 72 [(.bin .add (.bin .add (.sl (.var 0) none (some (.var 5))) (.tup [(.var 8)])) (.sl (.var 0) (some (.bin .add (.var 5) (.cI 1))) none)), (.cI 0), (.tup [])]) (.var 1)) [.val (shE h w s), .val (nD g), .val (shE w h (tr s)), .own N, .val (shE w h (tr s)), .val (nD q.1), .own (B.map pD), .val (nD q.2), .val (rowE w fun j => if j = q.2 then some false else s q.1 j)] = some (.bool (decide (mp h w (put s q.1 q.2 (some false)) < g))) := by
        refine ev_cmp (ev_call (ds := [shE h w (put s q.1 q.2 (some false)), nD 0, nT []]) (evL_cons rfl ((put_line (f := fun i => rowE w (s i)) (d := rowE w fun j => if j = q.2 then some false else s q.1 j) rfl rfl rfl q1 hh).trans ?_) rfl) (e72' (n := n - 1) (by omega) hh hw)) rfl (lt_nD _ _)
        unfold shE
        congr 2
        refine List.map_congr_left fun i _ => ?_
        by_cases e : i = q.1
        · rw [if_pos e]
          unfold put
          simp only [if_pos e]
        · rw [if_neg e]
          unfold put
          simp only [if_neg e]
      refine ⟨[.val (shE h w s), .val (nD g), .val (shE w h (tr s)), .own N, .val (shE w h (tr s)), .val (nD q.1), .own ((B ++ [q].filter fun z => decide (mp h w (put s z.1 z.2 (some false)) < g)).map pD), .val (nD q.2), .val (rowE w fun j => if j = q.2 then some false else s q.1 j)], ?_, ⟨some (nD q.1), some (nD q.2), some _, rfl⟩⟩
      simp only [eb, Option.bind_some]
      refine ex_nx (s_asg a1 (by cases z <;> rfl)) ?_
      by_cases hc : mp h w (put s q.1 q.2 (some false)) < g
      · rw [decide_eq_true hc] at a2
        refine ex_nx (s_iteT a2 (ex_nx ?_ rfl)) rfl
        have ef : ([q].filter fun z => decide (mp h w (put s z.1 z.2 (some false)) < g)) = [q] := by simp [hc]
        rw [ef, exS]
        show (if small (B.map pD).length then _ else none) = _
        rw [small_of (by rw [List.length_map]; exact hBl), if_pos rfl, List.map_append]
        rfl
      · rw [decide_eq_false hc] at a2
        have ef : ([q].filter fun z => decide (mp h w (put s z.1 z.2 (some false)) < g)) = [] := by simp [hc]
        rw [ef, List.append_nil]
        exact ex_nx (s_iteF a2 rfl) rfl) ⟨none, none, none, rfl⟩
  subst hρ
  subst hN
  exact run_of (by omega) rfl rfl (ex_nx g1 (ex_nx rfl (ex_nx g2 (ex_nx rfl (ex_nx (s_for g3 rfl e) (ex_ret rfl))))))
end
end PV
end
section -- G1
/-! Koenig: plain Lean. -/
namespace PV
def cn_ (w : Nat) (p : Nat → Bool) : Nat := (List.range w).countP p
theorem countP_or_and {α : Type} (p q : α → Bool) : ∀ l : List α, l.countP (fun x => p x || q x) + l.countP (fun x => p x && q x) = l.countP p + l.countP q
  | [] => rfl
  | x :: l => by
    have := countP_or_and p q l
    simp only [List.countP_cons]
    cases p x <;> cases q x <;> simp <;> omega
theorem countP_not {α : Type} (p : α → Bool) : ∀ l : List α, l.countP p + l.countP (fun x => !p x) = l.length
  | [] => rfl
  | x :: l => by
    have := countP_not p l
    simp only [List.countP_cons, List.length_cons]
    cases p x <;> simp <;> omega
theorem countP_mono {α : Type} {p q : α → Bool} : ∀ {l : List α}, (∀ x ∈ l, p x = true → q x = true) → l.countP p ≤ l.countP q
  | [], _ => Nat.le_refl _
  | x :: l, h => by
    have := countP_mono fun y hy => h y (List.mem_cons_of_mem _ hy)
    have hx := h x List.mem_cons_self
    simp only [List.countP_cons]
    cases hp : p x with
    | true => rw [hx hp]; simp; omega
    | false => simp; omega
theorem cn_lt {w : Nat} {p q : Nat → Bool} (h : ∀ k, k < w → p k = true → q k = true) {k : Nat} (hk : k < w) (hq : q k = true) (hp : p k = false) : cn_ w p + 1 ≤ cn_ w q := by
  have e := countP_or_and p (fun x => x == k) (List.range w)
  have h1 : (List.range w).countP (fun x => p x && (x == k)) = 0 := by
    refine List.countP_eq_zero.mpr fun x _ => ?_
    by_cases hx : x = k
    · rw [hx, hp]; simp
    · simp [hx]
  have h2 : 1 ≤ (List.range w).countP (fun x => x == k) := List.countP_pos_iff.mpr ⟨k, List.mem_range.mpr hk, by simp⟩
  have h3 : (List.range w).countP (fun x => p x || (x == k)) ≤ (List.range w).countP q := countP_mono fun x hx hpx => by
    rcases Bool.or_eq_true_iff.mp hpx with z | z
    · exact h x (List.mem_range.mp hx) z
    · rw [eq_of_beq z]; exact hq
  unfold cn_
  omega
section
variable {w : Nat} {a : Nat → Nat → Bool}
def mpL (w : Nat) (a : Nat → Nat → Bool) : List Nat → (Nat → Bool) → Nat
  | [], _ => 0
  | i :: L, U => (List.range w).foldl (fun f k => if a i k && !U k then max f (1 + mpL w a L (fun x => U x || x == k)) else f) (mpL w a L U)
def nb (a : Nat → Nat → Bool) (L : List Nat) (R : Nat → Bool) (k : Nat) : Bool := L.any fun i => R i && a i k
def phL (w : Nat) (a : Nat → Nat → Bool) (L : List Nat) (U R : Nat → Bool) : Nat := L.countP (fun i => !R i) + cn_ w (fun k => nb a L R k && !U k)
theorem fold_max (p : Nat → Bool) (g : Nat → Nat) : ∀ (l : List Nat) (x : Nat), x ≤ l.foldl (fun f k => if p k then max f (g k) else f) x ∧ (∀ k ∈ l, p k = true → g k ≤ l.foldl (fun f k => if p k then max f (g k) else f) x) ∧ (l.foldl (fun f k => if p k then max f (g k) else f) x = x ∨ ∃ k ∈ l, p k = true ∧ l.foldl (fun f k => if p k then max f (g k) else f) x = g k)
  | [], x => ⟨Nat.le_refl _, (fun _ h => nomatch h), .inl rfl⟩
  | k :: l, x => by
    rw [List.foldl_cons]
    cases hp : p k with
    | false =>
      rw [if_neg (by decide)]
      obtain ⟨h1, h2, h3⟩ := fold_max p g l x
      refine ⟨h1, fun j hj hpj => ?_, h3.imp id fun ⟨j, hj, e⟩ => ⟨j, List.mem_cons_of_mem _ hj, e⟩⟩
      rcases List.mem_cons.mp hj with rfl | hj
      · rw [hp] at hpj; cases hpj
      · exact h2 j hj hpj
    | true =>
      rw [if_pos rfl]
      obtain ⟨h1, h2, h3⟩ := fold_max p g l (max x (g k))
      refine ⟨by omega, fun j hj hpj => ?_, ?_⟩
      · rcases List.mem_cons.mp hj with rfl | hj
        · omega
        · exact h2 j hj hpj
      · rcases h3 with h3 | ⟨j, hj, hpj, e⟩
        · by_cases hx : g k ≤ x
          · exact .inl (by rw [h3]; omega)
          · exact .inr ⟨k, List.mem_cons_self, hp, by rw [h3]; omega⟩
        · exact .inr ⟨j, List.mem_cons_of_mem _ hj, hpj, e⟩
end
end PV
end
section -- G2
/-! Koenig's theorem for the law's search. -/
namespace PV
section
variable {w : Nat} {a : Nat → Nat → Bool}
theorem nb_iff {L : List Nat} {R : Nat → Bool} {k : Nat} : nb a L R k = true ↔ ∃ i ∈ L, R i = true ∧ a i k = true := by
  unfold nb
  rw [List.any_eq_true]
  constructor
  · rintro ⟨i, hi, h⟩
    obtain ⟨h1, h2⟩ := Bool.and_eq_true_iff.mp h
    exact ⟨i, hi, h1, h2⟩
  · rintro ⟨i, hi, h1, h2⟩
    exact ⟨i, hi, by rw [h1, h2]; rfl⟩
/-- submodular -/
theorem phL_sub (L : List Nat) (U R Q : Nat → Bool) : phL w a L U (fun i => R i || Q i) + phL w a L U (fun i => R i && Q i) ≤ phL w a L U R + phL w a L U Q := by
  unfold phL
  have e1 := countP_or_and (fun i => !R i) (fun i => !Q i) L
  have e2 := countP_or_and (fun k => nb a L R k && !U k) (fun k => nb a L Q k && !U k) (List.range w)
  have h1 : L.countP (fun i => !(R i || Q i)) = L.countP (fun x => !R x && !Q x) := by
    congr 1
    funext x
    cases R x <;> cases Q x <;> rfl
  have h2 : L.countP (fun i => !(R i && Q i)) = L.countP (fun x => !R x || !Q x) := by
    congr 1
    funext x
    cases R x <;> cases Q x <;> rfl
  have h3 : cn_ w (fun k => nb a L (fun i => R i || Q i) k && !U k) ≤ (List.range w).countP (fun x => (nb a L R x && !U x) || (nb a L Q x && !U x)) := countP_mono fun k _ h => by
    obtain ⟨h4, h5⟩ := Bool.and_eq_true_iff.mp h
    obtain ⟨i, hi, hr, ha⟩ := nb_iff.mp h4
    rw [h5]
    rcases Bool.or_eq_true_iff.mp hr with z | z
    · rw [nb_iff.mpr ⟨i, hi, z, ha⟩]; rfl
    · rw [nb_iff.mpr ⟨i, hi, z, ha⟩]; simp
  have h4 : cn_ w (fun k => nb a L (fun i => R i && Q i) k && !U k) ≤ (List.range w).countP (fun x => (nb a L R x && !U x) && (nb a L Q x && !U x)) := countP_mono fun k _ h => by
    obtain ⟨h4, h5⟩ := Bool.and_eq_true_iff.mp h
    obtain ⟨i, hi, hr, ha⟩ := nb_iff.mp h4
    obtain ⟨z1, z2⟩ := Bool.and_eq_true_iff.mp hr
    rw [h5, nb_iff.mpr ⟨i, hi, z1, ha⟩, nb_iff.mpr ⟨i, hi, z2, ha⟩]
    rfl
  unfold cn_ at *
  show L.countP (fun i => !(R i || Q i)) + _ + (L.countP (fun i => !(R i && Q i)) + _) ≤ _
  omega
theorem phL_congr {L : List Nat} {U R Q : Nat → Bool} (h : ∀ i ∈ L, R i = Q i) : phL w a L U R = phL w a L U Q := by
  unfold phL
  have e1 : L.countP (fun i => !R i) = L.countP (fun i => !Q i) := List.countP_congr fun i hi => by rw [h i hi]
  have e2 : nb a L R = nb a L Q := funext fun k => Bool.eq_iff_iff.mpr ⟨fun z => by
    obtain ⟨i, hi, h1, h2⟩ := nb_iff.mp z
    exact nb_iff.mpr ⟨i, hi, by rw [← h i hi]; exact h1, h2⟩, fun z => by
    obtain ⟨i, hi, h1, h2⟩ := nb_iff.mp z
    exact nb_iff.mpr ⟨i, hi, by rw [h i hi]; exact h1, h2⟩⟩
  rw [e1, e2]
theorem phL_F {L : List Nat} {i : Nat} {U R : Nat → Bool} (h : R i = false) : phL w a (i :: L) U R = 1 + phL w a L U R := by
  unfold phL
  have e : nb a (i :: L) R = nb a L R := by
    funext k
    unfold nb
    rw [List.any_cons, h]
    rfl
  rw [e, List.countP_cons, h]
  simp only [Bool.not_false, if_true]
  omega
theorem phL_T {L : List Nat} {i : Nat} {U R : Nat → Bool} (h : R i = true) : phL w a (i :: L) U R = L.countP (fun i => !R i) + cn_ w (fun k => (a i k || nb a L R k) && !U k) := by
  unfold phL
  have e : nb a (i :: L) R = fun k => a i k || nb a L R k := by
    funext k
    unfold nb
    rw [List.any_cons, h]
    rfl
  rw [e, List.countP_cons, h]
  simp
theorem phL_U {L : List Nat} {U R : Nat → Bool} {k : Nat} : phL w a L (fun x => U x || x == k) R ≤ phL w a L U R := by
  unfold phL
  refine Nat.add_le_add_left (countP_mono fun x _ h => ?_) _
  obtain ⟨h1, h2⟩ := Bool.and_eq_true_iff.mp h
  have h2 : (!(U x || x == k)) = true := h2
  rw [h1]
  cases hu : U x with
  | true => rw [hu] at h2; simp at h2
  | false => rfl
theorem phL_U1 {L : List Nat} {U R : Nat → Bool} {k : Nat} : phL w a L U R ≤ phL w a L (fun x => U x || x == k) R + 1 := by
  unfold phL
  have e := countP_or_and (fun x => nb a L R x && !(U x || x == k)) (fun x => x == k) (List.range w)
  have h1 : (List.range w).countP (fun x => x == k) ≤ 1 := by
    rw [← List.count_eq_countP]
    exact List.nodup_iff_count.mp List.nodup_range k
  have h2 : cn_ w (fun x => nb a L R x && !U x) ≤ (List.range w).countP (fun x => (nb a L R x && !(U x || x == k)) || (x == k)) := countP_mono fun x _ h => by
    obtain ⟨h3, h4⟩ := Bool.and_eq_true_iff.mp h
    rw [h3]
    by_cases hx : x = k
    · simp [hx]
    · have : (x == k) = false := beq_eq_false_iff_ne.mpr hx
      rw [this, Bool.or_false, Bool.or_false, h4]
      rfl
  unfold cn_ at *
  show _ + (List.range w).countP (fun x => nb a L R x && !U x) ≤ _ + (List.range w).countP (fun x => nb a L R x && !(U x || x == k)) + 1
  omega
theorem phL_U0 {L : List Nat} {U R : Nat → Bool} {k : Nat} (h : nb a L R k = false) : phL w a L U R = phL w a L (fun x => U x || x == k) R := by
  unfold phL
  have e : (fun x => nb a L R x && !U x) = fun x => nb a L R x && !(U x || x == k) := by
    funext x
    by_cases hx : x = k
    · rw [hx, h]; rfl
    · have : (x == k) = false := beq_eq_false_iff_ne.mpr hx
      rw [this, Bool.or_false]
  rw [e]
/-- KOENIG -/
theorem koe : ∀ (L : List Nat), L.Nodup → ∀ U : Nat → Bool, (∀ R, mpL w a L U ≤ phL w a L U R) ∧ ∃ R, phL w a L U R ≤ mpL w a L U
  | [], _, U => ⟨fun R => Nat.zero_le _, ⟨fun _ => false, by
      unfold phL cn_ nb
      rw [show ([] : List Nat).countP (fun i => !false) = 0 from rfl]
      simp [mpL]⟩⟩
  | i :: L, nd, U => by
    have nd' := List.nodup_cons.mp nd
    obtain ⟨f1, f2, f3⟩ := fold_max (fun k => a i k && !U k) (fun k => 1 + mpL w a L (fun x => U x || x == k)) (List.range w) (mpL w a L U)
    obtain ⟨A0, R0, hR0⟩ := koe L nd'.2 U
    have hM : mpL w a (i :: L) U = (List.range w).foldl (fun f k => if a i k && !U k then max f (1 + mpL w a L (fun x => U x || x == k)) else f) (mpL w a L U) := rfl
    rw [hM]
    generalize (List.range w).foldl (fun f k => if a i k && !U k then max f (1 + mpL w a L (fun x => U x || x == k)) else f) (mpL w a L U) = M at f1 f2 f3
    refine ⟨fun R => ?_, ?_⟩
    · cases hr : R i with
      | false =>
        rw [phL_F hr]
        have := A0 R
        rcases f3 with f3 | ⟨k, hk, hp, e⟩
        · omega
        · have h1 := (koe L nd'.2 (fun x => U x || x == k)).1 R
          have h2 := phL_U (w := w) (a := a) (L := L) (U := U) (R := R) (k := k)
          omega
      | true =>
        rw [phL_T hr]
        have hmono : cn_ w (fun k => nb a L R k && !U k) ≤ cn_ w (fun k => (a i k || nb a L R k) && !U k) := countP_mono fun k _ h => by
          obtain ⟨h1, h2⟩ := Bool.and_eq_true_iff.mp h
          rw [h1, h2, Bool.or_true]
          rfl
        rcases f3 with f3 | ⟨k, hk, hp, e⟩
        · have := A0 R
          unfold phL at this
          omega
        · have h1 := (koe L nd'.2 (fun x => U x || x == k)).1 R
          have h1 : mpL w a L (fun x => U x || x == k) ≤ L.countP (fun i => !R i) + cn_ w (fun x => nb a L R x && !(U x || x == k)) := h1
          have h2 : cn_ w (fun x => nb a L R x && !(U x || x == k)) + 1 ≤ cn_ w (fun k => (a i k || nb a L R k) && !U k) := by
            refine cn_lt (k := k) (fun x _ h => ?_) (List.mem_range.mp hk) ?_ ?_
            · obtain ⟨h3, h4⟩ := Bool.and_eq_true_iff.mp h
              cases hu : U x with
              | true => rw [hu] at h4; simp at h4
              | false => rw [h3]; simp
            · obtain ⟨h3, h4⟩ := Bool.and_eq_true_iff.mp hp
              rw [h3, h4]
              rfl
            · simp
          omega
    · by_cases hc : mpL w a L U + 1 ≤ M
      · refine ⟨fun x => R0 x && !(x == i), ?_⟩
        rw [phL_F (by simp), phL_congr (Q := R0) fun x hx => by
          have : (x == i) = false := beq_eq_false_iff_ne.mpr fun z => nd'.1 (z ▸ hx)
          rw [this]
          simp]
        omega
      · have key : ∀ ks : List Nat, (∀ k ∈ ks, k < w ∧ (a i k && !U k) = true) → ∃ R, phL w a L U R ≤ mpL w a L U ∧ ∀ k ∈ ks, nb a L R k = true := by
          intro ks
          induction ks with
          | nil => exact fun _ => ⟨R0, hR0, fun _ z => nomatch z⟩
          | cons k ks ih =>
            intro hks
            obtain ⟨R, h1, h2⟩ := ih fun x hx => hks x (List.mem_cons_of_mem _ hx)
            obtain ⟨hk, hp⟩ := hks k List.mem_cons_self
            obtain ⟨B, Q, hQ⟩ := koe L nd'.2 (fun x => U x || x == k)
            have h3 := f2 k (List.mem_range.mpr hk) hp
            have h4 := phL_U1 (w := w) (a := a) (L := L) (U := U) (R := Q) (k := k)
            have h5 : nb a L Q k = true := by
              cases hn : nb a L Q k with
              | true => rfl
              | false =>
                have := phL_U0 (w := w) (U := U) hn
                have := A0 Q
                omega
            have h6 := phL_sub (w := w) (a := a) L U R Q
            have h7 := A0 (fun i => R i && Q i)
            refine ⟨fun i => R i || Q i, by omega, fun x hx => ?_⟩
            rcases List.mem_cons.mp hx with rfl | hx
            · obtain ⟨j, hj, hq, ha⟩ := nb_iff.mp h5
              exact nb_iff.mpr ⟨j, hj, by rw [hq, Bool.or_true], ha⟩
            · obtain ⟨j, hj, hq, ha⟩ := nb_iff.mp (h2 x hx)
              exact nb_iff.mpr ⟨j, hj, by rw [hq, Bool.true_or], ha⟩
        obtain ⟨R, h1, h2⟩ := key ((List.range w).filter fun k => a i k && !U k) fun k hk => ⟨List.mem_range.mp (List.mem_filter.mp hk).1, (List.mem_filter.mp hk).2⟩
        refine ⟨fun x => R x || x == i, ?_⟩
        rw [phL_T (by simp)]
        have e : ∀ x ∈ L, (R x || x == i) = R x := fun x hx => by
          have : (x == i) = false := beq_eq_false_iff_ne.mpr fun z => nd'.1 (z ▸ hx)
          rw [this, Bool.or_false]
        have e1 := phL_congr (w := w) (a := a) (U := U) e
        unfold phL at e1 h1
        have e2 : cn_ w (fun k => (a i k || nb a L (fun x => R x || x == i) k) && !U k) ≤ cn_ w (fun k => nb a L R k && !U k) := countP_mono fun k hk h => by
          obtain ⟨h3, h4⟩ := Bool.and_eq_true_iff.mp h
          rw [h4, Bool.and_true]
          rcases Bool.or_eq_true_iff.mp h3 with z | z
          · exact h2 k (List.mem_filter.mpr ⟨hk, by rw [z, h4]; rfl⟩)
          · obtain ⟨j, hj, hq, ha⟩ := nb_iff.mp z
            exact nb_iff.mpr ⟨j, hj, by rw [← e j hj]; exact hq, ha⟩
        have e3 : L.countP (fun x => !(R x || x == i)) = L.countP (fun x => !R x) := List.countP_congr fun x hx => by rw [e x hx]
        show L.countP (fun x => !(R x || x == i)) + _ ≤ M
        omega
end
end PV
end
section -- G3
/-! The greatest number of pairs: free windows; transposed; less an edge. -/
namespace PV
def nu (h w : Nat) (a : Nat → Nat → Bool) : Nat := mpL w a (List.range h) (fun _ => false)
/-- no edge in the window -/
def Fre (h w : Nat) (a : Nat → Nat → Bool) (R C : Nat → Bool) : Prop := ∀ i j, i < h → j < w → R i = true → C j = true → a i j = false
/-- what is outside the window -/
def ow (h w : Nat) (R C : Nat → Bool) : Nat := cn_ h (fun i => !R i) + cn_ w (fun j => !C j)
section
variable {h w : Nat} {a b : Nat → Nat → Bool}
theorem cn_mono {w : Nat} {p q : Nat → Bool} (H : ∀ k, k < w → p k = true → q k = true) : cn_ w p ≤ cn_ w q := countP_mono fun k hk => H k (List.mem_range.mp hk)
theorem nu_le {R C : Nat → Bool} (f : Fre h w a R C) : nu h w a ≤ ow h w R C := by
  have h1 := (koe (w := w) (a := a) (List.range h) List.nodup_range fun _ => false).1 R
  refine Nat.le_trans h1 ?_
  unfold phL ow
  refine Nat.add_le_add_left (cn_mono fun k hk z => ?_) _
  obtain ⟨z1, _⟩ := Bool.and_eq_true_iff.mp z
  obtain ⟨i, hi, hr, ha⟩ := nb_iff.mp z1
  cases hc : C k with
  | false => rfl
  | true =>
    rw [f i k (List.mem_range.mp hi) hk hr hc] at ha
    cases ha
theorem nu_ex (h w : Nat) (a : Nat → Nat → Bool) : ∃ R C, Fre h w a R C ∧ ow h w R C ≤ nu h w a := by
  obtain ⟨R, hR⟩ := (koe (w := w) (a := a) (List.range h) List.nodup_range fun _ => false).2
  refine ⟨R, fun k => !nb a (List.range h) R k, fun i j hi hj hr hc => ?_, Nat.le_trans ?_ hR⟩
  · cases ha : a i j with
    | false => rfl
    | true =>
      have hc2 : (!nb a (List.range h) R j) = true := hc
      rw [nb_iff.mpr ⟨i, List.mem_range.mpr hi, hr, ha⟩] at hc2
      cases hc2
  · unfold phL ow
    refine Nat.add_le_add_left (cn_mono fun k _ z => ?_) _
    rw [Bool.not_not] at z
    rw [z]
    rfl
theorem nu_tr : nu w h (fun j i => a i j) = nu h w a := by
  refine Nat.le_antisymm ?_ ?_
  · obtain ⟨R, C, f, e⟩ := nu_ex h w a
    have := nu_le (h := w) (w := h) (a := fun j i => a i j) (R := C) (C := R) fun j i hj hi hc hr => f i j hi hj hr hc
    unfold ow at this e
    omega
  · obtain ⟨R, C, f, e⟩ := nu_ex w h (fun j i => a i j)
    have := nu_le (h := h) (w := w) (a := a) (R := C) (C := R) fun j i hj hi hc hr => f i j hi hj hr hc
    unfold ow at this e
    omega
theorem nu_mono (H : ∀ i j, i < h → j < w → a i j = true → b i j = true) : nu h w a ≤ nu h w b := by
  obtain ⟨R, C, f, e⟩ := nu_ex h w b
  refine Nat.le_trans (nu_le (a := a) (R := R) (C := C) fun i j hi hj hr hc => ?_) e
  cases ha : a i j with
  | false => rfl
  | true =>
    have := H i j hi hj ha
    rw [f i j hi hj hr hc] at this
    cases this
theorem nu_congr (H : ∀ i j, i < h → j < w → a i j = b i j) : nu h w a = nu h w b :=
  Nat.le_antisymm (nu_mono fun i j hi hj z => by rw [← H i j hi hj]; exact z) (nu_mono fun i j hi hj z => by rw [H i j hi hj]; exact z)
/-- without one edge -/
def rm (a : Nat → Nat → Bool) (r c : Nat) : Nat → Nat → Bool := fun i j => a i j && !(i == r && j == c)
theorem rm_le {r c i j : Nat} (z : rm a r c i j = true) : a i j = true := (Bool.and_eq_true_iff.mp z).1
theorem rm_ne {r c i j : Nat} (e : ¬(i = r ∧ j = c)) : rm a r c i j = a i j := by
  unfold rm
  have : (i == r && j == c) = false := by
    by_cases h1 : i = r
    · have h2 : (j == c) = false := beq_eq_false_iff_ne.mpr fun z => e ⟨h1, z⟩
      rw [h2, Bool.and_false]
    · have h2 : (i == r) = false := beq_eq_false_iff_ne.mpr h1
      rw [h2, Bool.false_and]
  rw [this]
  simp
theorem rm_at {r c : Nat} : rm a r c r c = false := by
  unfold rm
  simp
/-- a row is worth one pair at most -/
theorem nu_row {r : Nat} (H : ∀ i j, i < h → j < w → i ≠ r → a i j = true → b i j = true) : nu h w a ≤ nu h w b + 1 := by
  obtain ⟨R, C, f, e⟩ := nu_ex h w b
  have h1 := nu_le (h := h) (w := w) (a := a) (R := fun i => R i && !(i == r)) (C := C) fun i j hi hj hr hc => by
    obtain ⟨h2, h3⟩ := Bool.and_eq_true_iff.mp hr
    have hne : i ≠ r := fun z => by rw [z] at h3; simp at h3
    cases ha : a i j with
    | false => rfl
    | true =>
      have := H i j hi hj hne ha
      rw [f i j hi hj h2 hc] at this
      cases this
  have h2 : cn_ h (fun i => !(R i && !(i == r))) ≤ cn_ h (fun i => !R i) + 1 := by
    have e1 := countP_or_and (fun i => !R i) (fun i => i == r) (List.range h)
    have e2 : (List.range h).countP (fun x => x == r) ≤ 1 := by
      rw [← List.count_eq_countP]
      exact List.nodup_iff_count.mp List.nodup_range r
    have e3 : cn_ h (fun i => !(R i && !(i == r))) ≤ (List.range h).countP (fun i => !R i || (i == r)) := countP_mono fun i _ z => by
      cases hr : R i with
      | false => rfl
      | true => rw [hr] at z; simpa using z
    unfold cn_ at *
    omega
  unfold ow at *
  have h3 : cn_ h (fun i => !(fun i => R i && !(i == r)) i) = cn_ h (fun i => !(R i && !(i == r))) := rfl
  omega
/-- two edges of one row are not both needed -/
theorem nu_two {r c c' : Nat} (hr : r < h) (hc : c < w) (hc' : c' < w) (ne : c ≠ c') (e1 : a r c = true) (e2 : a r c' = true) (n1 : nu h w (rm a r c) < nu h w a) (n2 : nu h w (rm a r c') < nu h w a) : False := by
  obtain ⟨R, C, f, e⟩ := nu_ex h w (rm a r c)
  obtain ⟨R', C', f', e'⟩ := nu_ex h w (rm a r c')
  -- the place lies in its window
  have inw : ∀ (c : Nat) (R C : Nat → Bool), c < w → Fre h w (rm a r c) R C → ow h w R C < nu h w a → R r = true ∧ C c = true := fun c R C _ f hlt => by
    refine Classical.byContradiction fun hn => ?_
    have := nu_le (h := h) (w := w) (a := a) (R := R) (C := C) fun i j hi hj hri hcj => by
      rw [← rm_ne (a := a) (r := r) (c := c) (i := i) (j := j) fun z => hn ⟨by rw [← z.1]; exact hri, by rw [← z.2]; exact hcj⟩]
      exact f i j hi hj hri hcj
    omega
  obtain ⟨i1, i2⟩ := inw c R C hc f (by omega)
  obtain ⟨i1', i2'⟩ := inw c' R' C' hc' f' (by omega)
  have x1 : C' c = false := by
    cases hx : C' c with
    | false => rfl
    | true =>
      have := f' r c hr hc i1' hx
      rw [rm_ne fun z => ne z.2, e1] at this
      cases this
  have x2 : C c' = false := by
    cases hx : C c' with
    | false => rfl
    | true =>
      have := f r c' hr hc' i1 hx
      rw [rm_ne fun z => ne z.2.symm, e2] at this
      cases this
  have big := nu_le (h := h) (w := w) (a := a) (R := fun i => R i || R' i) (C := fun j => C j && C' j) fun i j hi hj hri hcj => by
    obtain ⟨y1, y2⟩ := Bool.and_eq_true_iff.mp hcj
    rcases Bool.or_eq_true_iff.mp hri with z | z
    · rw [← rm_ne (a := a) (r := r) (c := c) fun q => by rw [q.2, x1] at y2; cases y2]
      exact f i j hi hj z y1
    · rw [← rm_ne (a := a) (r := r) (c := c') fun q => by rw [q.2, x2] at y1; cases y1]
      exact f' i j hi hj z y2
  have sml := nu_le (h := h) (w := w) (a := rm (rm a r c) r c') (R := fun i => R i && R' i) (C := fun j => C j || C' j) fun i j hi hj hri hcj => by
    obtain ⟨y1, y2⟩ := Bool.and_eq_true_iff.mp hri
    rcases Bool.or_eq_true_iff.mp hcj with z | z
    · cases q : rm (rm a r c) r c' i j with
      | false => rfl
      | true =>
        have := rm_le q
        rw [f i j hi hj y1 z] at this
        cases this
    · cases q : rm (rm a r c) r c' i j with
      | false => rfl
      | true =>
        have h1 := f' i j hi hj y2 z
        have h2 : a i j = true := rm_le (rm_le q)
        by_cases hq : i = r ∧ j = c'
        · rw [hq.1, hq.2, rm_at] at q
          cases q
        · rw [rm_ne hq, h2] at h1
          cases h1
  have rw1 := nu_row (h := h) (w := w) (a := a) (b := rm (rm a r c) r c') (r := r) fun i j _ _ hne ha => by
    rw [rm_ne fun z => hne z.1, rm_ne fun z => hne z.1]
    exact ha
  have s1 := countP_or_and (fun i => !R i) (fun i => !R' i) (List.range h)
  have s2 := countP_or_and (fun i => !C i) (fun i => !C' i) (List.range w)
  have t1 : cn_ h (fun i => !(R i || R' i)) = (List.range h).countP (fun x => !R x && !R' x) := by
    unfold cn_
    congr 1
    funext x
    cases R x <;> cases R' x <;> rfl
  have t2 : cn_ h (fun i => !(R i && R' i)) = (List.range h).countP (fun x => !R x || !R' x) := by
    unfold cn_
    congr 1
    funext x
    cases R x <;> cases R' x <;> rfl
  have t3 : cn_ w (fun i => !(C i || C' i)) = (List.range w).countP (fun x => !C x && !C' x) := by
    unfold cn_
    congr 1
    funext x
    cases C x <;> cases C' x <;> rfl
  have t4 : cn_ w (fun i => !(C i && C' i)) = (List.range w).countP (fun x => !C x || !C' x) := by
    unfold cn_
    congr 1
    funext x
    cases C x <;> cases C' x <;> rfl
  have b2 : nu h w a ≤ cn_ h (fun i => !(R i || R' i)) + cn_ w (fun i => !(C i && C' i)) := big
  have b3 : nu h w (rm (rm a r c) r c') ≤ cn_ h (fun i => !(R i && R' i)) + cn_ w (fun i => !(C i || C' i)) := sml
  unfold ow cn_ at *
  omega
end
end PV
end
section -- G4
/-! The sheet's numbers are the greatest numbers of pairs. -/
namespace PV
def su : Option Bool → Bool
  | some false => false
  | _ => true
/-- none or one -/
def sup (s : Nat → Nat → Option Bool) : Nat → Nat → Bool := fun i j => su (s i j)
section
variable {h w : Nat} {s : Nat → Nat → Option Bool}
theorem fl_len (w : Nat) (p : Nat → Bool) : ((List.range w).filter p).length = cn_ w p := by
  unfold cn_
  rw [List.countP_eq_length_filter]
theorem cn_not (w : Nat) (p : Nat → Bool) : cn_ w p + cn_ w (fun k => !p k) = w := by
  have := countP_not p (List.range w)
  rw [List.length_range] at this
  exact this
theorem cn_lots (hh : h ≤ 4) {R : List Nat} (hR : R ∈ lots h) : cn_ h (fun k => R.contains k) = R.length := by
  obtain ⟨_, _, _, e⟩ := lots_in h (le4 hh) R hR
  rw [← fl_len]
  exact congrArg List.length e.symm
theorem cn_nlots (hh : h ≤ 4) {R : List Nat} (hR : R ∈ lots h) : cn_ h (fun k => !R.contains k) = h - R.length := by
  have h1 := cn_not h (fun k => R.contains k)
  have h2 := cn_lots hh hR
  omega
theorem fl_con {p : Nat → Bool} {k : Nat} (hk : k < h) : ((List.range h).filter p).contains k = p k := by
  refine Bool.eq_iff_iff.mpr ⟨fun z => (List.mem_filter.mp (List.contains_iff_mem.mp z)).2, fun z => List.contains_iff_mem.mpr (List.mem_filter.mpr ⟨List.mem_range.mpr hk, z⟩)⟩
theorem ones_any {C : List Nat} : ∀ {R : List Nat}, R.Nodup → (∀ i ∈ R, ∀ i' ∈ R, ∀ j ∈ C, one? (s i j) = true → one? (s i' j) = true → i = i') → ones s R C = C.countP (fun j => R.any fun i => one? (s i j))
  | [], _, _ => by simp [ones]
  | i :: R, nd, H => by
    have nd' := List.nodup_cons.mp nd
    have ih := ones_any (C := C) nd'.2 fun a ha b hb => H a (List.mem_cons_of_mem _ ha) b (List.mem_cons_of_mem _ hb)
    have e : ones s (i :: R) C = (C.filter fun j => one? (s i j)).length + ones s R C := by
      unfold ones
      rw [List.map_cons, List.sum_cons]
    have e2 := countP_or_and (fun j => one? (s i j)) (fun j => R.any fun i => one? (s i j)) C
    have e3 : C.countP (fun x => one? (s i x) && R.any fun i => one? (s i x)) = 0 := List.countP_eq_zero.mpr fun j hj z => by
      obtain ⟨z1, z2⟩ := Bool.and_eq_true_iff.mp z
      obtain ⟨i', hi', z3⟩ := List.any_eq_true.mp z2
      have := H i List.mem_cons_self i' (List.mem_cons_of_mem _ hi') j hj z1 z3
      exact nd'.1 (this ▸ hi')
    rw [e, ih, ← List.countP_eq_length_filter]
    show _ = C.countP (fun j => one? (s i j) || R.any fun i => one? (s i j))
    omega
theorem ones_one (pm : Pm h w s) {R C : List Nat} (hR : ∀ i ∈ R, i < h) (hC : ∀ j ∈ C, j < w) (nr : R.Nodup) : ones s R C = C.countP (fun j => R.any fun i => one? (s i j)) :=
  ones_any nr fun i hi i' hi' j hj e e' => (pm i j i' j (hR i hi) (hR i' hi') (hC j hj) (hC j hj) (one_iff.mp e) (one_iff.mp e')).mpr rfl
theorem any_told (j : Nat) : ∀ R : List Nat, (R.any fun i => sup s i j) = (!(R.all fun k => (s k j).isSome) || R.any fun i => one? (s i j))
  | [] => rfl
  | i :: R => by
    rw [List.any_cons, List.all_cons, List.any_cons, any_told j R]
    unfold sup
    cases s i j with
    | none => simp [su]
    | some b => cases b <;> simp [su, one?]
theorem nb_any {R : List Nat} (hR : ∀ k ∈ R, k < h) (a : Nat → Nat → Bool) (j : Nat) : nb a (List.range h) (fun k => R.contains k) j = R.any fun i => a i j := by
  refine Bool.eq_iff_iff.mpr ⟨fun z => ?_, fun z => ?_⟩
  · obtain ⟨i, _, h1, h2⟩ := nb_iff.mp z
    exact List.any_eq_true.mpr ⟨i, List.contains_iff_mem.mp h1, h2⟩
  · obtain ⟨i, h1, h2⟩ := List.any_eq_true.mp z
    exact nb_iff.mpr ⟨i, List.mem_range.mpr (hR i h1), List.contains_iff_mem.mpr h1, h2⟩
theorem phi_L (hh : h ≤ 4) (pm : Pm h w s) {R : List Nat} (hR : R ∈ lots h) : phi h w s R = phL w (sup s) (List.range h) (fun _ => false) (fun k => R.contains k) := by
  obtain ⟨r1, r2, r3, _⟩ := lots_in h (le4 hh) R hR
  have e1 := cn_nlots hh hR
  have e2 := ones_one pm r1 (told_lt (s := s) (R := R)) r3
  have e3 : (told w s R).length = cn_ w fun j => R.all fun k => (s k j).isSome := fl_len _ _
  have e4 := cn_not w fun j => R.all fun k => (s k j).isSome
  have e5 : (told w s R).countP (fun j => R.any fun i => one? (s i j)) = cn_ w fun j => (R.any fun i => one? (s i j)) && R.all fun k => (s k j).isSome := by
    unfold told cn_
    rw [List.countP_filter]
  have e6 := countP_or_and (fun j => !R.all fun k => (s k j).isSome) (fun j => (R.any fun i => one? (s i j)) && R.all fun k => (s k j).isSome) (List.range w)
  have e7 : (List.range w).countP (fun j => (!R.all fun k => (s k j).isSome) && ((R.any fun i => one? (s i j)) && R.all fun k => (s k j).isSome)) = 0 := List.countP_eq_zero.mpr fun j _ => by
    cases R.all fun k => (s k j).isSome <;> simp
  have e8 : (fun j => (!R.all fun k => (s k j).isSome) || ((R.any fun i => one? (s i j)) && R.all fun k => (s k j).isSome)) = fun k => nb (sup s) (List.range h) (fun k => R.contains k) k && !(fun _ : Nat => false) k := by
    funext j
    rw [nb_any r1, any_told]
    cases R.all fun k => (s k j).isSome <;> simp
  rw [e8, e7] at e6
  have e6' : cn_ w (fun k => nb (sup s) (List.range h) (fun k => R.contains k) k && !(fun _ : Nat => false) k) + 0 = cn_ w (fun j => !R.all fun k => (s k j).isSome) + cn_ w (fun j => (R.any fun i => one? (s i j)) && R.all fun k => (s k j).isSome) := e6
  show (h - R.length) + (w - (told w s R).length) + ones s R (told w s R) = cn_ h (fun k => !R.contains k) + cn_ w (fun k => nb (sup s) (List.range h) (fun k => R.contains k) k && !(fun _ : Nat => false) k)
  omega
theorem gR_nu (hh : h ≤ 4) (pm : Pm h w s) : gR h w s = nu h w (sup s) := by
  refine Nat.le_antisymm ?_ ?_
  · obtain ⟨R, hR⟩ := (koe (w := w) (a := sup s) (List.range h) List.nodup_range fun _ => false).2
    have hm := lots_of hh R
    have h1 := mnN_le (l := (lots h).map (phi h w s)) (phi h w s ((List.range h).filter R)) (List.mem_map.mpr ⟨_, hm, rfl⟩)
    rw [phi_L hh pm hm, phL_congr (Q := R) fun i hi => fl_con (List.mem_range.mp hi)] at h1
    exact Nat.le_trans h1 hR
  · obtain ⟨R, hR, e⟩ := List.mem_map.mp (mnN_mem (l := (lots h).map (phi h w s)) fun z => lots_ne hh (List.map_eq_nil_iff.mp z))
    unfold gR
    rw [← e, phi_L hh pm hR]
    exact (koe (w := w) (a := sup s) (List.range h) List.nodup_range fun _ => false).1 _
theorem gr_nu (hh : h ≤ 4) (hw : w ≤ 4) (pm : Pm h w s) : gr h w s = nu h w (sup s) := by
  unfold gr
  by_cases hc : w < h
  · rw [if_pos hc, gR_nu hw pm.tr]
    exact nu_tr (a := sup s)
  · rw [if_neg hc, gR_nu hh pm]
/-! the law's search -/
theorem mpF_L : ∀ (m j : Nat) (U : List Nat) (V : Nat → Bool), (∀ k, U.contains k = V k) → mpF w s m j U = mpL w (fun i k => (s i k).isNone) (List.range' j m) V
  | 0, _, _, _, _ => rfl
  | m + 1, j, U, V, H => by
    rw [List.range'_succ]
    show _ = (List.range w).foldl (fun f k => if (s j k).isNone && !V k then max f (1 + mpL w (fun i k => (s i k).isNone) (List.range' (j + 1) m) (fun x => V x || x == k)) else f) (mpL w (fun i k => (s i k).isNone) (List.range' (j + 1) m) V)
    rw [← mpF_L m (j + 1) U V H]
    have e : (fun f k => if (s j k).isNone && !V k then max f (1 + mpL w (fun i k => (s i k).isNone) (List.range' (j + 1) m) (fun x => V x || x == k)) else f) = fun f k => if (s j k).isNone && !U.contains k then max f (1 + mpF w s m (j + 1) (U ++ [k])) else f := by
      funext f k
      rw [H k, ← mpF_L m (j + 1) (U ++ [k]) (fun x => V x || x == k) fun x => ?_]
      have := H x
      simp only [List.contains_eq_mem, List.mem_append, List.mem_singleton] at this ⊢
      rw [← this]
      by_cases h1 : x ∈ U <;> by_cases h2 : x = k <;> simp [h1, h2]
    rw [e]
    rfl
/-- no ones -/
def Zs (h w : Nat) (s : Nat → Nat → Option Bool) : Prop := ∀ i j, i < h → j < w → s i j ≠ some true
theorem Zs.pm (z : Zs h w s) : Pm h w s := fun i j _ _ a _ b _ e _ => absurd e (z i j a b)
theorem Zs.tr (z : Zs h w s) : Zs w h (tr s) := fun j i a b => z i j b a
theorem Zs.put0 (z : Zs h w s) (r c : Nat) : Zs h w (put s r c (some false)) := fun i j a b e => by
  rw [put_eq] at e
  split at e
  · cases e
  · exact z i j a b e
theorem Zs.del (z : Zs h w s) {r : Nat} : Zs (h - 1) w (delR s r) := fun i j a b e => by
  unfold delR at e
  split at e
  · exact z i j (by omega) b e
  · exact z (i + 1) j (by omega) b e
theorem Zs.sup (z : Zs h w s) {i j : Nat} (hi : i < h) (hj : j < w) : sup s i j = (s i j).isNone := by
  have := z i j hi hj
  unfold PV.sup
  cases e : s i j with
  | none => rfl
  | some b =>
    cases b with
    | true => exact absurd e this
    | false => rfl
theorem Zs.ones (z : Zs h w s) {R C : List Nat} (hR : ∀ i ∈ R, i < h) (hC : ∀ j ∈ C, j < w) : PV.ones s R C = 0 := by
  induction R with
  | nil => rfl
  | cons i R ih =>
    have e : PV.ones s (i :: R) C = (C.filter fun j => one? (s i j)).length + PV.ones s R C := by
      unfold PV.ones
      rw [List.map_cons, List.sum_cons]
    rw [e, ih fun k hk => hR k (List.mem_cons_of_mem _ hk), List.filter_eq_nil_iff.mpr fun j hj z1 => z i j (hR i List.mem_cons_self) (hC j hj) (one_iff.mp z1)]
    rfl
theorem mp_nu (z : Zs h w s) : mp h w s = nu h w (sup s) := by
  unfold mp
  rw [mpF_L h 0 [] (fun _ => false) fun _ => rfl, ← List.range_eq_range']
  exact nu_congr (a := fun i k => (s i k).isNone) fun i j hi hj => (z.sup hi hj).symm
/-! windows -/
theorem wins_mem {z : List Nat × List Nat} : z ∈ wins h w s ↔ z.1 ∈ lots h ∧ z.2 ∈ lots w ∧ tw s z.1 z.2 = true := by
  unfold wins
  rw [List.mem_flatMap]
  constructor
  · rintro ⟨R, hR, hz⟩
    obtain ⟨C, hC, rfl⟩ := List.mem_map.mp hz
    obtain ⟨h1, h2⟩ := List.mem_filter.mp hC
    exact ⟨hR, h1, h2⟩
  · rintro ⟨h1, h2, h3⟩
    exact ⟨z.1, h1, List.mem_map.mpr ⟨z.2, List.mem_filter.mpr ⟨h2, h3⟩, rfl⟩⟩
theorem tw_iff {R C : List Nat} : tw s R C = true ↔ ∀ i ∈ R, ∀ j ∈ C, (s i j).isSome = true := by
  unfold tw
  rw [List.all_eq_true]
  exact ⟨fun H i hi j hj => List.all_eq_true.mp (H i hi) j hj, fun H i hi => List.all_eq_true.mpr (H i hi)⟩
theorem cnt_ow (hh : h ≤ 4) (hw : w ≤ 4) {z : List Nat × List Nat} (h1 : z.1 ∈ lots h) (h2 : z.2 ∈ lots w) : cnt h w z = ow h w (fun k => z.1.contains k) (fun k => z.2.contains k) := by
  unfold cnt ow
  rw [cn_nlots hh h1, cn_nlots hw h2]
theorem nu_win (hh : h ≤ 4) (hw : w ≤ 4) (zs : Zs h w s) {z : List Nat × List Nat} (hz : z ∈ wins h w s) : nu h w (sup s) ≤ cnt h w z := by
  obtain ⟨h1, h2, h3⟩ := wins_mem.mp hz
  rw [cnt_ow hh hw h1 h2]
  refine nu_le fun i j hi hj hr hc => ?_
  have := tw_iff.mp h3 i (List.contains_iff_mem.mp hr) j (List.contains_iff_mem.mp hc)
  rw [zs.sup hi hj]
  cases e : s i j with
  | none => rw [e] at this; cases this
  | some b => rfl
theorem lst_nu (hh : h ≤ 4) (hw : w ≤ 4) (zs : Zs h w s) : lst h w s = nu h w (sup s) := by
  refine Nat.le_antisymm ?_ ?_
  · obtain ⟨R, C, f, e⟩ := nu_ex h w (sup s)
    have h1 := lots_of hh R
    have h2 := lots_of hw C
    have hz : ((List.range h).filter R, (List.range w).filter C) ∈ wins h w s := wins_mem.mpr ⟨h1, h2, tw_iff.mpr fun i hi j hj => by
      obtain ⟨i1, i2⟩ := List.mem_filter.mp hi
      obtain ⟨j1, j2⟩ := List.mem_filter.mp hj
      have hi := List.mem_range.mp i1
      have hj := List.mem_range.mp j1
      have := f i j hi hj i2 j2
      rw [zs.sup hi hj] at this
      cases e : s i j with
      | none => rw [e] at this; cases this
      | some b => rfl⟩
    refine Nat.le_trans (mnN_le (l := (wins h w s).map (cnt h w)) _ (List.mem_map.mpr ⟨_, hz, rfl⟩)) (Nat.le_trans (Nat.le_of_eq ?_) e)
    unfold cnt ow
    show (h - ((List.range h).filter R).length) + (w - ((List.range w).filter C).length) = _
    rw [fl_len, fl_len]
    have := cn_not h R
    have := cn_not w C
    omega
  · obtain ⟨z, hz, e⟩ := List.mem_map.mp (mnN_mem (l := (wins h w s).map (cnt h w)) fun z => wins_ne hh hw (List.map_eq_nil_iff.mp z))
    unfold lst
    rw [← e]
    exact nu_win hh hw zs hz
/-! tight -/
theorem tR_mem {R : List Nat} : R ∈ tR h w s ↔ R ∈ lots h ∧ phi h w s R = gR h w s := by
  unfold tR
  rw [List.mem_filter, decide_eq_true_eq]
theorem tR_and (hh : h ≤ 4) (pm : Pm h w s) : ∀ (l : List (List Nat)) (P : Nat → Bool), phL w (sup s) (List.range h) (fun _ => false) P = nu h w (sup s) → (∀ R ∈ l, R ∈ tR h w s) → phL w (sup s) (List.range h) (fun _ => false) (fun k => P k && l.all fun R => R.contains k) = nu h w (sup s)
  | [], P, hP, _ => by
    rw [← hP]
    exact phL_congr fun i _ => by simp
  | R :: l, P, hP, H => by
    obtain ⟨r1, r2⟩ := tR_mem.mp (H R List.mem_cons_self)
    rw [phi_L hh pm r1, gR_nu hh pm] at r2
    have h1 := phL_sub (w := w) (a := sup s) (List.range h) (fun _ => false) P (fun k => R.contains k)
    have h2 := (koe (w := w) (a := sup s) (List.range h) List.nodup_range fun _ => false).1 (fun k => P k || R.contains k)
    have h3 := (koe (w := w) (a := sup s) (List.range h) List.nodup_range fun _ => false).1 (fun k => P k && R.contains k)
    have h4 : nu h w (sup s) = mpL w (sup s) (List.range h) (fun _ => false) := rfl
    have := tR_and hh pm l (fun k => P k && R.contains k) (by omega) fun Q hQ => H Q (List.mem_cons_of_mem _ hQ)
    rw [← this]
    exact phL_congr fun i _ => by rw [List.all_cons, Bool.and_assoc]
theorem tRows_t (hh : h ≤ 4) (pm : Pm h w s) : tRows h w s ∈ tR h w s := by
  have hm : tRows h w s ∈ lots h := lots_of hh _
  refine tR_mem.mpr ⟨hm, ?_⟩
  obtain ⟨R, hR, e⟩ := List.mem_map.mp (mnN_mem (l := (lots h).map (phi h w s)) fun z => lots_ne hh (List.map_eq_nil_iff.mp z))
  have hRt : R ∈ tR h w s := tR_mem.mpr ⟨hR, e⟩
  have h1 : phL w (sup s) (List.range h) (fun _ => false) (fun k => R.contains k) = nu h w (sup s) := by
    rw [← phi_L hh pm hR, ← gR_nu hh pm]
    exact e
  have := tR_and hh pm (tR h w s) (fun k => R.contains k) h1 fun _ z => z
  rw [phi_L hh pm hm, gR_nu hh pm, ← this]
  refine phL_congr fun i hi => ?_
  unfold tRows
  rw [fl_con (List.mem_range.mp hi)]
  cases hc : (tR h w s).all fun R => R.contains i with
  | false => rw [Bool.and_false]
  | true => rw [List.all_eq_true.mp hc R hRt]; rfl
theorem told_lots (hw : w ≤ 4) (R : List Nat) : told w s R ∈ lots w := lots_of hw _
theorem tws_mem {z : List Nat × List Nat} : z ∈ tws h w s ↔ (z.1 ∈ lots h ∧ z.2 ∈ lots w ∧ tw s z.1 z.2 = true) ∧ cnt h w z = lst h w s := by
  unfold tws
  rw [List.mem_filter, decide_eq_true_eq, wins_mem]
theorem phi_cnt (hh : h ≤ 4) (zs : Zs h w s) {R : List Nat} (hR : R ∈ lots h) : phi h w s R = cnt h w (R, told w s R) := by
  unfold phi wb cnt
  rw [zs.ones (lots_in h (le4 hh) R hR).1 told_lt]
  rfl
theorem tws_A (hh : h ≤ 4) (hw : w ≤ 4) (zs : Zs h w s) {R : List Nat} (hR : R ∈ tR h w s) : (R, told w s R) ∈ tws h w s := by
  obtain ⟨h1, h2⟩ := tR_mem.mp hR
  refine tws_mem.mpr ⟨⟨h1, told_lots hw R, tw_iff.mpr told_some⟩, ?_⟩
  rw [← phi_cnt hh zs h1, h2, gR_nu hh zs.pm, lst_nu hh hw zs]
theorem tws_B (hh : h ≤ 4) (hw : w ≤ 4) (zs : Zs h w s) {z : List Nat × List Nat} (hz : z ∈ tws h w s) : z.1 ∈ tR h w s ∧ ∀ j ∈ z.2, j ∈ told w s z.1 := by
  obtain ⟨⟨h1, h2, h3⟩, h4⟩ := tws_mem.mp hz
  have sub : ∀ j ∈ z.2, j ∈ told w s z.1 := fun j hj => List.mem_filter.mpr ⟨List.mem_range.mpr ((lots_in w (le4 hw) _ h2).1 j hj), List.all_eq_true.mpr fun i hi => tw_iff.mp h3 i hi j hj⟩
  refine ⟨tR_mem.mpr ⟨h1, ?_⟩, sub⟩
  have e1 := phi_cnt hh zs h1
  have e2 : z.2.length ≤ (told w s z.1).length := by
    rw [← cn_lots hw h2, ← cn_lots hw (told_lots hw z.1)]
    exact cn_mono fun k _ hk => List.contains_iff_mem.mpr (sub k (List.contains_iff_mem.mp hk))
  have e3 : gR h w s ≤ phi h w s z.1 := mnN_le _ (List.mem_map.mpr ⟨_, h1, rfl⟩)
  rw [gR_nu hh zs.pm] at e3 ⊢
  rw [lst_nu hh hw zs] at h4
  unfold cnt at e1 h4
  have e4 : phi h w s z.1 = (h - z.1.length) + (w - (told w s z.1).length) := e1
  omega
theorem t_rAll (hh : h ≤ 4) (hw : w ≤ 4) (zs : Zs h w s) : rAll h (tws h w s) = tRows h w s := by
  unfold rAll tRows
  refine List.filter_congr fun k _ => Bool.eq_iff_iff.mpr ⟨fun z => List.all_eq_true.mpr fun R hR => ?_, fun z => List.all_eq_true.mpr fun y hy => ?_⟩
  · exact List.all_eq_true.mp z _ (tws_A hh hw zs hR)
  · exact List.all_eq_true.mp z _ (tws_B hh hw zs hy).1
theorem t_cAny (hh : h ≤ 4) (hw : w ≤ 4) (zs : Zs h w s) : cAny w (tws h w s) = told w s (tRows h w s) := by
  unfold cAny
  show _ = (List.range w).filter fun j => (tRows h w s).all fun k => (s k j).isSome
  refine List.filter_congr fun k hk => Bool.eq_iff_iff.mpr ⟨fun z => List.all_eq_true.mpr fun i hi => ?_, fun z => List.any_eq_true.mpr ?_⟩
  · obtain ⟨y, hy, hc⟩ := List.any_eq_true.mp z
    obtain ⟨b1, b2⟩ := tws_B hh hw zs hy
    have hi2 := List.all_eq_true.mp (List.mem_filter.mp hi).2 _ b1
    exact told_some i (List.contains_iff_mem.mp hi2) k (b2 k (List.contains_iff_mem.mp hc))
  · exact ⟨_, tws_A hh hw zs (tRows_t hh zs.pm), List.contains_iff_mem.mpr (List.mem_filter.mpr ⟨hk, z⟩)⟩
theorem tws_sw (hh : h ≤ 4) (hw : w ≤ 4) (zs : Zs h w s) {z : List Nat × List Nat} : z ∈ tws h w s ↔ (z.2, z.1) ∈ tws w h (tr s) := by
  rw [tws_mem, tws_mem, lst_nu hh hw zs, lst_nu hw hh zs.tr]
  have e1 : nu w h (sup (tr s)) = nu h w (sup s) := nu_tr (a := sup s)
  have e2 : cnt w h (z.2, z.1) = cnt h w z := Nat.add_comm _ _
  rw [e1, e2, tw_iff, tw_iff]
  exact ⟨fun ⟨⟨a, b, c⟩, d⟩ => ⟨⟨b, a, fun j hj i hi => c i hi j hj⟩, d⟩, fun ⟨⟨a, b, c⟩, d⟩ => ⟨⟨b, a, fun j hj i hi => c i hi j hj⟩, d⟩⟩
theorem t_rAny (hh : h ≤ 4) (hw : w ≤ 4) (zs : Zs h w s) : rAny h (tws h w s) = told h (tr s) (tRows w h (tr s)) := by
  rw [← t_cAny hw hh zs.tr]
  unfold rAny cAny
  refine List.filter_congr fun k _ => Bool.eq_iff_iff.mpr ⟨fun z => ?_, fun z => ?_⟩
  · obtain ⟨y, hy, hc⟩ := List.any_eq_true.mp z
    exact List.any_eq_true.mpr ⟨_, (tws_sw hh hw zs).mp hy, hc⟩
  · obtain ⟨y, hy, hc⟩ := List.any_eq_true.mp z
    exact List.any_eq_true.mpr ⟨(y.2, y.1), (tws_sw hh hw zs).mpr hy, hc⟩
theorem t_cAll (hh : h ≤ 4) (hw : w ≤ 4) (zs : Zs h w s) : cAll w (tws h w s) = tRows w h (tr s) := by
  rw [← t_rAll hw hh zs.tr]
  unfold rAll cAll
  refine List.filter_congr fun k _ => Bool.eq_iff_iff.mpr ⟨fun z => List.all_eq_true.mpr fun y hy => ?_, fun z => List.all_eq_true.mpr fun y hy => ?_⟩
  · exact List.all_eq_true.mp z (y.2, y.1) ((tws_sw hh hw zs).mpr hy)
  · exact List.all_eq_true.mp z _ ((tws_sw hh hw zs).mp hy)
/-! needed -/
theorem rnd_rnl (h0 : 0 < h) (hh : h ≤ 4) (hw : w ≤ 4) (zs : Zs h w s) (g : Nat) : rnd h w s g = rnl h w s g := by
  unfold rnd rnl
  refine List.filter_congr fun r _ => ?_
  have e : rwo h w s r = mp (h - 1) w (delR s r) := by
    unfold rwo
    by_cases h1 : h = 1
    · rw [if_pos h1, h1]
      rfl
    · rw [if_neg h1, gr_nu (by omega) hw zs.del.pm, mp_nu zs.del]
  rw [e]
theorem plc_pll (hh : h ≤ 4) (hw : w ≤ 4) (zs : Zs h w s) (g : Nat) : plc h w s g = pll h w s g := by
  unfold plc pll
  refine List.filter_congr fun z _ => ?_
  rw [gr_nu hh hw (zs.put0 _ _).pm, mp_nu (zs.put0 _ _)]
end
end PV
end
section -- G5
/-! The best filling; the beside. -/
namespace PV
/-- the number of pairs is g, each one is needed -/
def Ess (h w g : Nat) (s : Nat → Nat → Option Bool) : Prop := nu h w (sup s) = g ∧ ∀ i j, i < h → j < w → s i j = some true → nu h w (rm (sup s) i j) < g
section
variable {h w g : Nat} {s : Nat → Nat → Option Bool}
theorem sup_one {i j : Nat} (e : s i j = some true) : sup s i j = true := by
  unfold sup
  rw [e]
  rfl
theorem rm_tr (a : Nat → Nat → Bool) (i j : Nat) : nu w h (rm (fun j i => a i j) j i) = nu h w (rm a i j) := by
  rw [← nu_tr (a := rm a i j)]
  refine nu_congr fun y x _ _ => ?_
  unfold rm
  rw [Bool.and_comm (y == j)]
theorem Ess.pm (E : Ess h w g s) : Pm h w s := by
  obtain ⟨e, H⟩ := E
  intro i j i' j' hi hi' hj hj' a b
  have n1 := H i j hi hj a
  have n2 := H i' j' hi' hj' b
  constructor
  · rintro rfl
    refine Classical.byContradiction fun ne => nu_two (a := sup s) hi hj hj' ne (sup_one a) (sup_one b) (by omega) (by omega)
  · rintro rfl
    have t1 := rm_tr (h := h) (w := w) (sup s) i j
    have t2 := rm_tr (h := h) (w := w) (sup s) i' j
    have t3 : nu w h (fun j i => sup s i j) = nu h w (sup s) := nu_tr
    refine Classical.byContradiction fun ne => nu_two (h := w) (w := h) (a := fun j i => sup s i j) (r := j) (c := i) (c' := i') hj hi hi' ne (sup_one a) (sup_one b) ?_ ?_
    · rw [t1, t3]; omega
    · rw [t2, t3]; omega
theorem sup_put0 (r c : Nat) : sup (put s r c (some false)) = rm (sup s) r c := by
  funext i j
  unfold sup
  rw [put_eq]
  by_cases e : i = r ∧ j = c
  · rw [if_pos e, e.1, e.2, rm_at]
    rfl
  · rw [if_neg e, rm_ne e]
theorem sup_put1 {r c : Nat} (hs : sup s r c = true) : sup (put s r c (some true)) = sup s := by
  funext i j
  unfold sup at hs ⊢
  rw [put_eq]
  by_cases e : i = r ∧ j = c
  · rw [if_pos e, e.1, e.2, hs]
    rfl
  · rw [if_neg e]
theorem rm_rm {a : Nat → Nat → Bool} {r c i j x y : Nat} (z : rm (rm a r c) i j x y = true) : rm a i j x y = true := by
  unfold rm at *
  simp only [Bool.and_eq_true] at z ⊢
  exact ⟨z.1.1, z.2⟩
theorem Ess.step (hh : h ≤ 4) (hw : w ≤ 4) (E : Ess h w g s) (z : Nat × Nat) : Ess h w g (bst h w g s z) := by
  obtain ⟨r, c⟩ := z
  have pm := E.pm
  obtain ⟨e, H⟩ := E
  have eg : gr h w (put s r c (some false)) = nu h w (rm (sup s) r c) := by rw [gr_nu hh hw (pm.put0 r c), sup_put0]
  have mo : nu h w (rm (sup s) r c) ≤ g := by
    rw [← e]
    exact nu_mono fun _ _ _ _ z => rm_le z
  unfold bst
  show Ess h w g (put s r c (if gr h w (put s r c (some false)) = g then some false else some true))
  rw [eg]
  by_cases hc : nu h w (rm (sup s) r c) = g
  · rw [if_pos hc]
    refine ⟨by rw [sup_put0]; exact hc, fun i j hi hj a => ?_⟩
    rw [put_eq] at a
    split at a
    · cases a
    · have := H i j hi hj a
      rw [sup_put0]
      refine Nat.lt_of_le_of_lt (nu_mono fun x y _ _ z => rm_rm z) this
  · rw [if_neg hc]
    have hs : sup s r c = true := by
      cases q : sup s r c with
      | true => rfl
      | false =>
        refine absurd ?_ hc
        rw [← e]
        refine congrArg _ (funext fun i => funext fun j => ?_)
        by_cases e : i = r ∧ j = c
        · rw [e.1, e.2, rm_at, q]
        · rw [rm_ne e]
    refine ⟨by rw [sup_put1 hs]; exact e, fun i j hi hj a => ?_⟩
    rw [sup_put1 hs]
    rw [put_eq] at a
    by_cases e : i = r ∧ j = c
    · rw [e.1, e.2]
      omega
    · rw [if_neg e] at a
      exact H i j hi hj a
theorem Ess.fold (hh : h ≤ 4) (hw : w ≤ 4) : ∀ (l : List (Nat × Nat)) (s : Nat → Nat → Option Bool), Ess h w g s → Ess h w g (bfl h w g s l)
  | [], _, E => E
  | z :: l, s, E => by
    show Ess h w g (bfl h w g (bst h w g s z) l)
    exact Ess.fold hh hw l _ (E.step hh hw z)
theorem Zs.ess (hh : h ≤ 4) (hw : w ≤ 4) (z : Zs h w s) : Ess h w (gr h w s) s := ⟨(gr_nu hh hw z.pm).symm, fun i j hi hj a => absurd a (z i j hi hj)⟩
theorem bst_ne {z : Nat × Nat} {i j : Nat} (e : (i, j) ≠ z) : bst h w g s z i j = s i j := by
  unfold bst
  rw [put_eq, if_neg]
  intro q
  exact e (by rw [q.1, q.2])
theorem bst_at {z : Nat × Nat} : (bst h w g s z z.1 z.2).isSome = true := by
  unfold bst
  rw [put_eq, if_pos ⟨rfl, rfl⟩]
  split <;> rfl
theorem bfl_some {i j : Nat} : ∀ (l : List (Nat × Nat)) (s : Nat → Nat → Option Bool), (s i j).isSome = true ∨ (i, j) ∈ l → (bfl h w g s l i j).isSome = true
  | [], s, H => H.elim id fun z => nomatch z
  | z :: l, s, H => by
    show (bfl h w g (bst h w g s z) l i j).isSome = true
    refine bfl_some l _ ?_
    by_cases e : (i, j) = z
    · subst e
      exact .inl bst_at
    · rw [bst_ne e]
      exact H.imp id fun q => (List.mem_cons.mp q).resolve_left e
theorem bfl_keep {i j : Nat} : ∀ (l : List (Nat × Nat)) (s : Nat → Nat → Option Bool), (i, j) ∉ l → bfl h w g s l i j = s i j
  | [], s, _ => rfl
  | z :: l, s, H => by
    show bfl h w g (bst h w g s z) l i j = _
    rw [bfl_keep l _ fun q => H (List.mem_cons_of_mem _ q), bst_ne fun q => H (q ▸ List.mem_cons_self)]
/-- best_filling -/
def bf (h w : Nat) (s : Nat → Nat → Option Bool) : Nat → Nat → Option Bool := bfl h w (gr h w s) s (holes h w s)
theorem bf_some {i j : Nat} (hi : i < h) (hj : j < w) : (bf h w s i j).isSome = true := by
  refine bfl_some _ _ ?_
  cases e : s i j with
  | some b => exact .inl rfl
  | none => exact .inr (holes_mem.mpr ⟨hi, hj, e⟩)
theorem bf_keep {i j : Nat} {b : Bool} (e : s i j = some b) : bf h w s i j = some b := by
  unfold bf
  rw [bfl_keep _ _ fun q => ?_, e]
  have := (holes_mem.mp q).2.2
  rw [e] at this
  cases this
theorem bf_ess (hh : h ≤ 4) (hw : w ≤ 4) (z : Zs h w s) : Ess h w (gr h w s) (bf h w s) := Ess.fold hh hw _ _ (z.ess hh hw)
theorem range_lots (hh : h ≤ 4) : List.range h ∈ lots h := by
  have := lots_of hh fun _ => true
  rw [List.filter_eq_self.mpr fun _ _ => rfl] at this
  exact this
theorem bf_ones (hh : h ≤ 4) (hw : w ≤ 4) (z : Zs h w s) : nu h w (sup s) ≤ ones (bf h w s) (List.range h) (List.range w) := by
  have E := bf_ess hh hw z
  have e1 := phi_L hh E.pm (range_lots hh)
  have e2 := (koe (w := w) (a := sup (bf h w s)) (List.range h) List.nodup_range fun _ => false).1 (fun k => (List.range h).contains k)
  have e3 : nu h w (sup (bf h w s)) ≤ phi h w (bf h w s) (List.range h) := by
    rw [e1]
    exact e2
  rw [E.1, gr_nu hh hw z.pm] at e3
  have e4 : told w (bf h w s) (List.range h) = List.range w := List.filter_eq_self.mpr fun j hj => List.all_eq_true.mpr fun i hi => bf_some (List.mem_range.mp hi) (List.mem_range.mp hj)
  unfold phi wb at e3
  rw [e4, List.length_range, List.length_range] at e3
  omega
/-! the beside -/
theorem cn_skip {n k : Nat} {p : Nat → Bool} (hk : k < n) : cn_ n (fun x => p x && !(x == k)) = cn_ (n - 1) (fun j => p (if j < k then j else j + 1)) := by
  have e1 : ∀ (m : Nat) (q : Nat → Bool), cn_ m q = ((List.range m).map q).countP id := fun m q => by
    rw [List.countP_map]
    rfl
  have e2 := list_del (f := fun x => p x && !(x == k)) hk
  rw [e1, e1]
  have e3 : ((List.range n).map fun x => p x && !(x == k)) = ((List.range n).map fun x => p x && !(x == k)).take k ++ false :: ((List.range n).map fun x => p x && !(x == k)).drop (k + 1) := by
    have := List.take_append_drop k ((List.range n).map fun x => p x && !(x == k))
    rw [List.drop_eq_getElem_cons (by rw [List.length_map, List.length_range]; exact hk)] at this
    rw [List.getElem_map, List.getElem_range] at this
    simp only [beq_self_eq_true, Bool.not_true, Bool.and_false] at this
    exact this.symm
  rw [e3, List.countP_append, List.countP_cons_of_neg (by decide), ← List.countP_append, e2]
  congr 1
  refine List.map_congr_left fun j _ => ?_
  by_cases h1 : j < k
  · have h2 : (j == k) = false := beq_eq_false_iff_ne.mpr (by omega)
    rw [if_pos h1, if_pos h1, h2, Bool.not_false, Bool.and_true]
  · have h2 : (j + 1 == k) = false := beq_eq_false_iff_ne.mpr (by omega)
    rw [if_neg h1, if_neg h1, h2, Bool.not_false, Bool.and_true]
/-- a hole of the first row with a full beside -/
theorem full_hole {n : Nat} (n0 : 0 < n) (zs : Zs n n s) (hf : n ≤ nu n n (sup s)) : ∃ k, k < n ∧ s 0 k = none ∧ n - 1 ≤ nu (n - 1) (n - 1) (sup (delRC s 0 k)) := by
  obtain ⟨m, rfl⟩ : ∃ m, n = m + 1 := ⟨n - 1, by omega⟩
  have er : List.range (m + 1) = 0 :: List.range' 1 m := by
    rw [List.range_eq_range', List.range'_succ]
  have hnd : (List.range' 1 m).Nodup := List.nodup_range'
  have hM : nu (m + 1) (m + 1) (sup s) = (List.range (m + 1)).foldl (fun f k => if sup s 0 k && !(fun _ : Nat => false) k then max f (1 + mpL (m + 1) (sup s) (List.range' 1 m) (fun x => (fun _ : Nat => false) x || x == k)) else f) (mpL (m + 1) (sup s) (List.range' 1 m) (fun _ => false)) := by
    unfold nu
    conv => lhs; rw [er]
    rfl
  obtain ⟨_, _, f3⟩ := fold_max (fun k => sup s 0 k && !(fun _ : Nat => false) k) (fun k => 1 + mpL (m + 1) (sup s) (List.range' 1 m) (fun x => (fun _ : Nat => false) x || x == k)) (List.range (m + 1)) (mpL (m + 1) (sup s) (List.range' 1 m) (fun _ => false))
  rw [← hM] at f3
  have hA := (koe (w := m + 1) (a := sup s) (List.range' 1 m) hnd fun _ => false).1 (fun _ => false)
  have hA2 : phL (m + 1) (sup s) (List.range' 1 m) (fun _ => false) (fun _ => false) = m := by
    unfold phL
    have h1 : cn_ (m + 1) (fun k => nb (sup s) (List.range' 1 m) (fun _ => false) k && !(fun _ : Nat => false) k) = 0 := List.countP_eq_zero.mpr fun k _ z => by
      obtain ⟨z1, _⟩ := Bool.and_eq_true_iff.mp z
      obtain ⟨i, _, h1, _⟩ := nb_iff.mp z1
      cases h1
    rw [h1]
    show (List.range' 1 m).countP (fun _ => true) + 0 = m
    rw [Nat.add_zero, List.countP_eq_length.mpr fun _ _ => rfl, List.length_range']
  rcases f3 with f3 | ⟨k, hk, hp, e⟩
  · omega
  · have hk := List.mem_range.mp hk
    obtain ⟨hp, _⟩ := Bool.and_eq_true_iff.mp hp
    refine ⟨k, hk, Option.isNone_iff_eq_none.mp (by rw [← zs.sup (by omega) hk]; exact hp), ?_⟩
    show m ≤ nu m m (sup (delRC s 0 k))
    have e : nu (m + 1) (m + 1) (sup s) = 1 + mpL (m + 1) (sup s) (List.range' 1 m) (fun x => false || x == k) := e
    obtain ⟨R, C, f, hC⟩ := nu_ex m m (sup (delRC s 0 k))
    have h1 := (koe (w := m + 1) (a := sup s) (List.range' 1 m) hnd fun x => false || x == k).1 (fun i => R (i - 1))
    have h2 : phL (m + 1) (sup s) (List.range' 1 m) (fun x => false || x == k) (fun i => R (i - 1)) ≤ ow m m R C := by
      unfold phL ow
      have h3 : (List.range' 1 m).countP (fun i => !R (i - 1)) = cn_ m fun i => !R i := by
        rw [List.range'_eq_map_range, List.countP_map]
        unfold cn_
        refine List.countP_congr fun i _ => ?_
        show (!R (1 + i - 1)) = true ↔ _
        rw [Nat.add_sub_cancel_left]
      rw [h3]
      refine Nat.add_le_add_left ?_ _
      have h4 : cn_ (m + 1) (fun x => nb (sup s) (List.range' 1 m) (fun i => R (i - 1)) x && !(false || x == k)) = cn_ (m + 1) (fun x => nb (sup s) (List.range' 1 m) (fun i => R (i - 1)) x && !(x == k)) := congrArg (cn_ (m + 1)) (funext fun x => by rw [Bool.false_or])
      rw [h4, cn_skip hk]
      show cn_ m _ ≤ _
      refine cn_mono fun j hj z => ?_
      obtain ⟨i, hi, hr, ha⟩ := nb_iff.mp z
      cases hc : C j with
      | false => rfl
      | true =>
        obtain ⟨i1, i2⟩ := List.mem_range'_1.mp hi
        have := f (i - 1) j (by omega) hj hr hc
        have e2 : sup (delRC s 0 k) (i - 1) j = sup s i (if j < k then j else j + 1) := by
          unfold sup delRC delR
          rw [if_neg (by omega), Nat.sub_add_cancel i1]
        rw [e2, ha] at this
        cases this
    omega
/-! the bent filling: a filling of the beside, the row and the column told 0 -/
def shr (r i : Nat) : Nat := if i < r then i else i - 1
def insF (r c : Nat) (t : Nat → Nat → Option Bool) : Nat → Nat → Option Bool := fun i j => if i = r ∨ j = c then some false else t (shr r i) (shr c j)
theorem shr_lt {n r i : Nat} (hi : i < n) (hr : r < n) (ne : i ≠ r) : shr r i < n - 1 := by
  unfold shr
  split <;> omega
theorem shr_inj {r i i' : Nat} (h1 : i ≠ r) (h2 : i' ≠ r) (e : shr r i = shr r i') : i = i' := by
  unfold shr at e
  split at e <;> split at e <;> omega
theorem insF_pm {n r c : Nat} {t : Nat → Nat → Option Bool} (hr : r < n) (hc : c < n) (pm : Pm (n - 1) (n - 1) t) : Pm n n (insF r c t) := by
  have key : ∀ i j, insF r c t i j = some true → i ≠ r ∧ j ≠ c ∧ t (shr r i) (shr c j) = some true := fun i j e => by
    unfold insF at e
    by_cases h1 : i = r ∨ j = c
    · rw [if_pos h1] at e; cases e
    · rw [if_neg h1] at e
      exact ⟨fun z => h1 (.inl z), fun z => h1 (.inr z), e⟩
  intro i j i' j' a b c' d e f
  obtain ⟨e1, e2, e3⟩ := key i j e
  obtain ⟨f1, f2, f3⟩ := key i' j' f
  have := pm _ _ _ _ (shr_lt a hr e1) (shr_lt b hr f1) (shr_lt c' hc e2) (shr_lt d hc f2) e3 f3
  constructor
  · rintro rfl
    exact shr_inj e2 f2 (this.mp rfl)
  · rintro rfl
    exact shr_inj e1 f1 (this.mpr rfl)
theorem insF_some {n r c i j : Nat} {t : Nat → Nat → Option Bool} (hr : r < n) (hc : c < n) (ht : ∀ i j, i < n - 1 → j < n - 1 → (t i j).isSome = true) (hi : i < n) (hj : j < n) : (insF r c t i j).isSome = true := by
  unfold insF
  by_cases h1 : i = r ∨ j = c
  · rw [if_pos h1]; rfl
  · rw [if_neg h1]
    exact ht _ _ (shr_lt hi hr fun z => h1 (.inl z)) (shr_lt hj hc fun z => h1 (.inr z))
theorem delRC_shr {r c i j : Nat} (h1 : i ≠ r) (h2 : j ≠ c) : delRC s r c (shr r i) (shr c j) = s i j := by
  have e : ∀ r i : Nat, i ≠ r → (if shr r i < r then shr r i else shr r i + 1) = i := fun r i ne => by
    unfold shr
    by_cases q : i < r
    · rw [if_pos q, if_pos q]
    · rw [if_neg q, if_neg (by omega)]
      omega
  unfold delRC delR
  have e1 := e r i h1
  have e2 := e c j h2
  rw [e2]
  split at e1 <;> rename_i q
  · rw [if_pos q, e1]
  · rw [if_neg q, e1]
theorem insF_ext {n r c i j : Nat} {b : Bool} (zs : Zs n n s) (hi : i < n) (hj : j < n) (e : s i j = some b) : insF r c (bf (n - 1) (n - 1) (delRC s r c)) i j = some b := by
  unfold insF
  by_cases h1 : i = r ∨ j = c
  · rw [if_pos h1]
    have := zs i j hi hj
    cases b with
    | false => rfl
    | true => exact absurd e this
  · rw [if_neg h1]
    refine bf_keep ?_
    rw [delRC_shr (fun z => h1 (.inl z)) fun z => h1 (.inr z)]
    exact e
theorem insF_ones {n r c : Nat} {t : Nat → Nat → Option Bool} (hr : r < n) (hc : c < n) (pm : Pm (n - 1) (n - 1) t) : ones (insF r c t) (List.range n) (List.range n) < n := by
  rw [ones_one (insF_pm hr hc pm) (fun i hi => List.mem_range.mp hi) (fun i hi => List.mem_range.mp hi) List.nodup_range]
  have h1 := cn_lt (w := n) (p := fun j => (List.range n).any fun i => one? (insF r c t i j)) (q := fun _ => true) (fun _ _ _ => rfl) (k := c) hc rfl (by
    refine List.any_eq_false.mpr fun i _ z => ?_
    have := one_iff.mp z
    unfold insF at this
    rw [if_pos (.inr rfl)] at this
    cases this)
  have h2 : cn_ n (fun _ => true) = n := by
    unfold cn_
    rw [List.countP_eq_length.mpr fun _ _ => rfl, List.length_range]
  unfold cn_ at *
  omega
theorem zs_delRC (zs : Zs h w s) {r c : Nat} : Zs (h - 1) (w - 1) (delRC s r c) := fun i j a b e => by
  have := (zs.del (r := r)) i (if j < c then j else j + 1) a (by split <;> omega)
  exact this e
theorem zer_zs (zs : Zs h w s) : Zs h w (zer s) := fun i j a b e => by
  unfold zer at e
  split at e
  · cases e
  · exact zs i j a b e
theorem zer_some {i j : Nat} : (zer s i j).isSome = true := by
  unfold zer
  cases s i j <;> rfl
theorem zer_keep {i j : Nat} {b : Bool} (e : s i j = some b) : zer s i j = some b := by
  unfold zer
  rw [e]
  rfl
end
end PV
end
section -- M20
namespace PV
open PySem L2
theorem ev_isi {c : Bool → Nat → List D → Option D} {ρ : Rho} {a : E} {t : Ty} {d : D} (h : evE c a ρ = some d) (hd : noDict d = true) : evE c (.isi a t) ρ = some (.bool (tyIs d t)) := by
  simp only [evE, h, Option.bind_some, hd, if_true]
theorem cmp_nil {l : List D} {k : Nat} (h : Okd k (.tuple l)) (hk : k ≤ 64) : cmpF .eq (.tuple l) (.tuple []) = some (.bool l.isEmpty) := by
  show (if shp (.tuple l) && shp (.tuple []) then some (PyData.bool (PyData.eqv (.tuple l) (.tuple []))) else none) = _
  rw [h.shp hk, okd_nil.shp (by decide), Bool.and_self, if_pos rfl, eqv_nil]
theorem cmp_nilL {l : List D} {k : Nat} (h : Okd k (.list l)) (hk : k ≤ 64) : cmpF .ne (.list l) (.list []) = some (.bool !l.isEmpty) := by
  have h2 : Okd 1 (.list []) := okd_lst fun _ z => nomatch z
  show (if shp (.list l) && shp (.list []) then some (PyData.bool (!PyData.eqv (.list l) (.list []))) else none) = _
  rw [h.shp hk, h2.shp (by decide), Bool.and_self, if_pos rfl]
  congr 2
  cases l <;> rfl
theorem okd_row (w : Nat) (r : Nat → Option Bool) : Okd 2 (rowE w r) := okd_tup (okd_map fun _ _ => okd_c _)
theorem pairs_two {α : Type} (f g : α → D) : ∀ l : List α, pairs (l.map f) (l.map g) = l.map fun x => .tuple [f x, g x]
  | [] => rfl
  | x :: l => by rw [List.map_cons, List.map_cons, pairs, pairs_two f g l]; rfl
theorem c_eq (b : Bool) : cmpF .eq (cE (some b)) (cE (some b)) = some (.bool true) ∧ cmpF .ne (cE (some b)) (cE (some b)) = some (.bool false) := by
  cases b <;> exact ⟨rfl, rfl⟩
section
variable {n h w : Nat} {s t : Nat → Nat → Option Bool}
theorem e2 {l : List D} {k : Nat} (hn : 4 ≤ n) : runF tab n 2 [.tuple l, nD k] = some (.bool (decide (l.length = k))) := by
  refine run_of hn rfl rfl (ex_ret (ev_and (x := true) (y := decide (l.length = k)) rfl fun _ => ?_))
  exact ev_cmp (x := nD l.length) (y := nD k) (ev_len rfl rfl) rfl (eq_nD _ _)
theorem e25 (hn : 12 ≤ n) (h0 : 0 < h) (hh : h ≤ 4) (w0 : 0 < w) (hw : w ≤ 4) : runF tab n 25 [shE h w t] = some (.bool true) := by
  have x0 : evE (cn n) (.ix (.var 0) (.cI 0)) [.val (shE h w t), .un, .un] = some (rowE w (t 0)) := ev_ix rfl rfl (ix_sh h0)
  have c1 : evE (cn n) (.or (.not (.isi (.var 0) .tuple)) (.or (.cmp .eq (.var 0) (.tup [])) (.or (.not (.isi (.ix (.var 0) (.cI 0)) .tuple)) (.cmp .eq (.ix (.var 0) (.cI 0)) (.tup []))))) [.val (shE h w t), .un, .un] = some (.bool false) := by
    refine ev_or (x := false) (y := false) (ev_not (x := true) (ev_isi (d := shE h w t) rfl rfl)) fun _ => ev_or (x := false) (y := false) ?_ fun _ => ev_or (x := false) (y := false) (ev_not (x := true) (ev_isi x0 rfl)) fun _ => ?_
    · refine Eq.trans (e_eqnil (h := h) (w := w) (s := t) rfl) ?_
      rw [decide_eq_false (by omega)]
    · refine ev_cmp (x := rowE w (t 0)) (y := .tuple []) (by simp only [bor]; exact x0) rfl ?_
      unfold rowE
      rw [cmp_nil (okd_row w (t 0)) (by decide)]
      cases w with
      | zero => omega
      | succ w => rw [List.range_succ_eq_map]; rfl
  have c2 : evE (cn n) (.f1 .all (.lc (.call 2 [(.var 1), (.f1 .len (.ix (.var 0) (.cI 0)))]) (.one 1) (.var 0) none [("row", 1)])) [.val (shE h w t), .un, .un] = some (.bool true) := by
    refine Eq.trans (ev_all (l := List.range h) (p := fun _ => true) ?_) ?_
    · refine ev_lc0 (List.range h) (fun i => rowE w (t i)) (fun _ => .bool true) (fun i => [.val (shE h w t), .val (rowE w (t i)), .un]) rfl (fun _ _ => rfl) (fun i _ => ?_) (by rw [List.length_range]; omega)
      refine Eq.trans (ev_call (ds := [rowE w (t i), nD w]) (evL_cons rfl rfl (evL_cons rfl (ev_len (ev_ix rfl rfl (ix_sh h0)) len_row) rfl)) (e2 (n := n - 1) (by omega))) ?_
      rw [List.length_map, List.length_range, decide_eq_true rfl]
    · rw [List.all_eq_true.mpr fun _ _ => rfl]
  have c3 : evE (cn n) (.f1 .all (.lc (.f1 .all (.lc (.or (.isN false (.var 2)) (.call 3 [(.var 2)])) (.one 2) (.var 1) none [("part", 2)])) (.one 1) (.var 0) none [("row", 1)])) [.val (shE h w t), .un, .un] = some (.bool true) := by
    refine Eq.trans (ev_all (l := List.range h) (p := fun _ => true) ?_) ?_
    · refine ev_lc0 (List.range h) (fun i => rowE w (t i)) (fun _ => .bool true) (fun i => [.val (shE h w t), .val (rowE w (t i)), .un]) rfl (fun _ _ => rfl) (fun i _ => ?_) (by rw [List.length_range]; omega)
      refine Eq.trans (ev_all (l := List.range w) (p := fun _ => true) ?_) ?_
      · refine ev_lc0 (List.range w) (fun j => cE (t i j)) (fun _ => .bool true) (fun j => [.val (shE h w t), .val (rowE w (t i)), .val (cE (t i j))]) rfl (fun _ _ => rfl) (fun j _ => ?_) (by rw [List.length_range]; omega)
        cases e : t i j with
        | none => exact ev_or (x := true) (y := true) rfl fun z => nomatch z
        | some b => exact ev_or (x := false) (y := true) (by cases b <;> rfl) fun _ => ev_call (ds := [oc b]) rfl (e3 (n := n - 1) (by omega))
      · rw [List.all_eq_true.mpr fun _ _ => rfl]
    · rw [List.all_eq_true.mpr fun _ _ => rfl]
  exact run_of (by omega) rfl rfl (ex_nx (s_iteF c1 rfl) (ex_nx (s_iteF (ev_not c2) rfl) (ex_ret c3)))
/-- t fills s -/
def Fil (h w : Nat) (s t : Nat → Nat → Option Bool) : Prop := (∀ i j, i < h → j < w → (t i j).isSome = true) ∧ ∀ i j b, i < h → j < w → s i j = some b → t i j = some b
theorem allP_len (h w : Nat) : (allP h w).length = h * w := by
  unfold allP
  have e : ∀ l : List Nat, (l.flatMap fun i => (List.range w).map fun j => (i, j)).length = l.length * w := by
    intro l
    induction l with
    | nil => simp
    | cons x l ih =>
      rw [List.flatMap_cons, List.length_append, List.length_cons, List.length_map, List.length_range, ih]
      have e : (l.length + 1) * w = l.length * w + w := Nat.succ_mul _ _
      omega
  rw [e, List.length_range]
theorem e40 (hn : 13 ≤ n) (h0 : 0 < h) (hh : h ≤ 4) (w0 : 0 < w) (hw : w ≤ 4) (F : Fil h w s t) : runF tab n 40 [shE h w s, shE h w t] = some (.bool true) := by
  have hml : h * w ≤ 4 * 4 := Nat.mul_le_mul hh hw
  have c1 : evE (cn n) (.or (.not (.call 2 [(.var 1), (.f1 .len (.var 0))])) (.or (.not (.call 25 [(.var 1)])) (.cmp .ne (.f1 .len (.ix (.var 1) (.cI 0))) (.f1 .len (.ix (.var 0) (.cI 0)))))) [.val (shE h w s), .val (shE h w t), .un, .un, .un, .un, .un] = some (.bool false) := by
    refine ev_or (x := false) (y := false) (ev_not (x := true) ?_) fun _ => ev_or (x := false) (y := false) (ev_not (x := true) (ev_call (ds := [shE h w t]) rfl (e25 (n := n - 1) (by omega) h0 hh w0 hw))) fun _ => ?_
    · refine Eq.trans (ev_call (ds := [shE h w t, nD h]) (evL_cons rfl rfl (evL_cons rfl (ev_len rfl len_sh) rfl)) (e2 (n := n - 1) (by omega))) ?_
      rw [List.length_map, List.length_range, decide_eq_true rfl]
    · refine Eq.trans (ev_cmp (x := nD w) (y := nD w) (ev_len (ev_ix rfl rfl (ix_sh h0)) len_row) (ev_len (ev_ix rfl rfl (ix_sh h0)) len_row) (ne_nD _ _)) ?_
      rw [decide_eq_false (by omega)]
  have em : (List.range h).flatMap (fun i => (List.range w).map fun j => PyData.tuple [cE (s i j), cE (t i j)]) = (allP h w).map fun z => .tuple [cE (s z.1 z.2), cE (t z.1 z.2)] := by
    unfold allP
    rw [List.map_flatMap]
    congr 1
    funext i
    rw [List.map_map]
    rfl
  have c2 : evE (cn n) (.lc2 (.tup [(.var 5), (.var 6)]) (.tup [(.one 3), (.one 4)]) (.zip (.var 0) (.var 1)) (.tup [(.one 5), (.one 6)]) (.zip (.var 3) (.var 4)) none [("own", 3), ("line", 4), ("near", 5), ("far", 6)] [5, 6]) [.val (shE h w s), .val (shE h w t), .un, .un, .un, .un, .un] = some (.list ((allP h w).map fun z => .tuple [cE (s z.1 z.2), cE (t z.1 z.2)])) := by
    rw [← em]
    refine ev_lc2n (List.range h) (fun _ => List.range w) (fun i => .tuple [rowE w (s i), rowE w (t i)]) (fun i j => .tuple [cE (s i j), cE (t i j)]) (fun i j => .tuple [cE (s i j), cE (t i j)]) (fun i => [.val (shE h w s), .val (shE h w t), .un, .val (rowE w (s i)), .val (rowE w (t i)), .un, .un]) (fun i j => [.val (shE h w s), .val (shE h w t), .un, .val (rowE w (s i)), .val (rowE w (t i)), .val (cE (s i j)), .val (cE (t i j))]) ?_ (fun _ _ => rfl) (fun i _ => ?_) (fun _ _ _ _ => rfl) (fun _ _ _ _ => rfl) ?_
    · show some (pairs ((List.range h).map fun i => rowE w (s i)) ((List.range h).map fun i => rowE w (t i))) = _
      rw [pairs_two]
    · show some (pairs ((List.range w).map fun j => cE (s i j)) ((List.range w).map fun j => cE (t i j))) = _
      rw [pairs_two]
    · rw [em, List.length_map, allP_len]
      omega
  refine run_of (by omega) rfl rfl (ex_nx (s_iteF c1 rfl) (ex_nx (s_asg c2 rfl) (ex_ret ?_)))
  refine Eq.trans (ev_all (l := allP h w) (p := fun _ => true) ?_) ?_
  · refine ev_lc0 (allP h w) (fun z => .tuple [cE (s z.1 z.2), cE (t z.1 z.2)]) (fun _ => .bool true) (fun z => [.val (shE h w s), .val (shE h w t), .val (.list ((allP h w).map fun z => .tuple [cE (s z.1 z.2), cE (t z.1 z.2)])), .un, .un, .val (cE (s z.1 z.2)), .val (cE (t z.1 z.2))]) rfl (fun _ _ => rfl) (fun z hz => ?_) (by rw [allP_len]; omega)
    obtain ⟨i, hi, hz⟩ := List.mem_flatMap.mp hz
    obtain ⟨j, hj, rfl⟩ := List.mem_map.mp hz
    have hi := List.mem_range.mp hi
    have hj := List.mem_range.mp hj
    refine ev_and (x := true) (y := true) ?_ fun _ => ?_
    · refine Eq.trans (ev_isN (d := cE (t i j)) rfl) ?_
      rw [isN_c]
      have := F.1 i j hi hj
      cases e : t i j with
      | none => rw [e] at this; cases this
      | some b => rfl
    · cases e : s i j with
      | none => exact ev_or (x := true) (y := true) (by rfl) fun z => nomatch z
      | some b =>
        refine ev_or (x := false) (y := true) (by rfl) fun _ => ?_
        refine ev_cmp (x := cE (some b)) (y := cE (t i j)) rfl rfl ?_
        rw [F.2 i j b hi hj e]
        exact (c_eq b).1
  · rw [List.all_eq_true.mpr fun _ _ => rfl]
theorem e56 {r : Nat → Option Bool} (hn : 11 ≤ n) (hw : w ≤ 4) (hr : ∀ j, j < w → (r j).isSome = true) : runF tab n 56 [rowE w r, nD w] = some (.bool true) := by
  refine run_of (by omega) rfl rfl (ex_ret (ev_and (x := true) (y := true) rfl fun _ => ev_and (x := true) (y := true) ?_ fun _ => ?_))
  · refine Eq.trans (ev_cmp (x := nD w) (y := nD w) (ev_len rfl len_row) rfl (eq_nD _ _)) ?_
    rw [decide_eq_true rfl]
  · refine Eq.trans (ev_all (l := List.range w) (p := fun _ => true) ?_) ?_
    · refine ev_lc0 (List.range w) (fun j => cE (r j)) (fun _ => .bool true) (fun j => [.val (rowE w r), .val (nD w), .val (cE (r j))]) rfl (fun _ _ => rfl) (fun j hj => ?_) (by rw [List.length_range]; omega)
      have := hr j (List.mem_range.mp hj)
      cases e : r j with
      | none => rw [e] at this; cases this
      | some b => exact ev_call (ds := [oc b]) rfl (e55 (n := n - 1) (by omega))
    · rw [List.all_eq_true.mpr fun _ _ => rfl]
theorem e68 (hn : 12 ≤ n) (hh : h ≤ 4) (hw : w ≤ 4) (F : Fil h w s t) : runF tab n 68 [shE h w s, shE h w t] = some (.bool true) := by
  have c1 : evE (cn n) (.or (.not (.isi (.var 1) .tuple)) (.cmp .ne (.f1 .len (.var 1)) (.f1 .len (.var 0)))) [.val (shE h w s), .val (shE h w t), .un, .un, .un, .un] = some (.bool false) := by
    refine ev_or (x := false) (y := false) rfl fun _ => ?_
    refine Eq.trans (ev_cmp (x := nD h) (y := nD h) (ev_len rfl len_sh) (ev_len rfl len_sh) (ne_nD _ _)) ?_
    rw [decide_eq_false (by omega)]
  have g2 : evE (cn n) (.zip (.var 0) (.var 1)) [.val (shE h w s), .val (shE h w t), .un, .un, .un, .un] = some (.list ((List.range h).map fun i => .tuple [rowE w (s i), rowE w (t i)])) := by
    show some (PyData.list (pairs ((List.range h).map fun i => rowE w (s i)) ((List.range h).map fun i => rowE w (t i)))) = _
    rw [pairs_two]
  obtain ⟨ρ', e, x, y, hρ⟩ := loop_inv (f := fun d ρ => (bindT (.tup [(.one 2), (.one 3)]) d ρ).bind fun ρ' => exL (cn n) [.ite (.not (.call 56 [(.var 3), (.f1 .len (.var 2))])) [.ret (.cB false)] [], .ite (.cmp .ne (.lc (.cI 1) (.tup [(.one 4), (.one 5)]) (.zip (.var 2) (.var 3)) (some (.and (.isN true (.var 4)) (.cmp .ne (.var 4) (.var 5)))) [("_law_near_so", 4), ("_law_far_so", 5)]) (.lst [])) [.ret (.cB false)] []] ρ') (fun i => PyData.tuple [rowE w (s i), rowE w (t i)])
    (fun pre ρ => ∃ x y : Option D, ρ = [.val (shE h w s), .val (shE h w t), cel x, cel y, .un, .un]) (List.range h) [] [.val (shE h w s), .val (shE h w t), .un, .un, .un, .un] (fun pre i post ρ eq ⟨x, y, hρ⟩ => by
      subst hρ
      have hi : i < h := List.mem_range.mp (by rw [show List.range h = pre ++ i :: post from eq]; exact List.mem_append_right _ List.mem_cons_self)
      have eb : bindT (.tup [(.one 2), (.one 3)]) (PyData.tuple [rowE w (s i), rowE w (t i)]) [.val (shE h w s), .val (shE h w t), cel x, cel y, .un, .un] = some [.val (shE h w s), .val (shE h w t), .val (rowE w (s i)), .val (rowE w (t i)), .un, .un] := by
        cases x <;> cases y <;> rfl
      refine ⟨[.val (shE h w s), .val (shE h w t), .val (rowE w (s i)), .val (rowE w (t i)), .un, .un], ?_, ⟨some (rowE w (s i)), some (rowE w (t i)), rfl⟩⟩
      simp only [eb, Option.bind_some]
      have q1 : evE (cn n) (.call 56 [(.var 3), (.f1 .len (.var 2))]) [.val (shE h w s), .val (shE h w t), .val (rowE w (s i)), .val (rowE w (t i)), .un, .un] = some (.bool true) := ev_call (ds := [rowE w (t i), nD w]) (evL_cons rfl rfl (evL_cons rfl (ev_len rfl len_row) rfl)) (e56 (n := n - 1) (by omega) hw fun j hj => F.1 i j hi hj)
      have q2 : evE (cn n) (.lc (.cI 1) (.tup [(.one 4), (.one 5)]) (.zip (.var 2) (.var 3)) (some (.and (.isN true (.var 4)) (.cmp .ne (.var 4) (.var 5)))) [("_law_near_so", 4), ("_law_far_so", 5)]) [.val (shE h w s), .val (shE h w t), .val (rowE w (s i)), .val (rowE w (t i)), .un, .un] = some (.list []) := by
        refine Eq.trans (ev_lc1 (List.range w) (fun j => .tuple [cE (s i j), cE (t i j)]) (fun _ => .int 1) (fun _ => false) (fun j => [.val (shE h w s), .val (shE h w t), .val (rowE w (s i)), .val (rowE w (t i)), .val (cE (s i j)), .val (cE (t i j))]) ?_ (fun _ _ => rfl) (fun j hj => ?_) (fun _ _ z => absurd z Bool.false_ne_true) (by rw [List.length_range]; omega)) ?_
        · show some (pairs ((List.range w).map fun j => cE (s i j)) ((List.range w).map fun j => cE (t i j))) = _
          rw [pairs_two]
        · cases e : s i j with
          | none => exact ev_and (x := false) (y := true) (by rfl) fun z => nomatch z
          | some b =>
            refine ev_and (x := true) (y := false) (by rfl) fun _ => ?_
            refine ev_cmp (x := cE (some b)) (y := cE (t i j)) rfl rfl ?_
            rw [F.2 i j b hi (List.mem_range.mp hj) e]
            exact (c_eq b).2
        · rw [List.filter_eq_nil_iff.mpr fun _ _ => Bool.false_ne_true]
          rfl
      exact ex_nx (s_iteF (ev_not q1) rfl) (ex_nx (s_iteF (ev_cmp q2 rfl (cmp_nilL (k := 1) (okd_lst fun _ z => nomatch z) (by decide))) rfl) rfl)) ⟨none, none, rfl⟩
  subst hρ
  exact run_of (by omega) rfl rfl (ex_nx (s_iteF c1 rfl) (ex_nx (s_for g2 rfl e) (ex_ret rfl)))
end
end PV
end
section -- M21
namespace PV
open PySem L2
def isF (d : Option D) : Bool := match d with
  | some (.bool b) => !b
  | _ => false
theorem isF_eq {d : Option D} (h : isF d = true) : d = some (.bool false) := by
  unfold isF at h
  split at h
  · rename_i b
    cases b with
    | false => rfl
    | true => cases h
  · cases h
theorem e7_0 (n : Nat) : ((lots 4).all fun R => isB (runF tab (n + 10) 7 [nT R])) = true := by kernel_rfl
theorem e7 {n : Nat} {R : List Nat} (hn : 10 ≤ n) (hR : R ∈ lots 4) : runF tab n 7 [nT R] = some (.bool true) := by
  obtain ⟨m, rfl⟩ : ∃ m, n = m + 10 := ⟨n - 10, by omega⟩
  exact isB_eq (List.all_eq_true.mp (e7_0 m) R hR)
theorem last_0 : ([1,2,3,4].all fun h => (lots h).all fun R => isF ((sliceF (nT R) (some (-1)) none).bind fun x => cmpF .ge x (.tuple [nD h]))) = true := by kernel_rfl
theorem pos4 {h : Nat} (h0 : 0 < h) (hh : h ≤ 4) : h ∈ [1,2,3,4] := by
  have : h = 1 ∨ h = 2 ∨ h = 3 ∨ h = 4 := by omega
  rcases this with rfl | rfl | rfl | rfl <;> decide
theorem last_e {h : Nat} (h0 : 0 < h) (hh : h ≤ 4) {R : List Nat} (hR : R ∈ lots h) : ∃ x, sliceF (nT R) (some (-1)) none = some x ∧ cmpF .ge x (.tuple [nD h]) = some (.bool false) :=
  Option.bind_eq_some_iff.mp (isF_eq (List.all_eq_true.mp (List.all_eq_true.mp last_0 h (pos4 h0 hh)) R hR))
def b69 : List S := [.ite (.or (.not (.isi (.var 2) .tuple)) (.cmp .ne (.lc (.cI 1) (.one 4) (.var 2) (some (.or (.not (.isi (.var 4) .int)) (.isi (.var 4) .bool))) [("_law_bit", 4)]) (.lst []))) [.ret (.cB false)] [], .ite (.or (.cmp .ne (.lc (.cI 1) (.one 4) (.var 2) (some (.or (.cmp .lt (.var 4) (.cI 0)) (.cmp .ge (.var 4) (.var 3)))) [("_law_bit", 4)]) (.lst [])) (.cmp .ne (.f1 .list (.var 2)) (.srt .setL (.var 2)))) [.ret (.cB false)] []]
theorem b69_0 (n : Nat) (X Y : D) : ∀ h ∈ [1,2,3,4], ((lots h).map fun R => exL (cn (n + 8)) b69 [.val X, .val Y, .val (nT R), .val (nD h), .un]) = (lots h).map fun R => some (.nx [.val X, .val Y, .val (nT R), .val (nD h), .un]) := by
  simp only [List.forall_mem_cons]
  refine ⟨?_, ?_, ?_, ?_, (fun _ z => nomatch z)⟩ <;> kernel_rfl
section
variable {n h w : Nat} {s t : Nat → Nat → Option Bool}
theorem e41 {R C : List Nat} (hn : 11 ≤ n) (h0 : 0 < h) (hh : h ≤ 4) (w0 : 0 < w) (hw : w ≤ 4) (hR : R ∈ lots h) (hC : C ∈ lots w) (ht : ∀ i ∈ R, ∀ j ∈ C, (s i j).isSome = true) : runF tab n 41 [shE h w s, .tuple [nT R, nT C]] = some (.bool true) := by
  obtain ⟨r1, r2, r3, _⟩ := lots_in h (le4 hh) R hR
  obtain ⟨c1, c2, c3, _⟩ := lots_in w (le4 hw) C hC
  have g1 : evE (cn n) (.or (.not (.call 2 [(.var 1), (.cI 2)])) (.not (.f1 .all (.lc (.call 7 [(.var 2)]) (.one 2) (.var 1) none [("part", 2)])))) [.val (shE h w s), .val (.tuple [nT R, nT C]), .un, .un, .un, .un] = some (.bool false) := by
    refine ev_or (x := false) (y := false) (ev_not (x := true) (ev_call (ds := [.tuple [nT R, nT C], nD 2]) rfl (e2 (n := n - 1) (by omega)))) fun _ => ev_not (x := true) ?_
    refine Eq.trans (ev_all (l := [R, C]) (p := fun _ => true) ?_) rfl
    refine ev_lc0 [R, C] nT (fun _ => .bool true) (fun z => [.val (shE h w s), .val (.tuple [nT R, nT C]), .val (nT z), .un, .un, .un]) rfl (fun _ _ => rfl) (fun z hz => ev_call (ds := [nT z]) rfl (e7 (n := n - 1) (by omega) ?_)) (show 2 ≤ 5000 by decide)
    rcases List.mem_cons.mp hz with rfl | hz
    · exact lots_4 h (le4 hh) _ hR
    · rw [List.mem_singleton.mp hz]
      exact lots_4 w (le4 hw) _ hC
  obtain ⟨x, x1, x2⟩ := last_e h0 hh hR
  obtain ⟨y, y1, y2⟩ := last_e w0 hw hC
  have g3 : evE (cn n) (.or (.cmp .ge (.sl (.var 3) (some (.neg (.cI 1))) none) (.tup [(.f1 .len (.var 0))])) (.cmp .ge (.sl (.var 4) (some (.neg (.cI 1))) none) (.tup [(.f1 .len (.ix (.var 0) (.cI 0)))]))) [.val (shE h w s), .val (.tuple [nT R, nT C]), .un, .val (nT R), .val (nT C), .un] = some (.bool false) := by
    refine ev_or (x := false) (y := false) (ev_cmp (x := x) (y := .tuple [nD h]) x1 (ev_tupl (evL_cons rfl (ev_len rfl len_sh) rfl) (show 1 ≤ 5000 by decide)) x2) fun _ => ev_cmp (x := y) (y := .tuple [nD w]) y1 (ev_tupl (evL_cons rfl (ev_len (ev_ix rfl rfl (ix_sh h0)) len_row) rfl) (show 1 ≤ 5000 by decide)) y2
  have g4 : evE (cn n) (.f1 .any (.lc (.cmp .in_ .cN (.var 5)) (.one 5) (.call 29 [(.var 0), (.var 3), (.var 4)]) none [("line", 5)])) [.val (shE h w s), .val (.tuple [nT R, nT C]), .un, .val (nT R), .val (nT C), .un] = some (.bool false) := by
    have hf : (R.any fun i => !C.all fun j => (s i j).isSome) = false := List.any_eq_false.mpr fun i hi => by
      rw [List.all_eq_true.mpr fun j hj => ht i hi j hj]
      decide
    rw [← hf]
    refine ev_any (p := fun i => !C.all fun j => (s i j).isSome) ?_
    refine ev_lc0 R (fun i => .tuple (C.map fun j => cE (s i j))) (fun i => .bool (!C.all fun j => (s i j).isSome)) (fun i => [.val (shE h w s), .val (.tuple [nT R, nT C]), .un, .val (nT R), .val (nT C), .val (.tuple (C.map fun j => cE (s i j)))]) ?_ (fun _ _ => rfl) (fun i hi => ev_cmp rfl rfl (none_in s i C)) (by omega)
    have := ev_call (c := cn n) (ρ := [.val (shE h w s), .val (.tuple [nT R, nT C]), .un, .val (nT R), .val (nT C), .un]) (f := 29) (es := [.var 0, .var 3, .var 4]) (ds := [shE h w s, nT R, nT C]) rfl (e29 (n := n - 1) (by omega) r1 c1 (by omega) (by omega))
    simp only [bor]
    rw [this]
    rfl
  exact run_of (by omega) rfl rfl (ex_nx (s_iteF g1 rfl) (ex_nx (s_asg (d := .tuple [nT R, nT C]) rfl rfl) (ex_nx (s_iteF g3 rfl) (ex_ret (ev_not g4)))))
theorem e69 {R C : List Nat} (hn : 8 ≤ n) (h0 : 0 < h) (hh : h ≤ 4) (w0 : 0 < w) (hw : w ≤ 4) (hR : R ∈ lots h) (hC : C ∈ lots w) (ht : ∀ i ∈ R, ∀ j ∈ C, (s i j).isSome = true) : runF tab n 69 [shE h w s, .tuple [nT R, nT C]] = some (.bool true) := by
  obtain ⟨r1, r2, r3, _⟩ := lots_in h (le4 hh) R hR
  obtain ⟨c1, c2, c3, _⟩ := lots_in w (le4 hw) C hC
  have g1 : evE (cn n) (.or (.not (.isi (.var 1) .tuple)) (.cmp .ne (.f1 .len (.var 1)) (.cI 2))) [.val (shE h w s), .val (.tuple [nT R, nT C]), .un, .un, .un] = some (.bool false) :=
    ev_or (x := false) (y := false) rfl fun _ => ev_cmp (x := nD 2) (y := nD 2) (ev_len rfl rfl) rfl (ne_nD 2 2)
  have g2 : evE (cn n) (.tup [(.tup [(.ix (.var 1) (.cI 0)), (.f1 .len (.var 0))]), (.tup [(.ix (.var 1) (.cI 1)), (.f1 .len (.ix (.var 0) (.cI 0)))])]) [.val (shE h w s), .val (.tuple [nT R, nT C]), .un, .un, .un] = some (.tuple ([(R, h), (C, w)].map fun z => .tuple [nT z.1, nD z.2])) :=
    ev_tupl (evL_cons rfl (ev_tupl (evL_cons rfl (ev_ix rfl rfl rfl) (evL_cons rfl (ev_len rfl len_sh) rfl)) (show 2 ≤ 5000 by decide)) (evL_cons rfl (ev_tupl (evL_cons rfl (ev_ix rfl rfl rfl) (evL_cons rfl (ev_len (ev_ix rfl rfl (ix_sh h0)) len_row) rfl)) (show 2 ≤ 5000 by decide)) rfl)) (show 2 ≤ 5000 by decide)
  obtain ⟨ρ', e, x, y, hρ⟩ := loop_inv (f := fun d ρ => (bindT (.tup [(.one 2), (.one 3)]) d ρ).bind fun ρ' => exL (cn n) b69 ρ') (fun z : List Nat × Nat => PyData.tuple [nT z.1, nD z.2])
    (fun pre ρ => ∃ x y : Option D, ρ = [.val (shE h w s), .val (.tuple [nT R, nT C]), cel x, cel y, .un]) [(R, h), (C, w)] [] [.val (shE h w s), .val (.tuple [nT R, nT C]), .un, .un, .un] (fun pre z post ρ eq ⟨x, y, hρ⟩ => by
      subst hρ
      have hz : z ∈ [(R, h), (C, w)] := by rw [show [(R, h), (C, w)] = pre ++ z :: post from eq]; exact List.mem_append_right _ List.mem_cons_self
      have hz2 : z.2 ∈ [1,2,3,4] ∧ z.1 ∈ lots z.2 := by
        rcases List.mem_cons.mp hz with rfl | hz
        · exact ⟨pos4 h0 hh, hR⟩
        · rw [List.mem_singleton.mp hz]
          exact ⟨pos4 w0 hw, hC⟩
      have eb : bindT (.tup [(.one 2), (.one 3)]) (PyData.tuple [nT z.1, nD z.2]) [.val (shE h w s), .val (.tuple [nT R, nT C]), cel x, cel y, .un] = some [.val (shE h w s), .val (.tuple [nT R, nT C]), .val (nT z.1), .val (nD z.2), .un] := by
        cases x <;> cases y <;> rfl
      refine ⟨[.val (shE h w s), .val (.tuple [nT R, nT C]), .val (nT z.1), .val (nD z.2), .un], ?_, ⟨some (nT z.1), some (nD z.2), rfl⟩⟩
      simp only [eb, Option.bind_some]
      obtain ⟨m, rfl⟩ : ∃ m, n = m + 8 := ⟨n - 8, by omega⟩
      exact List.map_inj_left.mp (b69_0 m (shE h w s) (.tuple [nT R, nT C]) z.2 hz2.1) z.1 hz2.2) ⟨none, none, rfl⟩
  subst hρ
  have htw : tw s R C = true := by
    unfold tw
    exact List.all_eq_true.mpr fun i hi => List.all_eq_true.mpr fun j hj => ht i hi j hj
  refine run_of (by omega) rfl rfl (ex_nx (s_iteF g1 rfl) (ex_nx (s_for g2 rfl e) (ex_ret ?_)))
  refine Eq.trans (ev_call (ds := [shE h w s, nT R, nT C]) (evL_cons rfl ?_ (evL_cons rfl ?_ (evL_cons rfl ?_ rfl))) (e65 (n := n - 1) (by omega) r1 c1 (by omega) (by omega))) (by rw [htw])
  · cases x <;> cases y <;> rfl
  · cases x <;> cases y <;> rfl
  · cases x <;> cases y <;> rfl
end
end PV
end
section -- M22
/-! Papers. -/
namespace PV
open PySem L2
def filD (h w : Nat) (t : Nat → Nat → Option Bool) : D := .tuple [.str "filling", shE h w t]
def winD (R C : List Nat) : D := .tuple [.str "window", .tuple [nT R, nT C]]
theorem str_ff : cmpF .eq (.str "filling") (.str "filling") = some (.bool true) := by kernel_rfl
theorem str_wf : cmpF .eq (.str "window") (.str "filling") = some (.bool false) := by kernel_rfl
theorem str_ww : cmpF .eq (.str "window") (.str "window") = some (.bool true) := by kernel_rfl
section
variable {n h w k : Nat} {s t : Nat → Nat → Option Bool}
theorem e38' (hn : 18 ≤ n) (h0 : 0 < h) (hh : h ≤ 4) (w0 : 0 < w) (hw : w ≤ 4) (zs : Zs h w s) : runF tab n 38 [shE h w s] = some (shE h w (bf h w s)) :=
  e38 hn h0 hh w0 hw fun pre _ _ => ((zs.ess hh hw).fold hh hw pre).pm
theorem e39F (hn : 19 ≤ n) (h0 : 0 < h) (hh : h ≤ 4) (w0 : 0 < w) (hw : w ≤ 4) (zs : Zs h w s) (hk : k ≤ gr h w s) : runF tab n 39 [shE h w s, nD k] = some (filD h w (bf h w s)) := by
  have g1 : evE (cn n) (.call 4 [(.var 0)]) [.val (shE h w s), .val (nD k), .un] = some (shE h w s) := ev_call (ds := [shE h w s]) rfl (e4_cr (n := n - 1) (rows := List.range h) (cols := List.range w) (by omega) (by rw [List.length_range]; omega) (by rw [List.length_range]; omega))
  have g2 : evE (cn n) (.cmp .ge (.call 34 [(.var 2)]) (.var 1)) [.val (shE h w s), .val (nD k), .val (shE h w s)] = some (.bool true) := Eq.trans (ev_cmp (ev_call (ds := [shE h w s]) rfl (e34 (n := n - 1) (by omega) zs.pm h0 hh w0 hw)) rfl (ge_nD _ _)) (by rw [decide_eq_true hk])
  exact run_of (by omega) rfl rfl (ex_nx (s_asg g1 rfl) (ex_rt (s_iteT g2 (ex_ret (ev_tupl (evL_cons rfl rfl (evL_cons rfl (ev_call (ds := [shE h w s]) rfl (e38' (n := n - 1) (by omega) h0 hh w0 hw zs)) rfl)) (show 2 ≤ 5000 by decide))))))
theorem e39W (hn : 19 ≤ n) (h0 : 0 < h) (hh : h ≤ 4) (w0 : 0 < w) (hw : w ≤ 4) (zs : Zs h w s) (hk : gr h w s < k) : runF tab n 39 [shE h w s, nD k] = some (winD (tRows h w s) (told w s (tRows h w s))) := by
  have g1 : evE (cn n) (.call 4 [(.var 0)]) [.val (shE h w s), .val (nD k), .un] = some (shE h w s) := ev_call (ds := [shE h w s]) rfl (e4_cr (n := n - 1) (rows := List.range h) (cols := List.range w) (by omega) (by rw [List.length_range]; omega) (by rw [List.length_range]; omega))
  have g2 : evE (cn n) (.cmp .ge (.call 34 [(.var 2)]) (.var 1)) [.val (shE h w s), .val (nD k), .val (shE h w s)] = some (.bool false) := Eq.trans (ev_cmp (ev_call (ds := [shE h w s]) rfl (e34 (n := n - 1) (by omega) zs.pm h0 hh w0 hw)) rfl (ge_nD _ _)) (by rw [decide_eq_false (by omega)])
  exact run_of (by omega) rfl rfl (ex_nx (s_asg g1 rfl) (ex_nx (s_iteF g2 rfl) (ex_ret (ev_tupl (evL_cons rfl rfl (evL_cons rfl (ev_call (ds := [shE h w s]) rfl (e36 (n := n - 1) (by omega) zs.pm h0 hh hw)) rfl)) (show 2 ≤ 5000 by decide)))))
theorem rk22 (hn : 14 ≤ n) (h0 : 0 < h) (hh : h ≤ 4) (w0 : 0 < w) (hw : w ≤ 4) (pm : Pm h w t) (ht : ∀ i j, i < h → j < w → (t i j).isSome = true) : runF tab n 22 [shE h w t] = some (nD (ones t (List.range h) (List.range w))) :=
  e22 (h := h) (w := w) (R := List.range h) (C := List.range w) hn pm (fun i hi => List.mem_range.mp hi) (fun i hi => List.mem_range.mp hi) List.nodup_range List.nodup_range (fun i hi j hj => ht i j (List.mem_range.mp hi) (List.mem_range.mp hj)) (by rw [List.length_range]; omega) (by rw [List.length_range]; omega) (by rw [List.length_range]; omega) (by rw [List.length_range]; omega)
theorem rk61 (hn : 14 ≤ n) (hh : h ≤ 4) (hw : w ≤ 4) (pm : Pm h w t) (ht : ∀ i j, i < h → j < w → (t i j).isSome = true) : runF tab n 61 [shE h w t] = some (nD (ones t (List.range h) (List.range w))) :=
  e61 (h := h) (w := w) (R := List.range h) (C := List.range w) hn pm (fun i hi => List.mem_range.mp hi) (fun i hi => List.mem_range.mp hi) List.nodup_range List.nodup_range (fun i hi j hj => ht i j (List.mem_range.mp hi) (List.mem_range.mp hj)) (by rw [List.length_range]; omega) (by rw [List.length_range]; omega)
theorem e42F (hn : 17 ≤ n) (h0 : 0 < h) (hh : h ≤ 4) (w0 : 0 < w) (hw : w ≤ 4) (F : Fil h w s t) (pm : Pm h w t) : runF tab n 42 [shE h w s, nD k, filD h w t] = some (.bool (decide (k ≤ ones t (List.range h) (List.range w)))) := by
  have g1 : evE (cn n) (.call 4 [(.var 0)]) [.val (shE h w s), .val (nD k), .val (filD h w t), .un] = some (shE h w s) := ev_call (ds := [shE h w s]) rfl (e4_cr (n := n - 1) (rows := List.range h) (cols := List.range w) (by omega) (by rw [List.length_range]; omega) (by rw [List.length_range]; omega))
  have g2 : evE (cn n) (.or (.not (.call 2 [(.var 2), (.cI 2)])) (.not (.isi (.ix (.var 2) (.cI 0)) .str))) [.val (shE h w s), .val (nD k), .val (filD h w t), .val (shE h w s)] = some (.bool false) :=
    ev_or (x := false) (y := false) (ev_not (x := true) (ev_call (ds := [filD h w t, nD 2]) rfl (e2 (n := n - 1) (by omega)))) fun _ => ev_not (x := true) (ev_isi (d := .str "filling") (ev_ix rfl rfl rfl) rfl)
  have g3 : evE (cn n) (.cmp .eq (.ix (.var 2) (.cI 0)) (.cS "filling")) [.val (shE h w s), .val (nD k), .val (filD h w t), .val (shE h w s)] = some (.bool true) := ev_cmp (x := .str "filling") (ev_ix rfl rfl rfl) rfl str_ff
  refine run_of (by omega) rfl rfl (ex_nx (s_asg g1 rfl) (ex_nx (s_iteF g2 rfl) (ex_rt (s_iteT g3 (ex_ret (ev_and (x := true) ?_ fun _ => ?_))))))
  · exact ev_call (ds := [shE h w s, shE h w t]) (evL_cons rfl rfl (evL_cons rfl (ev_ix rfl rfl rfl) rfl)) (e40 (n := n - 1) (by omega) h0 hh w0 hw F)
  · exact ev_cmp (ev_call (ds := [shE h w t]) (evL_cons rfl (ev_ix rfl rfl rfl) rfl) (rk22 (n := n - 1) (by omega) h0 hh w0 hw pm F.1)) rfl (ge_nD _ _)
theorem e42W {R C : List Nat} (hn : 17 ≤ n) (h0 : 0 < h) (hh : h ≤ 4) (w0 : 0 < w) (hw : w ≤ 4) (pm : Pm h w s) (hR : R ∈ lots h) (hC : C ∈ lots w) (ht : ∀ i ∈ R, ∀ j ∈ C, (s i j).isSome = true) : runF tab n 42 [shE h w s, nD k, winD R C] = some (.bool (decide (wb h w s R C < k))) := by
  obtain ⟨r1, r2, r3, _⟩ := lots_in h (le4 hh) R hR
  obtain ⟨c1, c2, c3, _⟩ := lots_in w (le4 hw) C hC
  have g1 : evE (cn n) (.call 4 [(.var 0)]) [.val (shE h w s), .val (nD k), .val (winD R C), .un] = some (shE h w s) := ev_call (ds := [shE h w s]) rfl (e4_cr (n := n - 1) (rows := List.range h) (cols := List.range w) (by omega) (by rw [List.length_range]; omega) (by rw [List.length_range]; omega))
  have g2 : evE (cn n) (.or (.not (.call 2 [(.var 2), (.cI 2)])) (.not (.isi (.ix (.var 2) (.cI 0)) .str))) [.val (shE h w s), .val (nD k), .val (winD R C), .val (shE h w s)] = some (.bool false) :=
    ev_or (x := false) (y := false) (ev_not (x := true) (ev_call (ds := [winD R C, nD 2]) rfl (e2 (n := n - 1) (by omega)))) fun _ => ev_not (x := true) (ev_isi (d := .str "window") (ev_ix rfl rfl rfl) rfl)
  have g3 : evE (cn n) (.cmp .eq (.ix (.var 2) (.cI 0)) (.cS "filling")) [.val (shE h w s), .val (nD k), .val (winD R C), .val (shE h w s)] = some (.bool false) := ev_cmp (x := .str "window") (ev_ix rfl rfl rfl) rfl str_wf
  have g4 : evE (cn n) (.cmp .eq (.ix (.var 2) (.cI 0)) (.cS "window")) [.val (shE h w s), .val (nD k), .val (winD R C), .val (shE h w s)] = some (.bool true) := ev_cmp (x := .str "window") (ev_ix rfl rfl rfl) rfl str_ww
  have x1 : evE (cn n) (.ix (.var 2) (.cI 1)) [.val (shE h w s), .val (nD k), .val (winD R C), .val (shE h w s)] = some (.tuple [nT R, nT C]) := ev_ix rfl rfl rfl
  refine run_of (by omega) rfl rfl (ex_nx (s_asg g1 rfl) (ex_nx (s_iteF g2 rfl) (ex_nx (s_iteF g3 rfl) (ex_rt (s_iteT g4 (ex_ret (ev_and (x := true) ?_ fun _ => ?_)))))))
  · exact ev_call (ds := [shE h w s, .tuple [nT R, nT C]]) (evL_cons rfl rfl (evL_cons rfl x1 rfl)) (e41 (n := n - 1) (by omega) h0 hh w0 hw hR hC ht)
  · exact ev_cmp (ev_call (ds := [shE h w s, nT R, nT C]) (evL_cons rfl rfl (evL_cons rfl (ev_ix x1 rfl rfl) (evL_cons rfl (ev_ix x1 rfl rfl) rfl))) (e31 (n := n - 1) (by omega) pm h0 hh hw r1 c1 r3 c3 r2 c2 ht)) rfl (lt_nD _ _)
theorem e70F (hn : 17 ≤ n) (hh : h ≤ 4) (hw : w ≤ 4) (F : Fil h w s t) (pm : Pm h w t) : runF tab n 70 [shE h w s, nD k, filD h w t] = some (.bool (decide (k ≤ ones t (List.range h) (List.range w)))) := by
  have g2 : evE (cn n) (.or (.not (.isi (.var 2) .tuple)) (.or (.cmp .ne (.f1 .len (.var 2)) (.cI 2)) (.not (.isi (.ix (.var 2) (.cI 0)) .str)))) [.val (shE h w s), .val (nD k), .val (filD h w t)] = some (.bool false) :=
    ev_or (x := false) (y := false) rfl fun _ => ev_or (x := false) (y := false) (ev_cmp (x := nD 2) (y := nD 2) (ev_len rfl rfl) rfl (ne_nD 2 2)) fun _ => ev_not (x := true) (ev_isi (d := .str "filling") (ev_ix rfl rfl rfl) rfl)
  have g3 : evE (cn n) (.cmp .eq (.ix (.var 2) (.cI 0)) (.cS "filling")) [.val (shE h w s), .val (nD k), .val (filD h w t)] = some (.bool true) := ev_cmp (x := .str "filling") (ev_ix rfl rfl rfl) rfl str_ff
  refine run_of (by omega) rfl rfl (ex_nx (s_iteF g2 rfl) (ex_rt (s_iteT g3 (ex_ret (ev_and (x := true) ?_ fun _ => ?_)))))
  · exact ev_call (ds := [shE h w s, shE h w t]) (evL_cons rfl rfl (evL_cons rfl (ev_ix rfl rfl rfl) rfl)) (e68 (n := n - 1) (by omega) hh hw F)
  · exact ev_cmp (ev_call (ds := [shE h w t]) (evL_cons rfl (ev_ix rfl rfl rfl) rfl) (rk61 (n := n - 1) (by omega) hh hw pm F.1)) rfl (ge_nD _ _)
theorem e70W {R C : List Nat} (hn : 17 ≤ n) (h0 : 0 < h) (hh : h ≤ 4) (w0 : 0 < w) (hw : w ≤ 4) (pm : Pm h w s) (hR : R ∈ lots h) (hC : C ∈ lots w) (ht : ∀ i ∈ R, ∀ j ∈ C, (s i j).isSome = true) : runF tab n 70 [shE h w s, nD k, winD R C] = some (.bool (decide (wb h w s R C < k))) := by
  obtain ⟨r1, r2, r3, _⟩ := lots_in h (le4 hh) R hR
  obtain ⟨c1, c2, c3, _⟩ := lots_in w (le4 hw) C hC
  have g2 : evE (cn n) (.or (.not (.isi (.var 2) .tuple)) (.or (.cmp .ne (.f1 .len (.var 2)) (.cI 2)) (.not (.isi (.ix (.var 2) (.cI 0)) .str)))) [.val (shE h w s), .val (nD k), .val (winD R C)] = some (.bool false) :=
    ev_or (x := false) (y := false) rfl fun _ => ev_or (x := false) (y := false) (ev_cmp (x := nD 2) (y := nD 2) (ev_len rfl rfl) rfl (ne_nD 2 2)) fun _ => ev_not (x := true) (ev_isi (d := .str "window") (ev_ix rfl rfl rfl) rfl)
  have g3 : evE (cn n) (.cmp .eq (.ix (.var 2) (.cI 0)) (.cS "filling")) [.val (shE h w s), .val (nD k), .val (winD R C)] = some (.bool false) := ev_cmp (x := .str "window") (ev_ix rfl rfl rfl) rfl str_wf
  have g4 : evE (cn n) (.cmp .eq (.ix (.var 2) (.cI 0)) (.cS "window")) [.val (shE h w s), .val (nD k), .val (winD R C)] = some (.bool true) := ev_cmp (x := .str "window") (ev_ix rfl rfl rfl) rfl str_ww
  have x1 : evE (cn n) (.ix (.var 2) (.cI 1)) [.val (shE h w s), .val (nD k), .val (winD R C)] = some (.tuple [nT R, nT C]) := ev_ix rfl rfl rfl
  refine run_of (by omega) rfl rfl (ex_nx (s_iteF g2 rfl) (ex_nx (s_iteF g3 rfl) (ex_rt (s_iteT g4 (ex_ret (ev_and (x := true) ?_ fun _ => ?_))))))
  · exact ev_call (ds := [shE h w s, .tuple [nT R, nT C]]) (evL_cons rfl rfl (evL_cons rfl x1 rfl)) (e69 (n := n - 1) (by omega) h0 hh w0 hw hR hC ht)
  · exact ev_cmp (ev_call (ds := [shE h w s, nT R, nT C]) (evL_cons rfl rfl (evL_cons rfl (ev_ix x1 rfl rfl) (evL_cons rfl (ev_ix x1 rfl rfl) rfl))) (e66 (n := n - 1) (by omega) pm h0 hh hw r1 c1 r3 c3 r2 c2 ht)) rfl (lt_nD _ _)
end
end PV
end
section -- M23
/-! bent_at, by evaluation from the matrix on. Printed by gen_m23.py. -/
namespace PV
open PySem L2
def tail47 : List S := [.frz 5, .asg (.one 10) (.call 23 [(.call 27 [(.var 5), (.var 1), (.var 2), (.gl false)])]), .asg (.one 11) (.call 12 [(.call 23 [(.call 27 [(.var 5), (.var 1), (.var 2), (.gl true)])]), (.var 10)]), .ret (.call 27 [(.f1 .tuple (.var 5)), (.var 1), (.var 2), (.call 11 [(.call 14 [(.var 10), (.var 11)])])])]
def cm (q : List (List Bool)) : Nat → Nat → Option Bool := fun i j => some ((q.getD i []).getD j false)
/-- one 1 in each row and column -/
def pms (k : Nat) : List (List (List Bool)) := (ppm k k []).filter fun q => Nat.ble k (onesM q)
def cellB (d : D) (b : Bool) : Bool := match d with
  | .tuple [.int i, .int j] => decide (i = if b then 1 else 0) && decide (j = 1)
  | _ => false
def rowB : List D → List Bool → Bool
  | [], [] => true
  | d :: ds, b :: bs => cellB d b && rowB ds bs
  | _, _ => false
def rowsB : List D → List (List Bool) → Bool
  | [], [] => true
  | .tuple r :: ds, b :: bs => rowB r b && rowsB ds bs
  | _, _ => false
def retB (o : Option Out) (q : List (List Bool)) : Bool := match o with
  | some (.ret (.tuple l)) => rowsB l q
  | _ => false
theorem cellB_eq {d : D} {b : Bool} (h : cellB d b = true) : d = oc b := by
  unfold cellB at h
  split at h
  · obtain ⟨h1, h2⟩ := Bool.and_eq_true_iff.mp h
    rw [of_decide_eq_true h1, of_decide_eq_true h2]
    rfl
  · cases h
theorem rowB_eq : ∀ {ds : List D} {bs : List Bool}, rowB ds bs = true → ds = bs.map oc
  | [], [], _ => rfl
  | [], _ :: _, h => by simp [rowB] at h
  | _ :: _, [], h => by simp [rowB] at h
  | d :: ds, b :: bs, h => by
    obtain ⟨h1, h2⟩ := Bool.and_eq_true_iff.mp (show (cellB d b && rowB ds bs) = true from h)
    rw [cellB_eq h1, rowB_eq h2]
    rfl
theorem rowsB_eq : ∀ {ds : List D} {bs : List (List Bool)}, rowsB ds bs = true → ds = bs.map fun r => .tuple (r.map oc)
  | [], [], _ => rfl
  | [], _ :: _, h => by simp [rowsB] at h
  | _ :: _, [], h => by unfold rowsB at h; split at h <;> first | (cases h; done) | simp_all
  | d :: ds, b :: bs, h => by
    cases d with
    | tuple r =>
      obtain ⟨h1, h2⟩ := Bool.and_eq_true_iff.mp (show (rowB r b && rowsB ds bs) = true from h)
      rw [rowB_eq h1, rowsB_eq h2]
      rfl
    | _ => simp [rowsB] at h
theorem retB_eq {o : Option Out} {q : List (List Bool)} (h : retB o q = true) : o = some (.ret (mtD q)) := by
  unfold retB at h
  split at h
  · rw [rowsB_eq h]
    rfl
  · cases h
/-- the matrix as Booleans -/
def insB (m r c : Nat) (q : List (List Bool)) : List (List Bool) := (List.range m).map fun i => (List.range m).map fun j => one? (insF r c (cm q) i j)
def bntO (n : Nat) (X0 X3 X4 : D) (c6 c7 c9 : Cel) (m r c : Nat) (q : List (List Bool)) : Option Out := exL (cn (n + 18)) tail47 [.val X0, .val (nD r), .val (nD c), .val X3, .val X4, .own ((insB m r c q).map fun r => .tuple (r.map oc)), c6, c7, .un, c9, .un, .un]
def bnt (n : Nat) (X0 X3 X4 : D) (c6 c7 c9 : Cel) (m r c : Nat) (q : List (List Bool)) : Bool := retB (bntO n X0 X3 X4 c6 c7 c9 m r c q) (insB m r c q)
section
variable (n : Nat) (X0 X3 X4 : D) (c6 c7 c9 : Cel)
theorem bnt_100 : ((pms 0).all fun q => bnt n X0 X3 X4 c6 c7 c9 1 0 0 q) = true := by kernel_rfl
theorem bnt_200 : ((pms 1).all fun q => bnt n X0 X3 X4 c6 c7 c9 2 0 0 q) = true := by kernel_rfl
theorem bnt_201 : ((pms 1).all fun q => bnt n X0 X3 X4 c6 c7 c9 2 0 1 q) = true := by kernel_rfl
theorem bnt_210 : ((pms 1).all fun q => bnt n X0 X3 X4 c6 c7 c9 2 1 0 q) = true := by kernel_rfl
theorem bnt_211 : ((pms 1).all fun q => bnt n X0 X3 X4 c6 c7 c9 2 1 1 q) = true := by kernel_rfl
theorem bnt_300 : ((pms 2).all fun q => bnt n X0 X3 X4 c6 c7 c9 3 0 0 q) = true := by kernel_rfl
theorem bnt_301 : ((pms 2).all fun q => bnt n X0 X3 X4 c6 c7 c9 3 0 1 q) = true := by kernel_rfl
theorem bnt_302 : ((pms 2).all fun q => bnt n X0 X3 X4 c6 c7 c9 3 0 2 q) = true := by kernel_rfl
theorem bnt_310 : ((pms 2).all fun q => bnt n X0 X3 X4 c6 c7 c9 3 1 0 q) = true := by kernel_rfl
theorem bnt_311 : ((pms 2).all fun q => bnt n X0 X3 X4 c6 c7 c9 3 1 1 q) = true := by kernel_rfl
theorem bnt_312 : ((pms 2).all fun q => bnt n X0 X3 X4 c6 c7 c9 3 1 2 q) = true := by kernel_rfl
theorem bnt_320 : ((pms 2).all fun q => bnt n X0 X3 X4 c6 c7 c9 3 2 0 q) = true := by kernel_rfl
theorem bnt_321 : ((pms 2).all fun q => bnt n X0 X3 X4 c6 c7 c9 3 2 1 q) = true := by kernel_rfl
theorem bnt_322 : ((pms 2).all fun q => bnt n X0 X3 X4 c6 c7 c9 3 2 2 q) = true := by kernel_rfl
theorem bnt_400 : ((pms 3).all fun q => bnt n X0 X3 X4 c6 c7 c9 4 0 0 q) = true := by kernel_rfl
theorem bnt_401 : ((pms 3).all fun q => bnt n X0 X3 X4 c6 c7 c9 4 0 1 q) = true := by kernel_rfl
theorem bnt_402 : ((pms 3).all fun q => bnt n X0 X3 X4 c6 c7 c9 4 0 2 q) = true := by kernel_rfl
theorem bnt_403 : ((pms 3).all fun q => bnt n X0 X3 X4 c6 c7 c9 4 0 3 q) = true := by kernel_rfl
theorem bnt_410 : ((pms 3).all fun q => bnt n X0 X3 X4 c6 c7 c9 4 1 0 q) = true := by kernel_rfl
theorem bnt_411 : ((pms 3).all fun q => bnt n X0 X3 X4 c6 c7 c9 4 1 1 q) = true := by kernel_rfl
theorem bnt_412 : ((pms 3).all fun q => bnt n X0 X3 X4 c6 c7 c9 4 1 2 q) = true := by kernel_rfl
theorem bnt_413 : ((pms 3).all fun q => bnt n X0 X3 X4 c6 c7 c9 4 1 3 q) = true := by kernel_rfl
theorem bnt_420 : ((pms 3).all fun q => bnt n X0 X3 X4 c6 c7 c9 4 2 0 q) = true := by kernel_rfl
theorem bnt_421 : ((pms 3).all fun q => bnt n X0 X3 X4 c6 c7 c9 4 2 1 q) = true := by kernel_rfl
theorem bnt_422 : ((pms 3).all fun q => bnt n X0 X3 X4 c6 c7 c9 4 2 2 q) = true := by kernel_rfl
theorem bnt_423 : ((pms 3).all fun q => bnt n X0 X3 X4 c6 c7 c9 4 2 3 q) = true := by kernel_rfl
theorem bnt_430 : ((pms 3).all fun q => bnt n X0 X3 X4 c6 c7 c9 4 3 0 q) = true := by kernel_rfl
theorem bnt_431 : ((pms 3).all fun q => bnt n X0 X3 X4 c6 c7 c9 4 3 1 q) = true := by kernel_rfl
theorem bnt_432 : ((pms 3).all fun q => bnt n X0 X3 X4 c6 c7 c9 4 3 2 q) = true := by kernel_rfl
theorem bnt_433 : ((pms 3).all fun q => bnt n X0 X3 X4 c6 c7 c9 4 3 3 q) = true := by kernel_rfl
theorem bnt_a {m r c : Nat} (h0 : 0 < m) (hm : m ≤ 4) (hr : r < m) (hc : c < m) : ((pms (m - 1)).all fun q => bnt n X0 X3 X4 c6 c7 c9 m r c q) = true := by
  have e : m = 1 ∨ m = 2 ∨ m = 3 ∨ m = 4 := by omega
  rcases e with rfl | rfl | rfl | rfl
  · have e1 : r = 0 := by omega
    have e2 : c = 0 := by omega
    rcases e1 with rfl <;> rcases e2 with rfl
    · exact bnt_100 n X0 X3 X4 c6 c7 c9
  · have e1 : r = 0 ∨ r = 1 := by omega
    have e2 : c = 0 ∨ c = 1 := by omega
    rcases e1 with rfl | rfl <;> rcases e2 with rfl | rfl
    · exact bnt_200 n X0 X3 X4 c6 c7 c9
    · exact bnt_201 n X0 X3 X4 c6 c7 c9
    · exact bnt_210 n X0 X3 X4 c6 c7 c9
    · exact bnt_211 n X0 X3 X4 c6 c7 c9
  · have e1 : r = 0 ∨ r = 1 ∨ r = 2 := by omega
    have e2 : c = 0 ∨ c = 1 ∨ c = 2 := by omega
    rcases e1 with rfl | rfl | rfl <;> rcases e2 with rfl | rfl | rfl
    · exact bnt_300 n X0 X3 X4 c6 c7 c9
    · exact bnt_301 n X0 X3 X4 c6 c7 c9
    · exact bnt_302 n X0 X3 X4 c6 c7 c9
    · exact bnt_310 n X0 X3 X4 c6 c7 c9
    · exact bnt_311 n X0 X3 X4 c6 c7 c9
    · exact bnt_312 n X0 X3 X4 c6 c7 c9
    · exact bnt_320 n X0 X3 X4 c6 c7 c9
    · exact bnt_321 n X0 X3 X4 c6 c7 c9
    · exact bnt_322 n X0 X3 X4 c6 c7 c9
  · have e1 : r = 0 ∨ r = 1 ∨ r = 2 ∨ r = 3 := by omega
    have e2 : c = 0 ∨ c = 1 ∨ c = 2 ∨ c = 3 := by omega
    rcases e1 with rfl | rfl | rfl | rfl <;> rcases e2 with rfl | rfl | rfl | rfl
    · exact bnt_400 n X0 X3 X4 c6 c7 c9
    · exact bnt_401 n X0 X3 X4 c6 c7 c9
    · exact bnt_402 n X0 X3 X4 c6 c7 c9
    · exact bnt_403 n X0 X3 X4 c6 c7 c9
    · exact bnt_410 n X0 X3 X4 c6 c7 c9
    · exact bnt_411 n X0 X3 X4 c6 c7 c9
    · exact bnt_412 n X0 X3 X4 c6 c7 c9
    · exact bnt_413 n X0 X3 X4 c6 c7 c9
    · exact bnt_420 n X0 X3 X4 c6 c7 c9
    · exact bnt_421 n X0 X3 X4 c6 c7 c9
    · exact bnt_422 n X0 X3 X4 c6 c7 c9
    · exact bnt_423 n X0 X3 X4 c6 c7 c9
    · exact bnt_430 n X0 X3 X4 c6 c7 c9
    · exact bnt_431 n X0 X3 X4 c6 c7 c9
    · exact bnt_432 n X0 X3 X4 c6 c7 c9
    · exact bnt_433 n X0 X3 X4 c6 c7 c9
end
theorem ins_D (m r c : Nat) (q : List (List Bool)) : shE m m (insF r c (cm q)) = mtD (insB m r c q) := by
  refine cr_mt (s := insF r c (cm q)) (R := List.range m) (C := List.range m) fun i _ j _ => ?_
  unfold insF
  split <;> rfl
theorem bnt_e {n m r c : Nat} (X0 X3 X4 : D) (c6 c7 c9 : Cel) {q : List (List Bool)} (hn : 18 ≤ n) (h0 : 0 < m) (hm : m ≤ 4) (hr : r < m) (hc : c < m) (hq : q ∈ pms (m - 1)) :
    exL (cn n) tail47 [.val X0, .val (nD r), .val (nD c), .val X3, .val X4, .own ((List.range m).map fun i => rowE m (insF r c (cm q) i)), c6, c7, .un, c9, .un, .un] = some (.ret (shE m m (insF r c (cm q)))) := by
  obtain ⟨k, rfl⟩ : ∃ k, n = k + 18 := ⟨n - 18, by omega⟩
  have h1 := retB_eq (List.all_eq_true.mp (bnt_a k X0 X3 X4 c6 c7 c9 h0 hm hr hc) q hq)
  have h2 := ins_D m r c q
  have h3 : ((List.range m).map fun i => rowE m (insF r c (cm q) i)) = (insB m r c q).map fun r => .tuple (r.map oc) := by
    unfold shE mtD at h2
    injection h2
  rw [h3, h2]
  exact h1
theorem cm_mt {k : Nat} {t : Nat → Nat → Option Bool} (ht : ∀ i j, i < k → j < k → (t i j).isSome = true) {i j : Nat} (hi : i < k) (hj : j < k) : cm (mt t (List.range k) (List.range k)) i j = t i j := by
  have e1 : (mt t (List.range k) (List.range k)).getD i [] = (List.range k).map fun j => one? (t i j) := by
    unfold mt
    rw [List.getD_eq_getElem?_getD, get_range hi]
    rfl
  unfold cm
  rw [e1, List.getD_eq_getElem?_getD, get_range hj]
  have := ht i j hi hj
  cases e : t i j with
  | none => rw [e] at this; cases this
  | some b => cases b <;> rfl
theorem mt_pms {k : Nat} {t : Nat → Nat → Option Bool} (pm : Pm k k t) (ho : k ≤ ones t (List.range k) (List.range k)) : mt t (List.range k) (List.range k) ∈ pms k := by
  have h1 := mt_mem pm (C := List.range k) (fun i hi => List.mem_range.mp hi) List.nodup_range (List.range k) [] List.nodup_range (fun i hi => List.mem_range.mp hi) fun x hx => nomatch hx
  rw [List.length_range] at h1
  exact List.mem_filter.mpr ⟨h1, Nat.ble_eq.mpr (by rw [onesM_mt]; exact ho)⟩
theorem insF_congr {m r c : Nat} {t u : Nat → Nat → Option Bool} (hr : r < m) (hc : c < m) (e : ∀ i j, i < m - 1 → j < m - 1 → t i j = u i j) {i j : Nat} (hi : i < m) (hj : j < m) : insF r c t i j = insF r c u i j := by
  unfold insF
  by_cases h1 : i = r ∨ j = c
  · rw [if_pos h1, if_pos h1]
  · rw [if_neg h1, if_neg h1]
    exact e _ _ (shr_lt hi hr fun z => h1 (.inl z)) (shr_lt hj hc fun z => h1 (.inr z))
theorem bnt_t {n m r c : Nat} (X0 X3 X4 : D) (c6 c7 c9 : Cel) {t : Nat → Nat → Option Bool} (hn : 18 ≤ n) (h0 : 0 < m) (hm : m ≤ 4) (hr : r < m) (hc : c < m) (pm : Pm (m - 1) (m - 1) t) (ht : ∀ i j, i < m - 1 → j < m - 1 → (t i j).isSome = true) (ho : m - 1 ≤ ones t (List.range (m - 1)) (List.range (m - 1))) :
    exL (cn n) tail47 [.val X0, .val (nD r), .val (nD c), .val X3, .val X4, .own ((List.range m).map fun i => rowE m (insF r c t i)), c6, c7, .un, c9, .un, .un] = some (.ret (shE m m (insF r c t))) := by
  have h1 := bnt_e X0 X3 X4 c6 c7 c9 hn h0 hm hr hc (mt_pms pm ho)
  have e : ∀ i j, i < m → j < m → insF r c (cm (mt t (List.range (m - 1)) (List.range (m - 1)))) i j = insF r c t i j := fun i j hi hj => insF_congr hr hc (fun i j hi hj => cm_mt ht hi hj) hi hj
  have e1 : (List.range m).map (fun i => rowE m (insF r c (cm (mt t (List.range (m - 1)) (List.range (m - 1)))) i)) = (List.range m).map fun i => rowE m (insF r c t i) := List.map_congr_left fun i hi => by
    unfold rowE
    refine congrArg _ (List.map_congr_left fun j hj => ?_)
    rw [e i j (List.mem_range.mp hi) (List.mem_range.mp hj)]
  rw [e1, shE_congr e] at h1
  exact h1
end PV
end
section -- M24
/-! bent_at, low_filling. -/
namespace PV
open PySem L2
theorem list_ins {α : Type} {f : Nat → α} {m c : Nat} {x : α} (hc : c < m) : ((List.range (m - 1)).map f).take c ++ x :: ((List.range (m - 1)).map f).drop c = (List.range m).map fun j => if j = c then x else f (shr c j) := by
  refine List.ext_getElem? fun i => ?_
  rw [List.getElem?_append, List.length_take, List.length_map, List.length_range, Nat.min_eq_left (by omega)]
  by_cases h1 : i < c
  · rw [if_pos h1, List.getElem?_take, if_pos h1, get_range (by omega), get_range (by omega), if_neg (by omega)]
    unfold shr
    rw [if_pos h1]
  · rw [if_neg h1]
    by_cases h2 : i = c
    · subst h2
      rw [Nat.sub_self, get_range hc, if_pos rfl]
      rfl
    · obtain ⟨k, hk⟩ : ∃ k, i - c = k + 1 := ⟨i - c - 1, by omega⟩
      rw [hk, List.getElem?_cons_succ, List.getElem?_drop, show c + k = i - 1 by omega]
      by_cases h3 : i < m
      · rw [get_range (by omega), get_range h3, if_neg h2]
        unfold shr
        rw [if_neg h1]
      · rw [List.getElem?_eq_none (by rw [List.length_map, List.length_range]; omega), List.getElem?_eq_none (by rw [List.length_map, List.length_range]; omega)]
def body47 : List S := [.asg (.one 7) (.lc (.ite (.isN false (.var 8)) (.gl false) (.var 8)) (.one 8) (.ix (.var 0) (.var 6)) none [("part", 8)]), .ite (.cmp .ne (.var 6) (.var 1)) [.asg (.one 9) (.ix (.var 4) (.ite (.cmp .lt (.var 6) (.var 1)) (.var 6) (.bin .sub (.var 6) (.cI 1)))), .asg (.one 7) (.lst [(.star (.sl (.var 9) none (some (.var 2)))), (.ix (.var 7) (.var 2)), (.star (.sl (.var 9) (some (.var 2)) none))])] [], .app 5 (.f1 .tuple (.var 7))]
theorem df47_eq : df_47.body = .asg (.one 3) (.call 46 [(.var 0), (.var 1), (.var 2)]) :: .ite (.and (.cmp .ne (.var 3) (.tup [])) (.cmp .lt (.call 34 [(.var 3)]) (.f1 .len (.var 3)))) [.ret .cN] [] :: .asg (.one 4) (.ite (.cmp .ne (.var 3) (.tup [])) (.call 38 [(.var 3)]) (.tup [])) :: .new 5 (.lst []) :: .for_ (.one 6) (.rng1 (.f1 .len (.var 0))) body47 :: tail47 := rfl
section
variable {n m r c : Nat} {s t : Nat → Nat → Option Bool}
theorem zer_F (zs : Zs m m s) {i j : Nat} (hi : i < m) (hj : j < m) : zer s i j = some false := by
  have := zs i j hi hj
  unfold zer
  cases e : s i j with
  | none => rfl
  | some b =>
    cases b with
    | true => exact absurd e this
    | false => rfl
/-- one round -/
theorem rnd47 {i : Nat} {A X3 : D} {acc : List D} {c7 c9 : Option D} (hm : m ≤ 4) (zs : Zs m m s) (hr : r < m) (hc : c < m) (hi : i < m) (hl : acc.length ≤ 5000) :
    ∃ c7' c9' : Option D, exL (cn n) body47 [.val (shE m m s), .val (nD r), .val (nD c), .val X3, .val (shE (m - 1) (m - 1) t), .own acc, .val (nD i), cel c7, .un, cel c9, .un, .un] = some (.nx [.val (shE m m s), .val (nD r), .val (nD c), .val X3, .val (shE (m - 1) (m - 1) t), .own (acc ++ [rowE m (insF r c t i)]), .val (nD i), cel c7', .un, cel c9', .un, .un]) := by
  have g1 : ∀ c7 : Cel, evE (cn n) (.lc (.ite (.isN false (.var 8)) (.gl false) (.var 8)) (.one 8) (.ix (.var 0) (.var 6)) none [("part", 8)]) [.val (shE m m s), .val (nD r), .val (nD c), .val X3, .val (shE (m - 1) (m - 1) t), .own acc, .val (nD i), c7, .un, cel c9, .un, .un] = some (.list ((List.range m).map fun j => cE (zer s i j))) := fun c7 => by
    refine ev_lc0 (List.range m) (fun j => cE (s i j)) (fun j => cE (zer s i j)) (fun j => [.val (shE m m s), .val (nD r), .val (nD c), .val X3, .val (shE (m - 1) (m - 1) t), .own acc, .val (nD i), c7, .val (cE (s i j)), cel c9, .un, .un]) ?_ (fun _ _ => rfl) (fun j _ => ?_) (by rw [List.length_range]; omega)
    · simp only [bor]
      rw [ev_ix (d := shE m m s) (k := nD i) rfl rfl (ix_sh hi)]
      rfl
    · refine ev_iteE (x := (s i j).isNone) ?_ ?_
      · refine Eq.trans (ev_isN (d := cE (s i j)) rfl) ?_
        rw [isN_c]
        cases s i j <;> rfl
      · unfold zer
        cases e : s i j with
        | none => rfl
        | some b => rfl
  have a1 : exS (cn n) (.asg (.one 7) (.lc (.ite (.isN false (.var 8)) (.gl false) (.var 8)) (.one 8) (.ix (.var 0) (.var 6)) none [("part", 8)])) [.val (shE m m s), .val (nD r), .val (nD c), .val X3, .val (shE (m - 1) (m - 1) t), .own acc, .val (nD i), cel c7, .un, cel c9, .un, .un] = some (.nx [.val (shE m m s), .val (nD r), .val (nD c), .val X3, .val (shE (m - 1) (m - 1) t), .own acc, .val (nD i), .val (.list ((List.range m).map fun j => cE (zer s i j))), .un, cel c9, .un, .un]) :=
    s_asg (g1 (cel c7)) (by cases c7 <;> rfl)
  have app : ∀ (c9 : Option D), exL (cn n) [.app 5 (.f1 .tuple (.var 7))] [.val (shE m m s), .val (nD r), .val (nD c), .val X3, .val (shE (m - 1) (m - 1) t), .own acc, .val (nD i), .val (.list ((List.range m).map fun j => cE (insF r c t i j))), .un, cel c9, .un, .un] = some (.nx [.val (shE m m s), .val (nD r), .val (nD c), .val X3, .val (shE (m - 1) (m - 1) t), .own (acc ++ [rowE m (insF r c t i)]), .val (nD i), .val (.list ((List.range m).map fun j => cE (insF r c t i j))), .un, cel c9, .un, .un]) := fun c9 => by
    refine ex_nx ?_ rfl
    have et : evE (cn n) (.f1 .tuple (.var 7)) [.val (shE m m s), .val (nD r), .val (nD c), .val X3, .val (shE (m - 1) (m - 1) t), .own acc, .val (nD i), .val (.list ((List.range m).map fun j => cE (insF r c t i j))), .un, cel c9, .un, .un] = some (rowE m (insF r c t i)) := ev_tup rfl
    rw [exS, et]
    show (if small acc.length then _ else none) = _
    rw [small_of hl, if_pos rfl]
    rfl
  have ec : evE (cn n) (.cmp .ne (.var 6) (.var 1)) [.val (shE m m s), .val (nD r), .val (nD c), .val X3, .val (shE (m - 1) (m - 1) t), .own acc, .val (nD i), .val (.list ((List.range m).map fun j => cE (zer s i j))), .un, cel c9, .un, .un] = some (.bool (decide (i ≠ r))) := ev_cmp rfl rfl (ne_nD i r)
  by_cases hir : i = r
  · rw [decide_eq_false (by omega)] at ec
    have e7 : (List.range m).map (fun j => cE (zer s i j)) = (List.range m).map fun j => cE (insF r c t i j) := List.map_congr_left fun j hj => by
      rw [zer_F zs hi (List.mem_range.mp hj)]
      unfold insF
      rw [if_pos (.inl hir)]
    refine ⟨some (.list ((List.range m).map fun j => cE (insF r c t i j))), c9, ex_nx a1 (ex_nx (s_iteF ec rfl) ?_)⟩
    rw [e7]
    exact app c9
  · rw [decide_eq_true hir] at ec
    have hsh := shr_lt hi hr hir
    have g9 : evE (cn n) (.ix (.var 4) (.ite (.cmp .lt (.var 6) (.var 1)) (.var 6) (.bin .sub (.var 6) (.cI 1)))) [.val (shE m m s), .val (nD r), .val (nD c), .val X3, .val (shE (m - 1) (m - 1) t), .own acc, .val (nD i), .val (.list ((List.range m).map fun j => cE (zer s i j))), .un, cel c9, .un, .un] = some (rowE (m - 1) (t (shr r i))) := by
      refine ev_ix (k := nD (shr r i)) rfl (ev_iteE (x := decide (i < r)) (ev_cmp rfl rfl (lt_nD i r)) ?_) (ix_sh hsh)
      unfold shr
      by_cases h1 : i < r
      · rw [decide_eq_true h1, if_pos rfl, if_pos h1]
        rfl
      · rw [decide_eq_false h1, if_neg h1]
        refine ev_bin (x := nD i) (y := nD 1) rfl rfl ?_
        show some (PyData.int _) = some (PyData.int _)
        congr 2
        show ((i : Int) - ((1 : Nat) : Int)) = ((i - 1 : Nat) : Int)
        omega
    have g7 : evE (cn n) (.lst [(.star (.sl (.var 9) none (some (.var 2)))), (.ix (.var 7) (.var 2)), (.star (.sl (.var 9) (some (.var 2)) none))]) [.val (shE m m s), .val (nD r), .val (nD c), .val X3, .val (shE (m - 1) (m - 1) t), .own acc, .val (nD i), .val (.list ((List.range m).map fun j => cE (zer s i j))), .un, .val (rowE (m - 1) (t (shr r i))), .un, .un] = some (.list ((List.range m).map fun j => cE (insF r c t i j))) := by
      have e1 := evL_star (c := cn n) (es := [(.ix (.var 7) (.var 2)), (.star (.sl (.var 9) (some (.var 2)) none))]) (ev_slT (c := cn n) (ρ := [.val (shE m m s), .val (nD r), .val (nD c), .val X3, .val (shE (m - 1) (m - 1) t), .own acc, .val (nD i), .val (.list ((List.range m).map fun j => cE (zer s i j))), .un, .val (rowE (m - 1) (t (shr r i))), .un, .un]) (a := .var 9) (e := .var 2) (l := (List.range (m - 1)).map fun j => cE (t (shr r i) j)) (k := c) rfl rfl) rfl
        (evL_cons rfl (ev_ix (d := .list ((List.range m).map fun j => cE (zer s i j))) (k := nD c) (d' := cE (zer s i c)) rfl rfl (atI_nat (get_range hc))) (evL_star (ev_slD (a := .var 9) (e := .var 2) (l := (List.range (m - 1)).map fun j => cE (t (shr r i) j)) (k := c) rfl rfl) rfl rfl))
      rw [evE, e1, Option.bind_some, List.append_nil]
      have e2 := list_ins (f := fun j => cE (t (shr r i) j)) (x := cE (zer s i c)) hc
      rw [e2, okL_of (by rw [List.length_map, List.length_range]; omega)]
      congr 2
      refine List.map_congr_left fun j _ => ?_
      unfold insF
      by_cases h2 : j = c
      · rw [if_pos h2, if_pos (.inr h2), zer_F zs hi hc]
      · rw [if_neg h2, if_neg fun z => z.elim hir h2]
    refine ⟨some (.list ((List.range m).map fun j => cE (insF r c t i j))), some (rowE (m - 1) (t (shr r i))), ex_nx a1 (ex_nx (s_iteT ec (ex_nx (s_asg g9 (by cases c9 <;> rfl)) (ex_nx (s_asg g7 rfl) rfl))) (app (some _)))⟩
/-- the beside has fewer -/
def Les (m : Nat) (s : Nat → Nat → Option Bool) (r c : Nat) : Bool := decide (m - 1 ≠ 0) && decide (gr (m - 1) (m - 1) (delRC s r c) < m - 1)
theorem e47 (hn : 19 ≤ n) (hm : m ≤ 4) (zs : Zs m m s) (hr : r < m) (hc : c < m) : runF tab n 47 [shE m m s, nD r, nD c] = some (if Les m s r c then .none else shE m m (insF r c (bf (m - 1) (m - 1) (delRC s r c)))) := by
  have zs' : Zs (m - 1) (m - 1) (delRC s r c) := zs_delRC zs
  have g1 : evE (cn n) (.call 46 [(.var 0), (.var 1), (.var 2)]) [.val (shE m m s), .val (nD r), .val (nD c), .un, .un, .un, .un, .un, .un, .un, .un, .un] = some (shE (m - 1) (m - 1) (delRC s r c)) := ev_call (ds := [shE m m s, nD r, nD c]) rfl (e46 (n := n - 1) (by omega) hr hc hm hm)
  have gn : evE (cn n) (.cmp .ne (.var 3) (.tup [])) [.val (shE m m s), .val (nD r), .val (nD c), .val (shE (m - 1) (m - 1) (delRC s r c)), .un, .un, .un, .un, .un, .un, .un, .un] = some (.bool (decide (m - 1 ≠ 0))) := e_nenil (h := m - 1) (w := m - 1) (s := delRC s r c) rfl
  have g2 : evE (cn n) (.and (.cmp .ne (.var 3) (.tup [])) (.cmp .lt (.call 34 [(.var 3)]) (.f1 .len (.var 3)))) [.val (shE m m s), .val (nD r), .val (nD c), .val (shE (m - 1) (m - 1) (delRC s r c)), .un, .un, .un, .un, .un, .un, .un, .un] = some (.bool (Les m s r c)) := by
    refine ev_and gn fun hz => ?_
    have := of_decide_eq_true hz
    exact ev_cmp (ev_call (ds := [shE (m - 1) (m - 1) (delRC s r c)]) rfl (e34 (n := n - 1) (by omega) zs'.pm (by omega) (by omega) (by omega) (by omega))) (ev_len rfl len_sh) (lt_nD _ _)
  cases hL : Les m s r c with
  | true =>
    rw [hL] at g2
    exact run_of (by omega) rfl rfl (ex_nx (s_asg g1 rfl) (ex_rt (s_iteT g2 (ex_ret rfl))))
  | false =>
    rw [hL] at g2
    have g3 : evE (cn n) (.ite (.cmp .ne (.var 3) (.tup [])) (.call 38 [(.var 3)]) (.tup [])) [.val (shE m m s), .val (nD r), .val (nD c), .val (shE (m - 1) (m - 1) (delRC s r c)), .un, .un, .un, .un, .un, .un, .un, .un] = some (shE (m - 1) (m - 1) (bf (m - 1) (m - 1) (delRC s r c))) := by
      refine ev_iteE gn ?_
      by_cases h1 : m - 1 = 0
      · rw [decide_eq_false (by omega), h1]
        rfl
      · rw [decide_eq_true h1, if_pos rfl]
        exact ev_call (ds := [shE (m - 1) (m - 1) (delRC s r c)]) rfl (e38' (n := n - 1) (by omega) (by omega) (by omega) (by omega) (by omega) zs')
    have hE := bf_ess (h := m - 1) (w := m - 1) (s := delRC s r c) (by omega) (by omega) zs'
    have ho : m - 1 ≤ ones (bf (m - 1) (m - 1) (delRC s r c)) (List.range (m - 1)) (List.range (m - 1)) := by
      by_cases h1 : m - 1 = 0
      · omega
      · refine Nat.le_trans ?_ (bf_ones (by omega) (by omega) zs')
        rw [← gr_nu (by omega) (by omega) zs'.pm]
        unfold Les at hL
        rw [decide_eq_true h1, Bool.true_and] at hL
        have := of_decide_eq_false hL
        omega
    generalize ht : bf (m - 1) (m - 1) (delRC s r c) = t at g3 hE ho ⊢
    have hts : ∀ i j, i < m - 1 → j < m - 1 → (t i j).isSome = true := fun i j hi hj => by rw [← ht]; exact bf_some hi hj
    have gr_ : evE (cn n) (.rng1 (.f1 .len (.var 0))) [.val (shE m m s), .val (nD r), .val (nD c), .val (shE (m - 1) (m - 1) (delRC s r c)), .val (shE (m - 1) (m - 1) t), .own [], .un, .un, .un, .un, .un, .un] = some (.list ((List.range m).map nD)) := by
      rw [evE, ev_len (d := shE m m s) rfl len_sh]
      show (if okR 0 (m : Int) then some (PyData.list (rangeD 0 (m : Int))) else none) = _
      rw [okR0 (by omega), if_pos rfl, range0]
    obtain ⟨ρ', e, c6, c7, c9, hρ⟩ := loop_inv (f := fun d ρ => (bindT (.one 6) d ρ).bind fun ρ' => exL (cn n) body47 ρ') nD
      (fun pre ρ => ∃ c6 c7 c9 : Option D, ρ = [.val (shE m m s), .val (nD r), .val (nD c), .val (shE (m - 1) (m - 1) (delRC s r c)), .val (shE (m - 1) (m - 1) t), .own (pre.map fun i => rowE m (insF r c t i)), cel c6, cel c7, .un, cel c9, .un, .un]) (List.range m) [] [.val (shE m m s), .val (nD r), .val (nD c), .val (shE (m - 1) (m - 1) (delRC s r c)), .val (shE (m - 1) (m - 1) t), .own [], .un, .un, .un, .un, .un, .un] (fun pre i post ρ eq ⟨c6, c7, c9, hρ⟩ => by
        subst hρ
        have eq : List.range m = pre ++ i :: post := eq
        have hi : i < m := List.mem_range.mp (by rw [eq]; exact List.mem_append_right _ List.mem_cons_self)
        have hl : pre.length ≤ m := by
          have := congrArg List.length eq
          rw [List.length_range, List.length_append] at this
          omega
        have eb : bindT (.one 6) (nD i) [.val (shE m m s), .val (nD r), .val (nD c), .val (shE (m - 1) (m - 1) (delRC s r c)), .val (shE (m - 1) (m - 1) t), .own (pre.map fun i => rowE m (insF r c t i)), cel c6, cel c7, .un, cel c9, .un, .un] = some [.val (shE m m s), .val (nD r), .val (nD c), .val (shE (m - 1) (m - 1) (delRC s r c)), .val (shE (m - 1) (m - 1) t), .own (pre.map fun i => rowE m (insF r c t i)), .val (nD i), cel c7, .un, cel c9, .un, .un] := by
          cases c6 <;> rfl
        obtain ⟨d7, d9, h1⟩ := rnd47 (n := n) (t := t) (A := .none) (X3 := shE (m - 1) (m - 1) (delRC s r c)) (acc := pre.map fun i => rowE m (insF r c t i)) (c7 := c7) (c9 := c9) hm zs hr hc hi (by rw [List.length_map]; omega)
        refine ⟨_, ?_, ⟨some (nD i), d7, d9, rfl⟩⟩
        simp only [eb, Option.bind_some]
        rw [List.map_append]
        exact h1) ⟨none, none, none, rfl⟩
    subst hρ
    refine run_of (df := df_47) (by omega) rfl rfl ?_
    rw [df47_eq]
    refine ex_nx (s_asg g1 rfl) (ex_nx (s_iteF g2 rfl) (ex_nx (s_asg g3 rfl) (ex_nx rfl (ex_nx (s_for gr_ rfl e) ?_))))
    exact bnt_t (shE m m s) (shE (m - 1) (m - 1) (delRC s r c)) (shE (m - 1) (m - 1) t) (cel c6) (cel c7) (cel c9) (by omega) (by omega) hm hr hc hE.pm hts ho
theorem s_forR {c : Bool → Nat → List D → Option D} {ρ : Rho} {t : T} {it : E} {b : List S} {ds : List D} {d x : D} (h : evE c it ρ = some d) (h1 : itemsOf d = some ds) (h2 : loopO (fun d ρ => (bindT t d ρ).bind fun ρ' => exL c b ρ') ds ρ = some (.ret x)) : exS c (.for_ t it b) ρ = some (.ret x) := by
  simp only [exS, h, h1, Option.bind_some, h2]
/-- what low_filling gives -/
def Low (m : Nat) (s t : Nat → Nat → Option Bool) : Prop := Fil m m s t ∧ Pm m m t ∧ ones t (List.range m) (List.range m) < m
theorem low_ins (hm : m ≤ 4) (zs : Zs m m s) (hr : r < m) (hc : c < m) : Low m s (insF r c (bf (m - 1) (m - 1) (delRC s r c))) := by
  have zs' : Zs (m - 1) (m - 1) (delRC s r c) := zs_delRC zs
  have hE := (bf_ess (h := m - 1) (w := m - 1) (s := delRC s r c) (by omega) (by omega) zs').pm
  exact ⟨⟨fun i j hi hj => insF_some hr hc (fun i j hi hj => bf_some hi hj) hi hj, fun i j b hi hj e => insF_ext zs hi hj e⟩, insF_pm hr hc hE, insF_ones hr hc hE⟩
theorem low_zer (h0 : 0 < m) (zs : Zs m m s) : Low m s (zer s) :=
  ⟨⟨fun i j _ _ => zer_some, fun i j b _ _ e => zer_keep e⟩, (zer_zs zs).pm, by rw [(zer_zs zs).ones (fun i hi => List.mem_range.mp hi) fun i hi => List.mem_range.mp hi]; exact h0⟩
def body48 : List S := [.asg (.one 4) (.call 47 [(.var 1), (.var 2), (.var 3)]), .ite (.isN true (.var 4)) [.ret (.var 4)] []]
theorem loop48 (hn : 20 ≤ n) (hm : m ≤ 4) (zs : Zs m m s) (X : D) : ∀ (l : List (Nat × Nat)) (x y z : Option D), (∀ q ∈ l, q.1 < m ∧ q.2 < m) → (∃ q ∈ l, Les m s q.1 q.2 = false) → ∃ t, loopO (fun d ρ => (bindT (.tup [(.one 2), (.one 3)]) d ρ).bind fun ρ' => exL (cn n) body48 ρ') (l.map pD) [.val X, .val (shE m m s), cel x, cel y, cel z] = some (.ret (shE m m t)) ∧ Low m s t
  | [], _, _, _, _, H => by
    obtain ⟨_, h, _⟩ := H
    cases h
  | q :: l, x, y, z, hq, H => by
    obtain ⟨q1, q2⟩ := hq q List.mem_cons_self
    have eb : bindT (.tup [(.one 2), (.one 3)]) (pD q) [.val X, .val (shE m m s), cel x, cel y, cel z] = some [.val X, .val (shE m m s), .val (nD q.1), .val (nD q.2), cel z] := by
      cases x <;> cases y <;> rfl
    have ec := ev_call (c := cn n) (ρ := [.val X, .val (shE m m s), .val (nD q.1), .val (nD q.2), cel z]) (f := 47) (es := [.var 1, .var 2, .var 3]) (ds := [shE m m s, nD q.1, nD q.2]) rfl (e47 (n := n - 1) (by omega) hm zs q1 q2)
    cases hL : Les m s q.1 q.2 with
    | true =>
      rw [hL, if_pos rfl] at ec
      obtain ⟨t, h1, h2⟩ := loop48 hn hm zs X l (some (nD q.1)) (some (nD q.2)) (some .none) (fun p hp => hq p (List.mem_cons_of_mem _ hp)) (by
        obtain ⟨p, hp, e⟩ := H
        rcases List.mem_cons.mp hp with rfl | hp
        · rw [hL] at e; cases e
        · exact ⟨p, hp, e⟩)
      refine ⟨t, ?_, h2⟩
      have eB : exL (cn n) body48 [.val X, .val (shE m m s), .val (nD q.1), .val (nD q.2), cel z] = some (.nx [.val X, .val (shE m m s), .val (nD q.1), .val (nD q.2), .val .none]) := ex_nx (s_asg ec (by cases z <;> rfl)) (ex_nx (s_iteF (by rfl) rfl) rfl)
      rw [List.map_cons, loopO]
      simp only [eb, eB, Option.bind_some]
      exact h1
    | false =>
      rw [hL] at ec
      have ec : evE (cn n) (.call 47 [.var 1, .var 2, .var 3]) [.val X, .val (shE m m s), .val (nD q.1), .val (nD q.2), cel z] = some (shE m m (insF q.1 q.2 (bf (m - 1) (m - 1) (delRC s q.1 q.2)))) := ec
      refine ⟨_, ?_, low_ins hm zs q1 q2⟩
      have eB : exL (cn n) body48 [.val X, .val (shE m m s), .val (nD q.1), .val (nD q.2), cel z] = some (.ret (shE m m (insF q.1 q.2 (bf (m - 1) (m - 1) (delRC s q.1 q.2))))) := ex_nx (s_asg ec (by cases z <;> rfl)) (ex_rt (s_iteT (by rfl) (ex_ret rfl)))
      rw [List.map_cons, loopO]
      simp only [eb, eB, Option.bind_some]
theorem e48 (hn : 21 ≤ n) (h0 : 0 < m) (hm : m ≤ 4) (zs : Zs m m s) : ∃ t, runF tab n 48 [shE m m s] = some (shE m m t) ∧ Low m s t := by
  have g1 : evE (cn n) (.call 4 [(.var 0)]) [.val (shE m m s), .un, .un, .un, .un] = some (shE m m s) := ev_call (ds := [shE m m s]) rfl (e4_cr (n := n - 1) (rows := List.range m) (cols := List.range m) (by omega) (by rw [List.length_range]; omega) (by rw [List.length_range]; omega))
  have g2 : evE (cn n) (.cmp .ne (.f1 .len (.var 1)) (.f1 .len (.ix (.var 1) (.cI 0)))) [.val (shE m m s), .val (shE m m s), .un, .un, .un] = some (.bool false) := Eq.trans (ev_cmp (ev_len rfl len_sh) (ev_len (ev_ix rfl rfl (ix_sh h0)) len_row) (ne_nD m m)) (by rw [decide_eq_false (by omega)])
  have g3 : evE (cn n) (.cmp .lt (.call 34 [(.var 1)]) (.f1 .len (.var 1))) [.val (shE m m s), .val (shE m m s), .un, .un, .un] = some (.bool (decide (gr m m s < m))) := ev_cmp (ev_call (ds := [shE m m s]) rfl (e34 (n := n - 1) (by omega) zs.pm h0 hm h0 hm)) (ev_len rfl len_sh) (lt_nD _ _)
  have g4 : evE (cn n) (.call 26 [(.var 1)]) [.val (shE m m s), .val (shE m m s), .un, .un, .un] = some (.list ((holes m m s).map pD)) := ev_call (ds := [shE m m s]) rfl (e26 (n := n - 1) (by omega) h0 hm hm)
  have hml : m * m ≤ 4 * 4 := Nat.mul_le_mul hm hm
  have hhl := holes_len (h := m) (w := m) (s := s)
  by_cases hg : gr m m s < m
  · rw [decide_eq_true hg] at g3
    refine ⟨zer s, ?_, low_zer h0 zs⟩
    refine run_of (by omega) rfl rfl (ex_nx (s_asg g1 rfl) (ex_nx (s_iteF g2 rfl) (ex_rt (s_iteT g3 (ex_ret ?_)))))
    refine ev_call (ds := [shE m m s, .list (List.replicate (holes m m s).length (cE (some false)))]) (evL_cons rfl rfl (evL_cons rfl ?_ rfl)) (e28 (n := n - 1) (by omega) h0 hm hm)
    refine ev_bin (x := .list [cE (some false)]) (y := nD (holes m m s).length) rfl ?_ ?_
    · refine ev_len (d := .list ((holes m m s).map pD)) ?_ ?_
      · simp only [bor]
        exact g4
      · simp only [f1F, List.length_map, nD]
    · show (if decide ((0 : Int) ≤ ((holes m m s).length : Int)) && decide (((holes m m s).length : Int) < 5000) then okL (List.replicate ((holes m m s).length : Int).toNat [cE (some false)]).flatten else none) = _
      rw [decide_eq_true (by omega), decide_eq_true (by omega), Bool.and_self, if_pos rfl, Int.toNat_natCast]
      have : ∀ k : Nat, (List.replicate k [cE (some false)]).flatten = List.replicate k (cE (some false)) := fun k => by
        induction k with
        | zero => rfl
        | succ k ih => rw [List.replicate_succ, List.flatten_cons, ih, List.replicate_succ]; rfl
      rw [this, okL_of (by rw [List.length_replicate]; omega)]
  · rw [decide_eq_false hg] at g3
    rw [gr_nu hm hm zs.pm] at hg
    obtain ⟨k, k1, k2, k3⟩ := full_hole h0 zs (by omega)
    have hk : Les m s 0 k = false := by
      unfold Les
      by_cases h1 : m - 1 = 0
      · rw [decide_eq_false (by omega)]; rfl
      · rw [gr_nu (by omega) (by omega) (zs_delRC zs).pm, decide_eq_false (p := _ < _) (by omega), Bool.and_false]
    obtain ⟨t, h1, h2⟩ := loop48 (n := n) (by omega) hm zs (shE m m s) (holes m m s) none none none (fun q hq => ⟨(holes_mem.mp hq).1, (holes_mem.mp hq).2.1⟩) ⟨(0, k), holes_mem.mpr ⟨h0, k1, k2⟩, hk⟩
    exact ⟨t, run_of (by omega) rfl rfl (ex_nx (s_asg g1 rfl) (ex_nx (s_iteF g2 rfl) (ex_nx (s_iteF g3 rfl) (ex_rt (s_forR g4 rfl h1))))), h2⟩
end
end PV
end
section -- M25
/-! The law on a sheet. -/
namespace PV
open PySem L2
theorem list_eta {α : Type} (d : α) (l : List α) : l = (List.range l.length).map fun i => l.getD i d := by
  refine List.ext_getElem? fun i => ?_
  by_cases hi : i < l.length
  · rw [get_range hi, List.getD_eq_getElem?_getD, List.getElem?_eq_getElem hi]
    rfl
  · rw [List.getElem?_eq_none (by omega), List.getElem?_eq_none (by rw [List.length_map, List.length_range]; omega)]
/-- the sheet of a list -/
def scL_ (s : List (List Bool)) : Nat → Nat → Option Bool := fun i j => if (s.getD i []).getD j false then none else some false
theorem shD_eq {h w : Nat} {s : List (List Bool)} (hs : s.length = h) (hr : ∀ r ∈ s, r.length = w) : shD s = shE h w (scL_ s) := by
  unfold shD shE
  have e := list_eta ([] : List Bool) s
  rw [hs] at e
  conv => lhs; rw [e]
  rw [List.map_map]
  refine congrArg _ (List.map_congr_left fun i hi => ?_)
  have hi := List.mem_range.mp hi
  have hlen : (s.getD i []).length = w := by
    rw [List.getD_eq_getElem?_getD, List.getElem?_eq_getElem (by omega)]
    exact hr _ (List.getElem_mem _)
  have e2 := list_eta false (s.getD i [])
  rw [hlen] at e2
  show rowD (s.getD i []) = rowE w (scL_ s i)
  unfold rowD rowE
  conv => lhs; rw [e2]
  rw [List.map_map]
  refine congrArg _ (List.map_congr_left fun j _ => ?_)
  show cD ((s.getD i []).getD j false) = cE (scL_ s i j)
  unfold scL_ cD
  cases (s.getD i []).getD j false <;> rfl
theorem scL_zs (h w : Nat) (s : List (List Bool)) : Zs h w (scL_ s) := fun i j _ _ e => by
  unfold scL_ at e
  split at e <;> cases e
def bodyC : List S := [.asg (.one 9) (.call 39 [(.var 1), (.var 8)]), .ite (.or (.not (.call 70 [(.var 1), (.var 8), (.var 9)])) (.cmp .ne (.ix (.var 9) (.cI 0)) (.ite (.cmp .eq (.var 8) (.var 2)) (.cS "filling") (.cS "window")))) [.ret (.cB false)] [], .asg (.one 7) (.lc (.call 42 [(.var 1), (.bin .add (.var 8) (.var 10)), (.var 9)]) (.one 10) (.tup [(.cI 0), (.cI 1)]) none [("_law_gap_so", 10)]), .ite (.not (.call 50 [(.var 7), (.lst [(.cB true), (.call 70 [(.var 1), (.bin .add (.var 8) (.cI 1)), (.var 9)])])])) [.ret (.cB false)] []]
theorem ne_ff : cmpF .ne (.str "filling") (.str "filling") = some (.bool false) := by kernel_rfl
theorem ne_ww : cmpF .ne (.str "window") (.str "window") = some (.bool false) := by kernel_rfl
theorem ne_str {x : Str} {b : Bool} (h : (if b then ("filling" : Str) else "window") = x) : cmpF .ne (.str x) (.str x) = some (.bool false) := by
  subst h
  cases b with
  | true => exact ne_ff
  | false => exact ne_ww
theorem ev_lst {c : Bool → Nat → List D → Option D} {ρ : Rho} {es : List E} {ds : List D} (h : evL c es ρ = some ds) (hl : ds.length ≤ 5000) : evE c (.lst es) ρ = some (.list ds) := by
  simp only [evE, h, Option.bind_some]
  exact okL_of hl
theorem rndC {bx : List D} {d W sf w6 x7 y : D} {g k : Nat} {x : Str} {c9 : Option D} {b : Bool}
    (h39 : runF tab 39 39 [d, nD k] = some (.tuple [.str x, y])) (h70 : runF tab 39 70 [d, nD k, .tuple [.str x, y]] = some (.bool true)) (hx : (if decide (k = g) then ("filling" : Str) else "window") = x)
    (h42 : runF tab 39 42 [d, nD k, .tuple [.str x, y]] = some (.bool true)) (h43 : runF tab 39 42 [d, nD (k + 1), .tuple [.str x, y]] = some (.bool b)) (h71 : runF tab 39 70 [d, nD (k + 1), .tuple [.str x, y]] = some (.bool b)) :
    exL (cn 40) bodyC [.own bx, .val d, .val (nD g), .val W, .val sf, .un, .val w6, .val x7, .val (nD k), cel c9, .un, .un] = some (.nx [.own bx, .val d, .val (nD g), .val W, .val sf, .un, .val w6, .val (.list [.bool true, .bool b]), .val (nD k), .val (.tuple [.str x, y]), .un, .un]) := by
  have g1 : evE (cn 40) (.call 39 [(.var 1), (.var 8)]) [.own bx, .val d, .val (nD g), .val W, .val sf, .un, .val w6, .val x7, .val (nD k), cel c9, .un, .un] = some (.tuple [.str x, y]) := ev_call (ds := [d, nD k]) rfl h39
  have g2 : evE (cn 40) (.or (.not (.call 70 [(.var 1), (.var 8), (.var 9)])) (.cmp .ne (.ix (.var 9) (.cI 0)) (.ite (.cmp .eq (.var 8) (.var 2)) (.cS "filling") (.cS "window")))) [.own bx, .val d, .val (nD g), .val W, .val sf, .un, .val w6, .val x7, .val (nD k), .val (.tuple [.str x, y]), .un, .un] = some (.bool false) := by
    refine ev_or (x := false) (y := false) (ev_not (x := true) (ev_call (ds := [d, nD k, .tuple [.str x, y]]) rfl h70)) fun _ => ?_
    refine ev_cmp (x := .str x) (y := .str x) (ev_ix rfl rfl rfl) (ev_iteE (x := decide (k = g)) (ev_cmp rfl rfl (eq_nD k g)) ?_) (ne_str hx)
    rw [← hx]
    cases decide (k = g) <;> rfl
  have g3 : evE (cn 40) (.lc (.call 42 [(.var 1), (.bin .add (.var 8) (.var 10)), (.var 9)]) (.one 10) (.tup [(.cI 0), (.cI 1)]) none [("_law_gap_so", 10)]) [.own bx, .val d, .val (nD g), .val W, .val sf, .un, .val w6, .val x7, .val (nD k), .val (.tuple [.str x, y]), .un, .un] = some (.list ([0, 1].map fun j => if j = 0 then .bool true else .bool b)) := by
    refine ev_lc0 [0, 1] nD (fun j => if j = 0 then .bool true else .bool b) (fun j => [.own bx, .val d, .val (nD g), .val W, .val sf, .un, .val w6, .val x7, .val (nD k), .val (.tuple [.str x, y]), .val (nD j), .un]) rfl (fun _ _ => rfl) (fun j hj => ?_) (show 2 ≤ 5000 by decide)
    have e : ∀ j : Nat, evE (cn 40) (.bin .add (.var 8) (.var 10)) [.own bx, .val d, .val (nD g), .val W, .val sf, .un, .val w6, .val x7, .val (nD k), .val (.tuple [.str x, y]), .val (nD j), .un] = some (nD (k + j)) := fun j => ev_bin (x := nD k) (y := nD j) rfl rfl rfl
    rcases List.mem_cons.mp hj with rfl | hj
    · exact ev_call (ds := [d, nD k, .tuple [.str x, y]]) (evL_cons rfl rfl (evL_cons rfl (e 0) rfl)) h42
    · rw [List.mem_singleton.mp hj]
      exact ev_call (ds := [d, nD (k + 1), .tuple [.str x, y]]) (evL_cons rfl rfl (evL_cons rfl (e 1) rfl)) h43
  have g4 : evE (cn 40) (.call 50 [(.var 7), (.lst [(.cB true), (.call 70 [(.var 1), (.bin .add (.var 8) (.cI 1)), (.var 9)])])]) [.own bx, .val d, .val (nD g), .val W, .val sf, .un, .val w6, .val (.list [.bool true, .bool b]), .val (nD k), .val (.tuple [.str x, y]), .un, .un] = some (.bool true) := by
    refine ev_call (ds := [.list [.bool true, .bool b], .list [.bool true, .bool b]]) (evL_cons rfl rfl (evL_cons rfl (ev_lst (evL_cons rfl rfl (evL_cons rfl (ev_call (ds := [d, nD (k + 1), .tuple [.str x, y]]) (evL_cons rfl rfl (evL_cons rfl (ev_inc rfl) rfl)) h71) rfl)) (show 2 ≤ 5000 by decide)) rfl)) ?_
    refine same_l (n := 39) (by omega) (show 2 ≤ 5000 by decide) fun z hz => ?_
    rcases List.mem_cons.mp hz with rfl | hz
    · exact same_b (by omega)
    · rw [List.mem_singleton.mp hz]
      exact same_b (by omega)
  exact ex_nx (s_asg g1 (by cases c9 <;> rfl)) (ex_nx (s_iteF g2 rfl) (ex_nx (s_asg g3 rfl) (ex_nx (s_iteF (ev_not g4) rfl) rfl)))
theorem same_nT {n : Nat} {l : List Nat} (hn : 5 ≤ n) (hl : l.length ≤ 5000) : runF tab n 50 [nT l, nT l] = some (.bool true) :=
  same_t (by omega) (by rw [List.length_map]; exact hl) fun x hx => by
    obtain ⟨k, _, rfl⟩ := List.mem_map.mp hx
    exact same_n (by omega)
theorem same_two {n : Nat} {a b : D} (hn : 4 ≤ n) (h1 : runF tab (n - 1) 50 [a, a] = some (.bool true)) (h2 : runF tab (n - 1) 50 [b, b] = some (.bool true)) : runF tab n 50 [.tuple [a, b], .tuple [a, b]] = some (.bool true) :=
  same_t hn (show 2 ≤ 5000 by decide) fun x hx => by
    rcases List.mem_cons.mp hx with rfl | hx
    · exact h1
    · rw [List.mem_singleton.mp hx]
      exact h2
theorem fl_le (m : Nat) (p : Nat → Bool) : ((List.range m).filter p).length ≤ m := by
  have := List.length_filter_le p (List.range m)
  rw [List.length_range] at this
  exact this
theorem cr_sh {h w : Nat} {s : Nat → Nat → Option Bool} (h0 : 0 < h) (hh : h ≤ 4) (w0 : 0 < w) (hw : w ≤ 4) (zs : Zs h w s) : CR 36 (shE h w s) := by
  have ec : ccn 36 = cn 40 := rfl
  have hgr : gr h w s = mp h w s := by rw [gr_nu hh hw zs.pm, mp_nu zs]
  have hls : lst h w s = mp h w s := by rw [lst_nu hh hw zs, mp_nu zs]
  have hgR : gR h w s = mp h w s := by rw [gR_nu hh zs.pm, mp_nu zs]
  have hon := bf_ones hh hw zs
  rw [← mp_nu zs] at hon
  have hbp := (bf_ess hh hw zs).pm
  have hF : Fil h w s (bf h w s) := ⟨fun i j hi hj => bf_some hi hj, fun i j b _ _ e => bf_keep e⟩
  have htt := tRows_t hh zs.pm
  obtain ⟨ht1, ht2⟩ := tR_mem.mp htt
  have hwb : wb h w s (tRows h w s) (told w s (tRows h w s)) = mp h w s := ht2.trans hgR
  have e37' := e37 (n := 39) (by omega) zs.pm h0 hh w0 hw
  have e45' := e45 (n := 39) (d := soft h w s) (by omega) zs.pm h0 hh w0 hw (e4_soft (by omega) (by omega) (by omega))
  have e67' := e67 (n := 39) (s := s) (by omega) h0 hh hw
  have e74' := e74 (n := 39) (s := s) (by omega) h0 hh w0 hw
  rw [← t_cAny hh hw zs, ← t_rAny hh hw zs, ← t_rAll hh hw zs, ← t_cAll hh hw zs] at e37'
  rw [hgr, rnd_rnl h0 hh hw zs, rnd_rnl w0 hw hh zs.tr, plc_pll hh hw zs] at e45'
  have hwl := wins_len (s := s) hh hw
  have hml : h * w ≤ 4 * 4 := Nat.mul_le_mul hh hw
  have hpl : (pll h w s (mp h w s)).length ≤ 5000 := by
    have h1 := holes_len (h := h) (w := w) (s := s)
    have h2 : (pll h w s (mp h w s)).length ≤ (holes h w s).length := List.length_filter_le _ _
    omega
  -- the two compared lists are one
  have sT : runF tab 38 50 [.tuple [.tuple [nT (rAll h (tws h w s)), nT (cAny w (tws h w s))], .tuple [nT (rAny h (tws h w s)), nT (cAll w (tws h w s))]], .tuple [.tuple [nT (rAll h (tws h w s)), nT (cAny w (tws h w s))], .tuple [nT (rAny h (tws h w s)), nT (cAll w (tws h w s))]]] = some (.bool true) := by
    have a1 := fl_le h (fun k => (tws h w s).all fun z => z.1.contains k)
    have a2 := fl_le w (fun k => (tws h w s).any fun z => z.2.contains k)
    have a3 := fl_le h (fun k => (tws h w s).any fun z => z.1.contains k)
    have a4 := fl_le w (fun k => (tws h w s).all fun z => z.2.contains k)
    refine same_two (by omega) (same_two (by omega) (same_nT (by omega) ?_) (same_nT (by omega) ?_)) (same_two (by omega) (same_nT (by omega) ?_) (same_nT (by omega) ?_))
    · exact Nat.le_trans a1 (by omega)
    · exact Nat.le_trans a2 (by omega)
    · exact Nat.le_trans a3 (by omega)
    · exact Nat.le_trans a4 (by omega)
  have sN : runF tab 38 50 [.tuple [nT (rnl h w s (mp h w s)), nT (rnl w h (tr s) (mp h w s)), .tuple ((pll h w s (mp h w s)).map pD)], .tuple [nT (rnl h w s (mp h w s)), nT (rnl w h (tr s) (mp h w s)), .tuple ((pll h w s (mp h w s)).map pD)]] = some (.bool true) := by
    have a1 := fl_le h (fun r => decide (mp (h - 1) w (delR s r) < mp h w s))
    have a2 := fl_le w (fun r => decide (mp (w - 1) h (delR (tr s) r) < mp h w s))
    refine same_t (by omega) (show 3 ≤ 5000 by decide) fun z hz => ?_
    rcases List.mem_cons.mp hz with rfl | hz
    · exact same_nT (by omega) (Nat.le_trans a1 (by omega))
    rcases List.mem_cons.mp hz with rfl | hz
    · exact same_nT (by omega) (Nat.le_trans a2 (by omega))
    rw [List.mem_singleton.mp hz]
    refine same_t (by omega) (by rw [List.length_map]; exact hpl) fun y hy => ?_
    obtain ⟨q, _, rfl⟩ := List.mem_map.mp hy
    exact same_two (by omega) (same_n (by omega)) (same_n (by omega))
  generalize hTT : (.tuple [.tuple [nT (rAll h (tws h w s)), nT (cAny w (tws h w s))], .tuple [nT (rAny h (tws h w s)), nT (cAll w (tws h w s))]] : D) = TT at e37' e67' sT
  generalize hNN : (.tuple [nT (rnl h w s (mp h w s)), nT (rnl w h (tr s) (mp h w s)), .tuple ((pll h w s (mp h w s)).map pD)] : D) = NN at e45' e74' sN
  refine ⟨nD (mp h w s), (wins h w s).map (wnd h w), soft h w s, fun bx => ⟨?_, ?_⟩, fun z => wins_ne hh hw (List.map_eq_nil_iff.mp z), by rw [List.length_map]; omega, fun bx w6 hw6 => ?_⟩
  · rw [ec]
    have t1 : evE (cn 40) (.call 72 [(.var 1), (.cI 0), (.tup [])]) [.own bx, .val (shE h w s), .un, .un, .un, .un, .un, .un, .un, .un, .un, .un] = some (nD (mp h w s)) := ev_call (ds := [shE h w s, nD 0, nT []]) rfl (e72' (n := 39) (by omega) hh hw)
    have t2 : evE (cn 40) (.call 73 [(.var 1)]) [.own bx, .val (shE h w s), .un, .un, .un, .un, .un, .un, .un, .un, .un, .un] = some (.list ((wins h w s).map (wnd h w))) := ev_call (ds := [shE h w s]) rfl (e73 (n := 39) (by omega) h0 hh w0 hw)
    have t3 : evE (cn 40) (.call 49 [(.var 1)]) [.own bx, .val (shE h w s), .un, .un, .un, .un, .un, .un, .un, .un, .un, .un] = some (soft h w s) := ev_call (ds := [shE h w s]) rfl (e49_sh (n := 39) (by omega) (by omega) (by omega))
    unfold crA
    rw [exS, t1, Option.bind_some, t2, Option.bind_some, t3]
    rfl
  · rw [ec]
    unfold crB
    refine s_iteF ?_ rfl
    have g2 : evE (cn 40) (.f1 .min (.lc (.ix (.var 5) (.cI 2)) (.one 5) (.var 3) none [("_law_own", 5)])) [.own bx, .val (shE h w s), .val (nD (mp h w s)), .val (.list ((wins h w s).map (wnd h w))), .val (soft h w s), .un, .un, .un, .un, .un, .un, .un] = some (nD (lst h w s)) := by
      refine ev_min (l := (wins h w s).map (cnt h w)) ?_ (fun z => wins_ne hh hw (List.map_eq_nil_iff.mp z))
      rw [List.map_map]
      exact ev_lc0 (wins h w s) (wnd h w) (fun z => nD (cnt h w z)) (fun z => [.own bx, .val (shE h w s), .val (nD (mp h w s)), .val (.list ((wins h w s).map (wnd h w))), .val (soft h w s), .val (wnd h w z), .un, .un, .un, .un, .un, .un]) rfl (fun _ _ => rfl) (fun _ _ => rfl) (by omega)
    refine Eq.trans (ev_cmp g2 rfl (ne_nD _ _)) ?_
    rw [hls, decide_eq_false (by omega)]
  · rw [ec]
    obtain ⟨z, hz, rfl⟩ := List.mem_map.mp hw6
    obtain ⟨z1, z2, z3⟩ := wins_mem.mp hz
    have z3 := tw_iff.mp z3
    obtain ⟨r1, r2, r3, _⟩ := lots_in h (le4 hh) z.1 z1
    obtain ⟨c1, c2, c3, _⟩ := lots_in w (le4 hw) z.2 z2
    have hcz : wb h w s z.1 z.2 = cnt h w z := by
      unfold wb cnt
      rw [zs.ones r1 c1]
      rfl
    generalize hW : (.list ((wins h w s).map (wnd h w)) : D) = W at e67'
    generalize hsf : soft h w s = sf at e45'
    have e35' : runF tab 39 35 [sf] = some (nD (mp h w s)) := by
      rw [← hsf, ← hgr]
      exact e35 (n := 39) (by omega) zs.pm h0 hh w0 hw
    have g1 : evE (cn 40) (.lst [(.call 35 [(.var 4)]), (.call 37 [(.var 1)]), (.call 45 [(.var 4)]), (.call 32 [(.var 1), (.ix (.var 6) (.cI 0)), (.ix (.var 6) (.cI 1))])]) [.own bx, .val (shE h w s), .val (nD (mp h w s)), .val W, .val sf, .un, .val (wnd h w z), .un, .un, .un, .un, .un] = some (.list [nD (mp h w s), TT, NN, nD (cnt h w z)]) := by
      refine ev_lst (evL_cons rfl (ev_call (ds := [sf]) rfl e35') (evL_cons rfl (ev_call (ds := [shE h w s]) rfl e37') (evL_cons rfl (ev_call (ds := [sf]) rfl e45') (evL_cons rfl (ev_call (ds := [shE h w s, nT z.1, nT z.2]) (evL_cons rfl rfl (evL_cons rfl (ev_ix (d := wnd h w z) rfl rfl rfl) (evL_cons rfl (ev_ix (d := wnd h w z) rfl rfl rfl) rfl))) ?_) rfl)))) (show 4 ≤ 5000 by decide)
      rw [← hcz]
      exact e32 (n := 39) (by omega) zs.pm h0 hh hw r1 c1 r3 c3 r2 c2 z3
    have g2 : evE (cn 40) (.call 50 [(.var 7), (.lst [(.var 2), (.call 67 [(.var 1), (.var 3)]), (.call 74 [(.var 1)]), (.ix (.var 6) (.cI 2))])]) [.own bx, .val (shE h w s), .val (nD (mp h w s)), .val W, .val sf, .un, .val (wnd h w z), .val (.list [nD (mp h w s), TT, NN, nD (cnt h w z)]), .un, .un, .un, .un] = some (.bool true) := by
      refine ev_call (ds := [.list [nD (mp h w s), TT, NN, nD (cnt h w z)], .list [nD (mp h w s), TT, NN, nD (cnt h w z)]]) (evL_cons rfl rfl (evL_cons rfl (ev_lst (evL_cons rfl rfl (evL_cons rfl (ev_call (ds := [shE h w s, W]) rfl e67') (evL_cons rfl (ev_call (ds := [shE h w s]) rfl e74') (evL_cons rfl (ev_ix (d := wnd h w z) (d' := nD (cnt h w z)) rfl rfl rfl) rfl)))) (show 4 ≤ 5000 by decide)) rfl)) ?_
      refine same_l (n := 39) (by omega) (show 4 ≤ 5000 by decide) fun y hy => ?_
      rcases List.mem_cons.mp hy with rfl | hy
      · exact same_n (by omega)
      rcases List.mem_cons.mp hy with rfl | hy
      · exact sT
      rcases List.mem_cons.mp hy with rfl | hy
      · exact sN
      rw [List.mem_singleton.mp hy]
      exact same_n (by omega)
    have g3 : evE (cn 40) (.tup [(.var 2), (.bin .add (.var 2) (.cI 1))]) [.own bx, .val (shE h w s), .val (nD (mp h w s)), .val W, .val sf, .un, .val (wnd h w z), .val (.list [nD (mp h w s), TT, NN, nD (cnt h w z)]), .un, .un, .un, .un] = some (.tuple ([mp h w s, mp h w s + 1].map nD)) :=
      ev_tupl (evL_cons rfl rfl (evL_cons rfl (ev_inc rfl) rfl)) (show 2 ≤ 5000 by decide)
    have hr : ∀ k ∈ [mp h w s, mp h w s + 1], ∃ (x : Str) (y : D) (b : Bool), runF tab 39 39 [shE h w s, nD k] = some (.tuple [.str x, y]) ∧ runF tab 39 70 [shE h w s, nD k, .tuple [.str x, y]] = some (.bool true) ∧ (if decide (k = mp h w s) then ("filling" : Str) else "window") = x ∧
        runF tab 39 42 [shE h w s, nD k, .tuple [.str x, y]] = some (.bool true) ∧ runF tab 39 42 [shE h w s, nD (k + 1), .tuple [.str x, y]] = some (.bool b) ∧ runF tab 39 70 [shE h w s, nD (k + 1), .tuple [.str x, y]] = some (.bool b) := by
      intro k hk
      rcases List.mem_cons.mp hk with rfl | hk
      · refine ⟨"filling", shE h w (bf h w s), decide (mp h w s + 1 ≤ ones (bf h w s) (List.range h) (List.range w)), e39F (n := 39) (by omega) h0 hh w0 hw zs (by omega), ?_, by rw [decide_eq_true rfl]; rfl, ?_, e42F (n := 39) (by omega) h0 hh w0 hw hF hbp, e70F (n := 39) (by omega) hh hw hF hbp⟩
        · exact Eq.trans (e70F (n := 39) (k := mp h w s) (by omega) hh hw hF hbp) (by rw [decide_eq_true hon])
        · exact Eq.trans (e42F (n := 39) (k := mp h w s) (by omega) h0 hh w0 hw hF hbp) (by rw [decide_eq_true hon])
      · rw [List.mem_singleton.mp hk]
        refine ⟨"window", .tuple [nT (tRows h w s), nT (told w s (tRows h w s))], decide (wb h w s (tRows h w s) (told w s (tRows h w s)) < mp h w s + 1 + 1), e39W (n := 39) (by omega) h0 hh w0 hw zs (by omega), ?_, by rw [decide_eq_false (by omega)]; rfl, ?_, e42W (n := 39) (by omega) h0 hh w0 hw zs.pm ht1 (told_lots hw _) told_some, e70W (n := 39) (by omega) h0 hh w0 hw zs.pm ht1 (told_lots hw _) told_some⟩
        · exact Eq.trans (e70W (n := 39) (k := mp h w s + 1) (by omega) h0 hh w0 hw zs.pm ht1 (told_lots hw _) told_some) (by rw [hwb, decide_eq_true (by omega)])
        · exact Eq.trans (e42W (n := 39) (k := mp h w s + 1) (by omega) h0 hh w0 hw zs.pm ht1 (told_lots hw _) told_some) (by rw [hwb, decide_eq_true (by omega)])
    obtain ⟨ρ', e, x7, c8, c9, hρ⟩ := loop_inv (f := fun d ρ => (bindT (.one 8) d ρ).bind fun ρ' => exL (cn 40) bodyC ρ') nD
      (fun pre ρ => ∃ (x7 : D) (c8 c9 : Option D), ρ = [.own bx, .val (shE h w s), .val (nD (mp h w s)), .val W, .val sf, .un, .val (wnd h w z), .val x7, cel c8, cel c9, .un, .un]) [mp h w s, mp h w s + 1] [] [.own bx, .val (shE h w s), .val (nD (mp h w s)), .val W, .val sf, .un, .val (wnd h w z), .val (.list [nD (mp h w s), TT, NN, nD (cnt h w z)]), .un, .un, .un, .un] (fun pre k post ρ eq ⟨x7, c8, c9, hρ⟩ => by
        subst hρ
        have eq : [mp h w s, mp h w s + 1] = pre ++ k :: post := eq
        have hk : k ∈ [mp h w s, mp h w s + 1] := by rw [eq]; exact List.mem_append_right _ List.mem_cons_self
        obtain ⟨x, y, b, q1, q2, q3, q4, q5, q6⟩ := hr k hk
        have eb : bindT (.one 8) (nD k) [.own bx, .val (shE h w s), .val (nD (mp h w s)), .val W, .val sf, .un, .val (wnd h w z), .val x7, cel c8, cel c9, .un, .un] = some [.own bx, .val (shE h w s), .val (nD (mp h w s)), .val W, .val sf, .un, .val (wnd h w z), .val x7, .val (nD k), cel c9, .un, .un] := by
          cases c8 <;> rfl
        refine ⟨[.own bx, .val (shE h w s), .val (nD (mp h w s)), .val W, .val sf, .un, .val (wnd h w z), .val (.list [.bool true, .bool b]), .val (nD k), .val (.tuple [.str x, y]), .un, .un], ?_, ⟨_, some (nD k), some (.tuple [.str x, y]), rfl⟩⟩
        simp only [eb, Option.bind_some]
        exact rndC q1 q2 q3 q4 q5 q6) ⟨_, none, none, rfl⟩
    subst hρ
    unfold crC
    refine ex_nx (s_asg g1 rfl) (ex_nx (s_iteF (ev_not g2) rfl) (ex_nx (s_for g3 rfl e) ?_))
    have g5 : evE (cn 40) (.cmp .ne (.f1 .len (.var 1)) (.f1 .len (.ix (.var 1) (.cI 0)))) [.own bx, .val (shE h w s), .val (nD (mp h w s)), .val W, .val sf, .un, .val (wnd h w z), .val x7, cel c8, cel c9, .un, .un] = some (.bool (decide (h ≠ w))) := ev_cmp (ev_len rfl len_sh) (ev_len (ev_ix rfl rfl (ix_sh h0)) len_row) (ne_nD h w)
    by_cases hw_ : h = w
    · subst hw_
      rw [decide_eq_false (by omega)] at g5
      obtain ⟨t, q1, q2, q3, q4⟩ := e48 (n := 39) (by omega) h0 hh zs
      have g6 : evE (cn 40) (.call 48 [(.var 1)]) [.own bx, .val (shE h h s), .val (nD (mp h h s)), .val W, .val sf, .un, .val (wnd h h z), .val x7, cel c8, cel c9, .un, .un] = some (shE h h t) := ev_call (ds := [shE h h s]) rfl q1
      refine ex_nx (s_iteF g5 rfl) (ex_nx (s_asg g6 rfl) (ex_ret (ev_and (x := true) (y := true) ?_ fun _ => ?_)))
      · exact ev_call (ds := [shE h h s, shE h h t]) rfl (e68 (n := 39) (by omega) hh hh q2)
      · exact Eq.trans (ev_cmp (ev_call (ds := [shE h h t]) rfl (rk61 (n := 39) (by omega) hh hh q3 q2.1)) (ev_len rfl len_sh) (lt_nD _ _)) (by rw [decide_eq_true q4])
    · rw [decide_eq_true hw_] at g5
      exact ex_rt (s_iteT g5 (ex_ret rfl))
end PV
end
section -- M26
namespace PV
open PySem L2
theorem hand_b : isB (runF tab 40 75 []) = true := by kernel_rfl
theorem law_ok : Law where
  hand := isB_eq hand_b
  sheet := fun h w s h0 hh w0 hw hs hr => by
    rw [shD_eq hs hr]
    exact cr_sh h0 hh w0 hw (scL_zs h w s)
end PV
theorem PySem.Challenge.cw_handsunread_k88_whole_unknown_ones_as_pa_holds : PySem.Challenge.rw_handsunread_k88_whole_unknown_ones_as_pa.Holds := by
  exact PV.holds_of PV.law_ok
end
