import PyProof.Rows.All
import Wide.All
import OpenK.AllK
import Wide.FinOn
import HandS.ForExc
import HandS.Head0
import HandS.Head1
import HandS.Head2
import HandS.Head3
import HandS.HeadEnd
import HandS.HeadHook1
import HandS.HeadHook2
import HandS.HeadHook3
import HandS.HeadHook4
import HandS.HeadWalk
import HandS.ForMost
import HandS.TupAny
import HandS.Gcd
import HandS.Wide
import HandS.Conv
import HandS.IsInst
import HandS.Walk
import HandS.Deep
import HandS.TupMul
import HandS.DictTup
import HandS.Style
import HandS.CallSlots
import HandS.Dict
import HandS.TupLen
import PyProof.DictMoreH
import HandS.Zip
import HandS.More
import HandS.ExcOwn
import HandS.TryMany
import HandS.Defaults
import PySem.Challenge.RW_warmtubs_k76_whole_layers_and_cooled_boa
set_option Elab.async false
set_option linter.all false
set_option linter.all false
set_option autoImplicit false
set_option maxRecDepth 100000
/-! What is asked of the head's classes: my own. -/
namespace Z
open PySem PySem.Spec PyProof.Rows L2
def veMro : List Value := [.type "ValueError", .type "Exception", .type "BaseException", .type "object"]
/-- an own class below ValueError, to be raised -/
def raiB (K : PySem.W.Frag) (x : Str) : Bool := match PySem.W.nsIn K mainGlobals x with
  | some (some (.ref C)) => PySem.W.excIn K C veMro "ValueError.__new__" && (PySem.W.keepIn K (.ref C) && (decide (PySem.W.subIn K (.ref C) (.type "BaseException") = some true) && decide (PySem.W.typeIn K (.ref C) = some (.type "type"))))
  | _ => false
def exmB (K : PySem.W.Frag) (x y : Str) (b : Bool) : Bool := match PySem.W.nsIn K mainGlobals x, PySem.W.nsIn K mainGlobals y with
  | some (some (.ref C)), some (some (.ref D)) => decide (PySem.W.exmOne K (.ref C) (.ref D) = some b)
  | _, _ => false
end Z

set_option linter.all false
set_option maxRecDepth 100000
namespace Hd
open PySem PySem.Spec PyProof.Rows L2 Z
def top (i : Nat) : Stmt := PySem.Challenge.pw_warmtubs_k76_whole_layers_and_cooled_boa.main.body.getD i (.Pass ⟨0, 0, 0, 0⟩)
def dOf (x : Str) (m : Option Str) (q : Str) (st : Stmt) : He.DefD := ⟨(x, m), m.getD x, q, defArgs st, defBody st, defScope st, [], []⟩
def fn : List He.DefD := [dOf "plain_of" none "plain_of" (top 4),
  dOf "plus" none "plus" (top 5),
  dOf "minus" none "minus" (top 6),
  dOf "times" none "times" (top 7),
  dOf "over" none "over" (top 8),
  dOf "is_less" none "is_less" (top 9),
  dOf "greater_of" none "greater_of" (top 10),
  dOf "above_of" none "above_of" (top 11),
  dOf "sum_of" none "sum_of" (top 12),
  dOf "rising_places" none "rising_places" (top 13),
  dOf "total_of" none "total_of" (top 15),
  dOf "excess_of" none "excess_of" (top 16),
  dOf "lack_of" none "lack_of" (top 17),
  dOf "rising_taps" none "rising_taps" (top 18),
  dOf "InvalidFraction" (some "__init__") "InvalidFraction.__init__" (L2.inClass (top 21) 0),
  dOf "InvalidBoard" (some "__init__") "InvalidBoard.__init__" (L2.inClass (top 22) 0),
  dOf "is_whole" none "is_whole" (top 25),
  dOf "is_from" none "is_from" (top 26),
  dOf "is_text" none "is_text" (top 27),
  dOf "is_named" none "is_named" (top 28),
  dOf "is_tuple_up_to" none "is_tuple_up_to" (top 29),
  dOf "is_tuple_of" none "is_tuple_of" (top 30),
  dOf "is_pair" none "is_pair" (top 31),
  dOf "is_fraction_of" none "is_fraction_of" (top 37),
  dOf "is_from_nought" none "is_from_nought" (top 38),
  dOf "is_above_nought" none "is_above_nought" (top 39),
  dOf "is_tap" none "is_tap" (top 40),
  dOf "is_board_of" none "is_board_of" (top 41),
  dOf "is_bar" none "is_bar" (top 42),
  dOf "check_fraction" none "check_fraction" (top 43),
  dOf "check_volume_from" none "check_volume_from" (top 44),
  dOf "check_board" none "check_board" (top 45),
  dOf "check_warmth" none "check_warmth" (top 47),
  dOf "ends_of" none "ends_of" (top 49),
  dOf "bars_of" none "bars_of" (top 50),
  dOf "cooled_by" none "cooled_by" (top 52),
  dOf "layer_by" none "layer_by" (top 53),
  dOf "middle_by" none "middle_by" (top 54),
  dOf "colder_by" none "colder_by" (top 55),
  dOf "cooled" none "cooled" (top 57),
  dOf "layer" none "layer" (top 58),
  dOf "middle" none "middle" (top 59),
  dOf "colder_volume" none "colder_volume" (top 60),
  dOf "does_part_by" none "does_part_by" (top 62),
  dOf "parting_by" none "parting_by" (top 63),
  dOf "does_cover_by" none "does_cover_by" (top 64),
  dOf "check_boards" none "check_boards" (top 66),
  dOf "does_cover" none "does_cover" (top 67),
  dOf "_law_pool" none "_law_pool" (top 69),
  dOf "_law_plus" none "_law_plus" (top 70),
  dOf "_law_is_less" none "_law_is_less" (top 71),
  dOf "_law_side" none "_law_side" (top 72),
  dOf "_law_total" none "_law_total" (top 73),
  dOf "_law_times" none "_law_times" (top 74),
  dOf "_law_same" none "_law_same" (top 75),
  dOf "_law_less" none "_law_less" (top 76),
  dOf "_law_alike" none "_law_alike" (top 77),
  dOf "_law_board" none "_law_board" (top 78),
  dOf "_law_fraction" none "_law_fraction" (top 79),
  dOf "_law_poured" none "_law_poured" (top 80),
  dOf "_law_ratio" none "_law_ratio" (top 81),
  dOf "_law_sum" none "_law_sum" (top 82),
  dOf "_law_flow" none "_law_flow" (top 83),
  dOf "_law_over" none "_law_over" (top 84),
  dOf "_law_below" none "_law_below" (top 85),
  dOf "_law_one" none "_law_one" (top 86),
  dOf "_law_layer" none "_law_layer" (top 87),
  dOf "_law_told" none "_law_told" (top 88),
  dOf "_law_are_layers_right" none "_law_are_layers_right" (top 89),
  dOf "_law_right" none "_law_right" (top 90),
  dOf "law" none "law" (top 91)]
def fa : List He.Fa := [.glo "plain_of",
  .glo "plus",
  .glo "minus",
  .glo "times",
  .glo "over",
  .glo "is_less",
  .glo "greater_of",
  .glo "above_of",
  .glo "sum_of",
  .glo "rising_places",
  .glo "total_of",
  .glo "excess_of",
  .glo "lack_of",
  .glo "rising_taps",
  .glo "WarmError",
  .glo "InvalidFraction",
  .glo "InvalidBoard",
  .glo "Unfit",
  .glo "is_whole",
  .glo "is_from",
  .glo "is_text",
  .glo "is_named",
  .glo "is_tuple_up_to",
  .glo "is_tuple_of",
  .glo "is_pair",
  .int "MOST_TAPS" 8,
  .str "VOLUME" "volume",
  .str "ABOVE" "above",
  .str "BELOW" "below",
  .glo "is_fraction_of",
  .glo "is_from_nought",
  .glo "is_above_nought",
  .glo "is_tap",
  .glo "is_board_of",
  .glo "is_bar",
  .glo "check_fraction",
  .glo "check_volume_from",
  .glo "check_board",
  .glo "check_warmth",
  .glo "ends_of",
  .glo "bars_of",
  .glo "cooled_by",
  .glo "layer_by",
  .glo "middle_by",
  .glo "colder_by",
  .glo "cooled",
  .glo "layer",
  .glo "middle",
  .glo "colder_volume",
  .glo "does_part_by",
  .glo "parting_by",
  .glo "does_cover_by",
  .glo "check_boards",
  .glo "does_cover",
  .glo "_law_pool",
  .glo "_law_plus",
  .glo "_law_is_less",
  .glo "_law_side",
  .glo "_law_total",
  .glo "_law_times",
  .glo "_law_same",
  .glo "_law_less",
  .glo "_law_alike",
  .glo "_law_board",
  .glo "_law_fraction",
  .glo "_law_poured",
  .glo "_law_ratio",
  .glo "_law_sum",
  .glo "_law_flow",
  .glo "_law_over",
  .glo "_law_below",
  .glo "_law_one",
  .glo "_law_layer",
  .glo "_law_told",
  .glo "_law_are_layers_right",
  .glo "_law_right",
  .glo "law",
  .free "len",
  .free "abs",
  .free "all",
  .free "any",
  .free "tuple",
  .free "int",
  .free "isinstance",
  .free "max",
  .free "min",
  .free "list",
  .free "bool",
  .free "str",
  .free "dict",
  .free "range",
  .free "enumerate",
  .free "zip",
  .glo "NOUGHT",
  .glo "ONE"]
def names0 : List PySem.Str := ["gcd", "NOUGHT", "ONE", "plain_of", "plus", "minus", "times", "over", "is_less", "greater_of", "above_of", "sum_of", "rising_places", "total_of", "excess_of", "lack_of", "rising_taps", "WarmError", "InvalidFraction", "InvalidBoard", "Unfit", "is_whole", "is_from", "is_text", "is_named", "is_tuple_up_to", "is_tuple_of", "is_pair", "MOST_TAPS", "VOLUME"]
def names1 : List PySem.Str := ["ABOVE", "BELOW", "is_fraction_of", "is_from_nought", "is_above_nought", "is_tap", "is_board_of", "is_bar", "check_fraction", "check_volume_from", "check_board", "check_warmth", "ends_of", "bars_of", "cooled_by", "layer_by", "middle_by", "colder_by", "cooled", "layer", "middle", "colder_volume", "does_part_by", "parting_by", "does_cover_by", "check_boards", "does_cover", "_law_pool", "_law_plus", "_law_is_less"]
def names2 : List PySem.Str := ["_law_side", "_law_total", "_law_times", "_law_same", "_law_less", "_law_alike", "_law_board", "_law_fraction", "_law_poured", "_law_ratio", "_law_sum", "_law_flow", "_law_over", "_law_below", "_law_one", "_law_layer", "_law_told", "_law_are_layers_right", "_law_right"]
def names : List PySem.Str := names0 ++ names1 ++ names2
def ex (K : PySem.W.Frag) : Bool := decide (PySem.W.nsIn K mainGlobals "gcd" = some (some (.builtin "math.gcd"))) && (He.tupB K "NOUGHT" [.int 0, .int 1] && (He.tupB K "ONE" [.int 1, .int 1] && (raiB K "Unfit" && (exmB K "Unfit" "Unfit" true && (exmB K "Unfit" "WarmError" true)))))
abbrev R : PySem.W.OpenRow := PySem.W.OpenLaw.row PySem.Challenge.rw_warmtubs_k76_whole_layers_and_cooled_boa
abbrev hk : PySem.W.Hook := He.hookX 5 fa fn [] [] ex
def ob (s : PySem.W.SharedT) : He.AlX := He.obsX 5 fa fn [] [] ex (HandSHeadRun.getT s)
theorem ob_eq (s : PySem.W.SharedT) : ob s = hk.obs s.abs := He.obsX_eq (HandSHeadRun.getT_eq s)
set_option maxHeartbeats 0 in
theorem run (w : World) : HandSHeadRun.RunEqI R (PySem.W.view R.prog [0, 91]) hk ob 9000 names w := by
  unfold HandSHeadRun.RunEqI
  kernel_rfl
end Hd

set_option linter.all false
set_option autoImplicit false
/-! A small language (values, slots, own lists) and what its code does: my own. -/
namespace Z
open PySem

/-- data as the proofs see them: tuples and frozen lists by value; ref: an object of the store; fn: a def of the module; scr: the script -/
inductive D where
  | non | bl (b : Bool) | int (i : Int) | str (x : Str) | tup (ds : List D) | lst (ds : List D) | ref (n : Nat) | fn (x : String) | scr (is : List Int)
  deriving Inhabited

/-- what a slot's own object, or one of the store, holds -/
inductive Ob where
  | lst (ds : List D)
  | dT (kvs : List (List Int × D))
  deriving Inhabited

/-- a slot: nothing, a value, an object of its own, one that is read only -/
inductive Sl where
  | no | val (d : D) | own (o : Ob) | rd (o : Ob) | lk (o : Ob)
  deriving Inhabited

structure S where
  env : List Sl
  sto : List Ob

/-- an exception: its class, what it keeps -/
structure Exn where
  cls : String
  fld : Option D

inductive Out (α : Type) where
  | ok (a : α) (s : S) | ex (x : Exn) (s : S) | no

def Out.bind {α β : Type} (o : Out α) (f : α → S → Out β) : Out β := match o with
  | .ok a s => f a s
  | .ex x s => .ex x s
  | .no => .no

/-- behind a call -/
inductive OutC where
  | ok (d : D) (t : List Ob) | ex (x : Exn) (t : List Ob) | no

inductive OutS where
  | nx (s : S) | rt (d : D) (s : S) | bk (s : S) | ct (s : S) | ex (x : Exn) (s : S) | no

inductive BOp where | add | sub | mul | fdiv | mod | pow
inductive COp where | eq | ne | lt | le | gt | ge | is_ | isn | in_ | nin
inductive Ty where | int | bool | str | tuple | list | dict
/-- built-in functions, by what they do -/
inductive BF where | len | abs | all | any | tuple | int | isi (t : Ty) | max | min | list | gcd

mutual
inductive E where
  | var (i : Nat) | con (x : String) | int (i : Int) | str (s : String) | bl (b : Bool) | non
  | tup (es : Es) | lst (es : Es)
  | bin (o : BOp) (a b : E) | neg (a : E) | not (a : E)
  | cmp (o : COp) (a b : E) | cmp2 (o p : COp) (a b c : E)
  | and (a b : E) | or (a b : E) | ite (c a b : E)
  | call (f : String) (es : Es)
  | callk (f : String) (n : Nat) (nks : List String) (ks : List Nat) (es fs : Es)
  | blt (f : BF) (es : Es) | isi (t : Ty) (e : E)
  | idx (a i : E) | slc (a : E) (lo hi : Eo) | rev (a : E)
  | comp (elt : E) (tg : Tg) (it : It) (c : E) (own : List Nat)
  | frz (i : Nat) | mlen (i : Nat) | midx (i : Nat) (e : E) | mnil (i : Nat) (b : Bool) | mtup (i : Nat) | mpop (i : Nat)
  | mget (i : Nat) (k d : E) | mpopk (i : Nat) (k : E) | lkd (i : Nat) (e : E)
inductive Es where
  | nil | cons (e : E) (r : Es)
inductive Eo where
  | no | so (e : E)
/-- what is walked -/
inductive It where
  | seq (e : E) | mv (i : Nat) | mk (i : Nat) | rng (n : E) | rng2 (a b : E) | enum (e : E) | zip (a b : E) | ezip (a b : E)
/-- targets: a name, a name that owns what it gets, a tuple of targets -/
inductive Tg where
  | v (i : Nat) | o (i : Nat) | tup (ts : Tgs)
inductive Tgs where
  | nil | cons (t : Tg) (r : Tgs)
end

mutual
inductive St where
  | ret (e : E) | retn | retS (e : E)
  | set (t : Tg) (e : E)
  | dict (i : Nat)
  | par (ts : Tgs) (es : Es)
  | exp (e : E)
  | ite (c : E) (a b : Ss)
  | for_ (tg : Tg) (it : It) (body : Ss)
  | while_ (c : E) (body : Ss)
  | mapp (i : Nat) (e : E) | mext (i : Nat) (e : E) | mins (i : Nat) (a e : E) | mset (i : Nat) (a e : E) | mput (i : Nat) (k e : E)
  | sset (o i e : E)
  | raise_ (c : String)
  | pass | nev
  | try_ (body : Ss) (hs : Hs)
inductive Ss where
  | nil | cons (s : St) (r : Ss)
/-- handlers: class, suite -/
inductive Hs where
  | nil | cons (c : String) (b : Ss) (r : Hs)
end

/-! ### what the operations give -/
def szMul (i j : Int) : Bool := decide (i.natAbs.log2 + j.natAbs.log2 < 1000000)
def szDiv (j : Int) : Bool := decide (j ≠ 0) && decide (j.natAbs.log2 < 9000)
def szPow (i j : Int) : Bool := decide (0 ≤ j) && decide (j ≤ 1000000) && decide (i.natAbs < 2 ^ 64)

/-! data that can be compared: no objects, nested no deeper than n -/
mutual
def D.plain : Nat → D → Bool
  | _, .non => true
  | _, .bl _ => true
  | _, .int _ => true
  | _, .str x => x.cps.all (· < 0x110000)
  | 0, .tup _ => false
  | 0, .lst _ => false
  | n + 1, .tup ds => plains n ds
  | n + 1, .lst ds => plains n ds
  | _, .ref _ => false
  | _, .fn _ => false
  | _, .scr _ => false
def plains : Nat → List D → Bool
  | _, [] => true
  | n, d :: ds => D.plain n d && plains n ds
end

def D.isNon : D → Bool
  | .non => true
  | _ => false
def b2 (b : Bool) : Int := if b then 1 else 0
mutual
def D.eqv : D → D → Bool
  | .non, .non => true
  | .bl a, .bl b => a == b
  | .bl a, .int j => b2 a == j
  | .int i, .bl b => i == b2 b
  | .int i, .int j => i == j
  | .str x, .str y => x == y
  | .tup xs, .tup ys => eqvs xs ys
  | .lst xs, .lst ys => eqvs xs ys
  | _, _ => false
def eqvs : List D → List D → Bool
  | [], [] => true
  | x :: xs, y :: ys => D.eqv x y && eqvs xs ys
  | _, _ => false
end

/-! ### operations by values -/
def lenLine : Nat := 1000000
abbrev R (α : Type) := Option α
def binD (o : BOp) (a b : D) : R D := match o, a, b with
  | .add, .int i, .int j => some (.int (i + j))
  | .sub, .int i, .int j => some (.int (i - j))
  | .mul, .int i, .int j => if szMul i j then some (.int (i * j)) else none
  | .fdiv, .int i, .int j => if szDiv j then some (.int (i.fdiv j)) else none
  | .mod, .int i, .int j => if j = 0 then none else some (.int (i.fmod j))
  | .pow, .int i, .int j => if szPow i j then some (.int (i ^ j.toNat)) else none
  | .add, .str x, .str y => if x.length + y.length ≤ lenLine then some (.str (x ++ y)) else none
  | .add, .tup xs, .tup ys => if xs.length + ys.length ≤ lenLine then some (.tup (xs ++ ys)) else none
  | .add, .lst xs, .lst ys => if xs.length + ys.length ≤ lenLine then some (.lst (xs ++ ys)) else none
  | .mul, .tup xs, .int k => if 2 ≤ k ∧ k ≤ 1000 ∧ xs.length ≤ 1000 ∧ xs.isEmpty = false then some (.tup (List.replicate k.toNat xs).flatten) else none
  | _, _, _ => none
def inD (a : D) (ds : List D) : R Bool := if a.plain 30 && plains 30 ds then some (ds.any fun z => z.eqv a) else none
def cmpD (o : COp) (a b : D) : R Bool := match o, a, b with
  | .eq, a, b => if a.plain 30 && b.plain 30 then some (a.eqv b) else none
  | .ne, a, b => if a.plain 30 && b.plain 30 then some (!a.eqv b) else none
  | .lt, .int i, .int j => some (decide (i < j))
  | .le, .int i, .int j => some (decide (i ≤ j))
  | .gt, .int i, .int j => some (decide (j < i))
  | .ge, .int i, .int j => some (decide (j ≤ i))
  | .lt, .str x, .str y => some (decide (x.cps.toList < y.cps.toList))
  | .is_, a, .non => some a.isNon
  | .isn, a, .non => some (!a.isNon)
  | .is_, .bl a, .bl b => some (a == b)
  | .isn, .bl a, .bl b => some (!(a == b))
  | .in_, a, .tup ds => inD a ds
  | .in_, a, .lst ds => inD a ds
  | .nin, a, .tup ds => (inD a ds).map not
  | .nin, a, .lst ds => (inD a ds).map not
  | .in_, .str x, .str z => if x.length = 1 then some (decide (x.cps.getD 0 0 ∈ z.cps.toList)) else none
  | .nin, .str x, .str z => if x.length = 1 then some (!decide (x.cps.getD 0 0 ∈ z.cps.toList)) else none
  | _, _, _ => none
def idxD (sto : List Ob) (a i : D) : R D := match a, i with
  | .tup ds, .int i => L2.atI ds i
  | .lst ds, .int i => L2.atI ds i
  | .scr is, .int i => (L2.atI is i).map .int
  | .str z, .int i => if z.length ≤ lenLine then (L2.atI z.cps.toList i).map fun c => .str ⟨#[c]⟩ else none
  | .ref n, .int i => (match sto[n]? with | some (.lst ds) => L2.atI ds i | _ => none)
  | _, _ => none
def cutD {α : Type} (xs : List α) (lo hi : Option Int) : List α := (xs.drop (HT.sIx xs.length 0 lo)).take (HT.sIx xs.length xs.length hi - HT.sIx xs.length 0 lo)
def slcD (a : D) (lo hi : Option Int) : R D := match a with
  | .tup ds => some (.tup (cutD ds lo hi))
  | .lst ds => some (.lst (cutD ds lo hi))
  | .scr is => some (.lst ((cutD is lo hi).map .int))
  | .str z => if z.length ≤ lenLine then some (.str (L2.cutS z lo hi)) else none
  | _ => none
def revD (a : D) : R D := match a with
  | .lst ds => some (.lst ds.reverse)
  | _ => none
def isiD (t : Ty) (a : D) : R Bool := match t, a with
  | _, .ref _ => none
  | _, .fn _ => none
  | _, .scr _ => none
  | .int, .int _ => some true | .int, .bl _ => some true | .int, _ => some false
  | .bool, .bl _ => some true | .bool, _ => some false
  | .str, .str _ => some true | .str, _ => some false
  | .tuple, .tup _ => some true | .tuple, _ => some false
  | .list, .lst _ => some true | .list, _ => some false
  | .dict, _ => some false
def boolsD : List D → R (List Bool)
  | [] => some []
  | .bl b :: ds => (boolsD ds).map (b :: ·)
  | _ => none
def intsD : List D → R (List Int)
  | [] => some []
  | .int b :: ds => (intsD ds).map (b :: ·)
  | _ => none
def bltD (f : BF) (as : List D) : R D := match f, as with
  | .len, [.tup ds] => some (.int ds.length)
  | .len, [.lst ds] => some (.int ds.length)
  | .len, [.scr is] => some (.int is.length)
  | .len, [.str z] => if z.length ≤ lenLine then some (.int z.length) else none
  | .abs, [.int i] => some (.int (if i < 0 then -i else i))
  | .all, [.lst ds] => (boolsD ds).map fun bs => .bl (bs.all id)
  | .any, [.lst ds] => (boolsD ds).map fun bs => .bl (bs.any id)
  | .tuple, [.lst ds] => some (.tup ds)
  | .tuple, [.tup ds] => some (.tup ds)
  | .list, [.lst ds] => some (.lst ds)
  | .list, [.tup ds] => some (.lst ds)
  | .int, [.int i] => some (.int i)
  | .int, [.bl b] => some (.int (b2 b))
  | .isi t, [a] => (isiD t a).map .bl
  | .max, [.int i, .int j] => some (.int (if j > i then j else i))
  | .min, [.int i, .int j] => some (.int (if j < i then j else i))
  | .max, [.lst ds] => (intsD ds).bind fun is => is.max?.map .int
  | .min, [.lst ds] => (intsD ds).bind fun is => is.min?.map .int
  | .gcd, [.int i, .int j] => some (.int (Nat.gcd i.natAbs j.natAbs : Nat))
  | _, _ => none
def keyD : D → R (List Int)
  | .tup ds => intsD ds
  | _ => none
def keyOf (k : List Int) : D := .tup (k.map .int)
def putT (kvs : List (List Int × D)) (k : List Int) (d : D) : List (List Int × D) := match kvs with
  | [] => [(k, d)]
  | (k', d') :: r => if k' = k then (k', d) :: r else (k', d') :: putT r k d

/-! ### slots -/
def Sl.lock : Sl → Sl
  | .own o => .rd o
  | s => s
def wipeE (env : List Sl) : List Nat → List Sl
  | [] => env
  | i :: r => (wipeE env r).set i .no
def S.own (s : S) (i : Nat) : R (List D) := match s.env[i]? with
  | some (.own (.lst ds)) => some ds
  | _ => none
/-- an object of a slot, own or read only -/
def S.obj (s : S) (i : Nat) : R Ob := match s.env[i]? with
  | some (.own o) => some o
  | some (.rd o) => some o
  | some (.lk o) => some o
  | _ => none
/-- a dict of a slot, own or read only -/
def S.dob (s : S) (i : Nat) : R (List (List Int × D)) := match s.env[i]? with
  | some (.own (.dT kvs)) => some kvs
  | some (.rd (.dT kvs)) => some kvs
  | some (.lk (.dT kvs)) => some kvs
  | _ => none
/-- an own dict -/
def S.dct (s : S) (i : Nat) : R (List (List Int × D)) := match s.env[i]? with
  | some (.own (.dT kvs)) => some kvs
  | _ => none
def S.put (s : S) (i : Nat) (x : Sl) : S := { s with env := s.env.set i x }

def Out.of {α : Type} (r : R α) (s : S) : Out α := match r with
  | some a => .ok a s
  | none => .no

mutual
def asg : Tg → D → S → R S
  | .v i, d, s => if i < s.env.length then some (s.put i (.val d)) else none
  | .o i, .lst ds, s => if i < s.env.length then some (s.put i (.own (.lst ds))) else none
  | .tup ts, .tup ds, s => asgs ts ds s
  | _, _, _ => none
def asgs : Tgs → List D → S → R S
  | .nil, [], s => some s
  | .cons t r, d :: ds, s => (asg t d s).bind fun s => asgs r ds s
  | _, _, _ => none
end

structure Prm where
  has : String → Bool
  kw : String → Nat → List String → List Nat → Bool
  cf : String → List D → List Ob → OutC
  gl : String → Option D
  sub : String → String → Bool
  rai : String → Bool
  exc : String → Bool
  fuel : Nat

def OutC.out (o : OutC) (s : S) : Out D := match o with
  | .ok d t => .ok d { s with sto := t }
  | .ex x t => .ex x { s with sto := t }
  | .no => .no

/-- the turns of a comprehension: f by the item and the store -/
def compL (f : D → List Ob → Option (Option D × List Ob)) : List D → List Ob → Option (List D × List Ob)
  | [], t => some ([], t)
  | d :: ds, t => (f d t).bind fun r => (compL f ds r.2).bind fun q => some (match r.1 with | some x => x :: q.1 | none => q.1, q.2)
def turnE (o : Out D) : Option (Option D × List Ob) := match o with
  | .ok d s => some (some d, s.sto)
  | _ => none
def testE (o : Out D) (f : S → Option (Option D × List Ob)) : Option (Option D × List Ob) := match o with
  | .ok (.bl true) s => f s
  | .ok (.bl false) s => some (none, s.sto)
  | _ => none
def itemsD : D → R (List D)
  | .tup ds => some ds
  | .lst ds => some ds
  | .scr is => some (is.map .int)
  | .str z => some (z.cps.toList.map fun c => .str ⟨#[c]⟩)
  | _ => none
def pairs : List D → List D → List D
  | a :: as, b :: bs => .tup [a, b] :: pairs as bs
  | _, _ => []
def enumF (i : Nat) : List D → List D
  | [] => []
  | d :: ds => .tup [.int i, d] :: enumF (i + 1) ds
def enumD : D → R (List D)
  | .lst ds => some (enumF 0 ds)
  | _ => none
def zipD : D → D → R (List D)
  | .lst xs, .lst ys => some (pairs xs ys)
  | .tup xs, .tup ys => some (pairs xs ys)
  | .lst xs, .tup ys => some (pairs xs ys)
  | .tup xs, .lst ys => some (pairs xs ys)
  | _, _ => none
def rangeD (lo hi : Int) : List D := (List.range (hi - lo).toNat).map fun (k : Nat) => .int (lo + k)
def szRng (i : Int) : Bool := decide (-(2 ^ 62) ≤ i) && decide (i < 2 ^ 62)

def permArgs (ks : List Nat) (ds : List D) : List D := ks.map fun i => ds.getD i .non

mutual
def ev (P : Prm) : E → S → Out D
  | .var i, s => (match s.env[i]? with | some (.val d) => .ok d s | _ => .no)
  | .con x, s => Out.of (P.gl x) s
  | .int i, s => .ok (.int i) s
  | .str x, s => .ok (.str (Str.ofString x)) s
  | .bl b, s => .ok (.bl b) s
  | .non, s => .ok .non s
  | .tup es, s => (evs P es s).bind fun ds s => if ds.length ≤ lenLine then .ok (.tup ds) s else .no
  | .lst es, s => (evs P es s).bind fun ds s => if ds.length ≤ lenLine then .ok (.lst ds) s else .no
  | .bin o a b, s => (ev P a s).bind fun x s => (ev P b s).bind fun y s => .of (binD o x y) s
  | .neg a, s => (ev P a s).bind fun x s => (match x with | .int i => .ok (.int (-i)) s | _ => .no)
  | .not a, s => (ev P a s).bind fun x s => (match x with | .bl b => .ok (.bl (!b)) s | _ => .no)
  | .cmp o a b, s => (ev P a s).bind fun x s => (ev P b s).bind fun y s => .of ((cmpD o x y).map .bl) s
  | .cmp2 o p a b c, s => (ev P a s).bind fun x s => (ev P b s).bind fun y s => (match cmpD o x y with
    | some true => (ev P c s).bind fun z s => .of ((cmpD p y z).map .bl) s
    | some false => .ok (.bl false) s
    | none => .no)
  | .and a b, s => (ev P a s).bind fun x s => (match x with | .bl true => ev P b s | .bl false => .ok (.bl false) s | _ => .no)
  | .or a b, s => (ev P a s).bind fun x s => (match x with | .bl false => ev P b s | .bl true => .ok (.bl true) s | _ => .no)
  | .ite c a b, s => (ev P c s).bind fun x s => (match x with | .bl true => ev P a s | .bl false => ev P b s | _ => .no)
  | .call f es, s => if P.has f then (evs P es s).bind fun ds s => (P.cf f ds s.sto).out s else .no
  | .callk f n nks ks es fs, s => if P.kw f n nks ks then (evs P es s).bind fun ds s => (evs P fs s).bind fun gs s => if ds.length = n ∧ gs.length = nks.length then (P.cf f (permArgs ks (ds ++ gs)) s.sto).out s else .no else .no
  | .blt f es, s => (evs P es s).bind fun ds s => .of (bltD f ds) s
  | .isi t a, s => (ev P a s).bind fun x s => .of ((isiD t x).map .bl) s
  | .idx a i, s => (ev P a s).bind fun x s => (ev P i s).bind fun y s => .of (idxD s.sto x y) s
  | .slc a lo hi, s => (ev P a s).bind fun x s => (evo P lo s).bind fun l s => (evo P hi s).bind fun h s => .of (slcD x l h) s
  | .rev a, s => (ev P a s).bind fun x s => .of (revD x) s
  | .comp elt tg it c own, s => (evi P it s).bind fun ds s =>
      (match compL (fun d t => (asg tg d ⟨wipeE (s.env.map Sl.lock) own, t⟩).bind fun s => testE (ev P c s) fun s => turnE (ev P elt s)) ds s.sto with
      | some (rs, t) => if rs.length ≤ lenLine then .ok (.lst rs) { s with sto := t } else .no
      | none => .no)
  | .frz i, s => (match s.env[i]? with | some (.own (.lst ds)) => .ok (.lst ds) (s.put i (.val (.lst ds))) | _ => .no)
  | .mlen i, s => (match s.obj i with | some (.lst ds) => .ok (.int ds.length) s | some (.dT kvs) => .ok (.int kvs.length) s | _ => .no)
  | .midx i e, s => if (s.obj i).isSome then (ev P e s).bind fun y s => (match s.obj i, y with | some (.lst ds), .int k => .of (L2.atI ds k) s | _, _ => .no) else .no
  | .mnil i b, s => (match s.obj i with | some (.lst ds) => if plains 30 ds then .ok (.bl (ds.isEmpty == b)) s else .no | _ => .no)
  | .mtup i, s => (match s.obj i with | some (.lst ds) => .ok (.tup ds) s | _ => .no)
  | .mpop i, s => (match s.own i with | some ds => (match ds.getLast? with | some d => .ok d (s.put i (.own (.lst ds.dropLast))) | none => .no) | none => .no)
  | .mget i k d, s => if (s.dob i).isSome then (ev P k s).bind fun x s => (ev P d s).bind fun y s => (match s.dob i, keyD x with
    | some kvs, some k => .ok ((kvs.lookup k).getD y) s
    | _, _ => .no) else .no
  | .mpopk i k, s => if (s.dct i).isSome then (ev P k s).bind fun x s => (match s.dct i, keyD x with
    | some kvs, some k => (match kvs.lookup k with | some d => .ok d (s.put i (.own (.dT (kvs.filter fun p => !(p.1 == k))))) | none => .no)
    | _, _ => .no) else .no
  | .lkd i e, s => (match s.dct i with
    | some kvs => (match ev P e (s.put i (.lk (.dT kvs))) with
      | .ok d s' => .ok d ⟨s.env, s'.sto⟩
      | _ => .no)
    | none => .no)
def evs (P : Prm) : Es → S → Out (List D)
  | .nil, s => .ok [] s
  | .cons e r, s => (ev P e s).bind fun d s => (evs P r s).bind fun ds s => .ok (d :: ds) s
def evo (P : Prm) : Eo → S → Out (Option Int)
  | .no, s => .ok none s
  | .so e, s => (ev P e s).bind fun d s => (match d with | .int i => .ok (some i) s | _ => .no)
def evi (P : Prm) : It → S → Out (List D)
  | .seq e, s => (ev P e s).bind fun d s => .of (itemsD d) s
  | .mv i, s => (match s.obj i with | some (.lst ds) => .ok ds s | _ => .no)
  | .mk i, s => (match s.env[i]? with | some (.lk (.dT kvs)) => .ok (kvs.map fun p => keyOf p.1) s | _ => .no)
  | .rng e, s => (ev P e s).bind fun d s => (match d with | .int n => if szRng n then .ok (rangeD 0 n) s else .no | _ => .no)
  | .rng2 a b, s => (ev P a s).bind fun x s => (ev P b s).bind fun y s => (match x, y with | .int i, .int j => if szRng i && szRng j then .ok (rangeD i j) s else .no | _, _ => .no)
  | .enum e, s => (ev P e s).bind fun d s => .of (enumD d) s
  | .zip a b, s => (ev P a s).bind fun x s => (ev P b s).bind fun y s => .of (zipD x y) s
  | .ezip a b, s => (ev P a s).bind fun x s => (ev P b s).bind fun y s => (match itemsD x, itemsD y with | some xs, some ys => .ok (enumF 0 (pairs xs ys)) s | _, _ => .no)
end

/-! ### statements -/
def OutS.seq (o : OutS) (f : S → OutS) : OutS := match o with
  | .nx s => f s
  | o => o
def Out.then_ {α : Type} (o : Out α) (f : α → S → OutS) : OutS := match o with
  | .ok a s => f a s
  | .ex x s => .ex x s
  | .no => .no
def OutS.of (r : R S) : OutS := match r with
  | some s => .nx s
  | none => .no
def forL (f : D → S → OutS) : List D → S → OutS
  | [], s => .nx s
  | d :: ds, s => match f d s with
    | .nx s => forL f ds s
    | .ct s => forL f ds s
    | .bk s => .nx s
    | o => o
def whileL (c : S → Out D) (f : S → OutS) : Nat → S → OutS
  | 0, _ => .no
  | n + 1, s => (c s).then_ fun d s => match d with
    | .bl true => (match f s with
      | .nx s => whileL c f n s
      | .ct s => whileL c f n s
      | .bk s => .nx s
      | o => o)
    | .bl false => .nx s
    | _ => .no
def hsOk (P : Prm) : Hs → Bool
  | .nil => true
  | .cons c _ r => P.exc c && hsOk P r
mutual
def evSt (P : Prm) : St → S → OutS
  | .ret e, s => (ev P e s).then_ fun d s => .rt d s
  | .retn, s => .rt .non s
  | .retS e, s => (ev P e s).then_ fun d s => (match d with | .lst ds => .rt (.ref s.sto.length) { s with sto := s.sto ++ [.lst ds] } | _ => .no)
  | .set t e, s => (ev P e s).then_ fun d s => .of (asg t d s)
  | .dict i, s => if i < s.env.length then .nx (s.put i (.own (.dT []))) else .no
  | .par ts es, s => (evs P es s).then_ fun ds s => .of (asgs ts ds s)
  | .exp e, s => (ev P e s).then_ fun _ s => .nx s
  | .ite c a b, s => (ev P c s).then_ fun d s => (match d with | .bl true => evSs P a s | .bl false => evSs P b s | _ => .no)
  | .for_ tg it body, s => (evi P it s).then_ fun ds s => forL (fun d s => (OutS.of (asg tg d s)).seq fun s => evSs P body s) ds s
  | .while_ c body, s => whileL (ev P c) (evSs P body) P.fuel s
  | .mapp i e, s => if (s.own i).isSome then (ev P e s).then_ fun d s => (match s.own i with | some ds => if ds.length < lenLine then .nx (s.put i (.own (.lst (ds ++ [d])))) else .no | none => .no) else .no
  | .mext i e, s => if (s.own i).isSome then (ev P e s).then_ fun d s => (match d, s.own i with | .lst xs, some ds => if ds.length + xs.length ≤ lenLine then .nx (s.put i (.own (.lst (ds ++ xs)))) else .no | _, _ => .no) else .no
  | .mins i a e, s => if (s.own i).isSome then (ev P a s).then_ fun x s => (ev P e s).then_ fun d s => (match x, s.own i with
    | .int k, some ds => if ds.length < lenLine ∧ 0 ≤ k ∧ k < 1000000 then .nx (s.put i (.own (.lst (ds.take k.toNat ++ [d] ++ ds.drop k.toNat)))) else .no
    | _, _ => .no) else .no
  | .mset i a e, s => (ev P e s).then_ fun d s => if (s.own i).isSome then (ev P a s).then_ fun x s => (match x, s.own i with
    | .int k, some ds => (match L2.ixN ds.length k with | some j => .nx (s.put i (.own (.lst (ds.set j d)))) | none => .no)
    | _, _ => .no) else .no
  | .mput i k e, s => (ev P e s).then_ fun d s => if (s.dct i).isSome then (ev P k s).then_ fun x s => (match keyD x, s.dct i with
    | some k, some kvs => if kvs.length < lenLine then .nx (s.put i (.own (.dT (putT kvs k d)))) else .no
    | _, _ => .no) else .no
  | .sset o i e, s => (ev P e s).then_ fun d s => (ev P o s).then_ fun a s => (ev P i s).then_ fun x s => (match a, x with
    | .ref n, .int k => (match s.sto[n]? with
      | some (.lst ds) => (match L2.ixN ds.length k with | some j => .nx { s with sto := s.sto.set n (.lst (ds.set j d)) } | none => .no)
      | _ => .no)
    | _, _ => .no)
  | .raise_ c, s => if P.rai c then .ex ⟨c, none⟩ s else .no
  | .pass, s => .nx s
  | .nev, _ => .no
  | .try_ body hs, s => if hsOk P hs then (match evSs P body s with
    | .ex x s => evHs P hs x s
    | o => o) else .no
def evSs (P : Prm) : Ss → S → OutS
  | .nil, s => .nx s
  | .cons st r, s => (evSt P st s).seq fun s => evSs P r s
def evHs (P : Prm) : Hs → Exn → S → OutS
  | .nil, x, s => .ex x s
  | .cons c b r, x, s => if P.rai x.cls && P.exc c then (if P.sub x.cls c then evSs P b s else evHs P r x s) else .no
end

/-! ### defs -/
structure Fn where
  ps : Nat
  n : Nat
  body : Ss
  kws : List (Nat × List String × List Nat) := []
def startE (n : Nat) (ds : List D) : List Sl := ds.map .val ++ List.replicate (n - ds.length) .no
def runF (P : Prm) (f : Fn) (ds : List D) (t : List Ob) : OutC := if ds.length = f.ps then (match evSs P f.body ⟨startE f.n ds, t⟩ with
    | .nx s => .ok .non s.sto
    | .rt d s => .ok d s.sto
    | .ex x s => .ex x s.sto
    | _ => .no) else .no
/-- the whole text: its defs, its constants, which class stands below which, how often a while may turn -/
structure Txt where
  fn : String → Option Fn
  gl : String → Option D
  sub : String → String → Bool
  rai : String → Bool
  exc : String → Bool
  fuel : Nat
def prm (T : Txt) (cf : String → List D → List Ob → OutC) : Prm := ⟨fun f => (T.fn f).isSome, fun f n nks ks => (T.fn f).any fun fn => fn.kws.contains (n, nks, ks), cf, T.gl, T.sub, T.rai, T.exc, T.fuel⟩
def call (T : Txt) : Nat → String → List D → List Ob → OutC
  | 0, _, _, _ => .no
  | k + 1, f, ds, t => match T.fn f with
    | some fn => runF (prm T (call T k)) fn ds t
    | none => .no
end Z

set_option linter.all false
set_option autoImplicit false
set_option maxRecDepth 20000
/-! What stands for what: data and the abstract heap. -/
namespace Z
open PySem PySem.Spec PyProof.Rows L2

/-- what a run has found so far: the store's addresses, what is frozen -/
structure Wd where
  ρ : List Addr
  F : Hp
structure Wd.le (w w' : Wd) : Prop where
  ρ : w.ρ <+: w'.ρ
  F : ∀ a o, w.F a = some o → w'.F a = some o
theorem Wd.le.rfl {w : Wd} : w.le w := ⟨List.prefix_refl _, fun _ _ h => h⟩
theorem Wd.le.trans {a b c : Wd} (h : a.le b) (k : b.le c) : a.le c := ⟨h.ρ.trans k.ρ, fun x o e => k.F x o (h.F x o e)⟩

section
variable (K : PySem.W.Frag) (mg : Str → Option Value)
mutual
def Rep (w : Wd) : D → V → Prop
  | .non, v => v = .non
  | .bl b, v => v = .bl b
  | .int i, v => v = .int i
  | .str x, v => v = .str x
  | .tup ds, v => ∃ a xs, v = .ref a ∧ SqT K w.F a xs ∧ Reps w ds xs
  | .lst ds, v => ∃ a xs, v = .ref a ∧ w.F a = some (.lst xs) ∧ Reps w ds xs
  | .ref n, v => ∃ a, v = .ref a ∧ w.ρ[n]? = some a
  | .fn x, v => ∃ a, v = .ref a ∧ mg (Str.ofString x) = some (.ref a) ∧ PySem.W.keepIn K (.ref a) = true
  | .scr is, v => ∃ a, v = .ref a ∧ SqL K w.F a (is.map V.int)
def Reps (w : Wd) : List D → List V → Prop
  | [], vs => vs = []
  | d :: ds, vs => ∃ v r, vs = v :: r ∧ Rep w d v ∧ Reps w ds r
end
end
theorem SqT.mono {K : PySem.W.Frag} {H H' : Hp} {a : Addr} {xs : List V} (m : ∀ b o, H b = some o → H' b = some o) (h : SqT K H a xs) : SqT K H' a xs := by
  rcases h with (h | ⟨o, h⟩) | h
  · exact .inl (.inl (m _ _ h))
  · exact .inl (.inr ⟨o, m _ _ h⟩)
  · exact .inr h
theorem SqL.mono {K : PySem.W.Frag} {H H' : Hp} {a : Addr} {xs : List V} (m : ∀ b o, H b = some o → H' b = some o) (h : SqL K H a xs) : SqL K H' a xs := by
  rcases h with (h | ⟨o, h⟩) | h
  · exact .inl (.inl (m _ _ h))
  · exact .inl (.inr ⟨o, m _ _ h⟩)
  · exact .inr h
section
variable {K : PySem.W.Frag} {mg : Str → Option Value}
mutual
theorem Rep.mono {w w' : Wd} (l : w.le w') : ∀ (d : D) (v : V), Rep K mg w d v → Rep K mg w' d v
  | .non, _, h => h
  | .bl _, _, h => h
  | .int _, _, h => h
  | .str _, _, h => h
  | .tup ds, v, h => by
    obtain ⟨a, xs, e, h, r⟩ := h
    exact ⟨a, xs, e, SqT.mono l.F h, Reps.mono l ds xs r⟩
  | .lst ds, v, h => by
    obtain ⟨a, xs, e, h, r⟩ := h
    exact ⟨a, xs, e, l.F _ _ h, Reps.mono l ds xs r⟩
  | .ref n, v, h => by
    obtain ⟨a, e, h⟩ := h
    exact ⟨a, e, by
      obtain ⟨r, hr⟩ := l.ρ
      rw [← hr, List.getElem?_append_left (List.getElem?_eq_some_iff.mp h).1]
      exact h⟩
  | .fn x, v, h => h
  | .scr is, v, h => by
    obtain ⟨a, e, h⟩ := h
    exact ⟨a, e, SqL.mono l.F h⟩
theorem Reps.mono {w w' : Wd} (l : w.le w') : ∀ (ds : List D) (vs : List V), Reps K mg w ds vs → Reps K mg w' ds vs
  | [], _, h => h
  | d :: ds, vs, h => by
    obtain ⟨v, r, e, h1, h2⟩ := h
    exact ⟨v, r, e, Rep.mono l d v h1, Reps.mono l ds r h2⟩
end
theorem Reps.length {w : Wd} : ∀ {ds : List D} {vs : List V}, Reps K mg w ds vs → vs.length = ds.length
  | [], _, h => by cases h; rfl
  | d :: ds, _, h => by
    obtain ⟨v, r, rfl, _, h2⟩ := h
    simp [h2.length]
theorem Reps.get {w : Wd} : ∀ {ds : List D} {vs : List V} {i : Nat} {d : D}, Reps K mg w ds vs → ds[i]? = some d → ∃ v, vs[i]? = some v ∧ Rep K mg w d v
  | [], _, i, d, h, e => by simp at e
  | d' :: ds, _, 0, d, h, e => by
    obtain ⟨v, r, rfl, h1, h2⟩ := h
    simp at e; subst e
    exact ⟨v, rfl, h1⟩
  | d' :: ds, _, i + 1, d, h, e => by
    obtain ⟨v, r, rfl, h1, h2⟩ := h
    exact Reps.get (i := i) h2 (by simpa using e)
theorem Reps.app {w : Wd} : ∀ {ds es : List D} {vs us : List V}, Reps K mg w ds vs → Reps K mg w es us → Reps K mg w (ds ++ es) (vs ++ us)
  | [], _, _, _, h, k => by cases h; exact k
  | d :: ds, _, _, _, h, k => by
    obtain ⟨v, r, rfl, h1, h2⟩ := h
    exact ⟨v, r ++ _, rfl, h1, h2.app k⟩
theorem Reps.one {w : Wd} {d : D} {v : V} (h : Rep K mg w d v) : Reps K mg w [d] [v] := ⟨v, [], rfl, h, rfl⟩
theorem Reps.drop {w : Wd} : ∀ {ds : List D} {vs : List V} (n : Nat), Reps K mg w ds vs → Reps K mg w (ds.drop n) (vs.drop n)
  | _, _, 0, h => h
  | [], _, n + 1, h => by cases h; rfl
  | d :: ds, _, n + 1, h => by
    obtain ⟨v, r, rfl, h1, h2⟩ := h
    exact Reps.drop n h2
theorem Reps.take {w : Wd} : ∀ {ds : List D} {vs : List V} (n : Nat), Reps K mg w ds vs → Reps K mg w (ds.take n) (vs.take n)
  | _, _, 0, h => by rfl
  | [], _, n + 1, h => by cases h; rfl
  | d :: ds, _, n + 1, h => by
    obtain ⟨v, r, rfl, h1, h2⟩ := h
    exact ⟨v, r.take n, rfl, h1, Reps.take n h2⟩
theorem Reps.set {w : Wd} {d : D} {v : V} (r : Rep K mg w d v) : ∀ {ds : List D} {vs : List V} (n : Nat), Reps K mg w ds vs → Reps K mg w (ds.set n d) (vs.set n v)
  | [], _, n, h => by cases h; rfl
  | d' :: ds, _, 0, h => by
    obtain ⟨v', r', rfl, h1, h2⟩ := h
    exact ⟨v, r', rfl, r, h2⟩
  | d' :: ds, _, n + 1, h => by
    obtain ⟨v', r', rfl, h1, h2⟩ := h
    exact ⟨v', r'.set n v, rfl, h1, Reps.set r n h2⟩
theorem Reps.rep {w : Wd} {ds : List D} {vs : List V} (h : Reps K mg w ds vs) : ∀ n : Nat, Reps K mg w (List.replicate n ds).flatten (List.replicate n vs).flatten
  | 0 => rfl
  | n + 1 => by
    rw [List.replicate_succ, List.replicate_succ, List.flatten_cons, List.flatten_cons]
    exact h.app (h.rep n)
theorem Reps.rev {w : Wd} : ∀ {ds : List D} {vs : List V}, Reps K mg w ds vs → Reps K mg w ds.reverse vs.reverse
  | [], _, h => by cases h; rfl
  | d :: ds, _, h => by
    obtain ⟨v, r, rfl, h1, h2⟩ := h
    rw [List.reverse_cons, List.reverse_cons]
    exact (Reps.rev h2).app (.one h1)
theorem Reps.ints {w : Wd} : ∀ {is : List Int} {vs : List V}, Reps K mg w (is.map .int) vs → vs = is.map V.int
  | [], _, h => h
  | i :: is, _, h => by
    obtain ⟨v, r, rfl, h1, h2⟩ := h
    have h1 : v = .int i := h1
    rw [h1, Reps.ints h2]; rfl
end

/-- an entry of a dict whose keys are tuples of ints -/
def entI (x : List Int × Addr × Value) : DictEntry := ⟨reduceHash (Builtin.Tuple.tupleHashOf (x.1.map hashInt)), .ref x.2.1, x.2.2⟩
def dicO (a : Addr) (xs : List (List Int × Addr × Value)) : HO := .ext fun h => ∃ o es ep, h.get? a = some o ∧ o.ExactDict ∧ o.data = .dict es ep ∧ es.toList = xs.map entI
/-! ### who an address is -/
inductive Role where
  | free | fz | fr | st (n : Nat) | ow (i : Nat)
section
variable (K : PySem.W.Frag) (mg : Str → Option Value)
/-- a dict's entries, its keys tuples of ints: the kept entries, by the keys' addresses -/
def RepKs (w : Wd) : List (List Int × D) → List (List Int × Addr × Value) → Prop
  | [], xs => xs = []
  | p :: ps, xs => ∃ b z v r, xs = (p.1, b, z) :: r ∧ SqT K w.F b (p.1.map V.int) ∧ RelV v z ∧ Rep K mg w p.2 v ∧ RepKs w ps r
/-- an object: u is what stands at its address -/
def RepO (w : Wd) (a : Addr) (u : HO) : Ob → Prop
  | .lst ds => ∃ xs, u = .lst xs ∧ Reps K mg w ds xs
  | .dT kvs => ∃ xs, u = dicO a xs ∧ (a == sysModules) = false ∧ (xs.map (·.1)).Nodup ∧ kvs.length ≤ lenLine ∧ RepKs K mg w kvs xs
structure Gl_ (κ : Addr → Role) (w : Wd) (Fr H : Hp) (t : List Ob) : Prop where
  fz : ∀ a o, w.F a = some o → κ a = .fz ∧ H a = some o
  fr : ∀ a o, Fr a = some o → κ a = .fr ∧ H a = some o
  nf : ∀ a, κ a ≠ .free → H a ≠ none
  len : w.ρ.length = t.length
  nt : ∀ a xs, H a = some (.tup xs) → κ a = .free ∨ w.F a = some (.tup xs)
  st : ∀ n a, w.ρ[n]? = some a → κ a = .st n ∧ ∃ o u, t[n]? = some o ∧ H a = some u ∧ RepO K mg w a u o
def SlOk (κ : Addr → Role) (w : Wd) (Fr H : Hp) (i : Nat) (x : Option (Option V)) : Sl → Prop
  | .no => True
  | .val d => ∃ v, x = some (some v) ∧ Rep K mg w d v
  | .own o => ∃ a u, x = some (some (.ref a)) ∧ κ a = .ow i ∧ H a = some u ∧ RepO K mg w a u o
  | .rd o => ∃ a u, x = some (some (.ref a)) ∧ Rd Fr a u ∧ RepO K mg w a u o
  | .lk o => ∃ a od u, x = some (some (.ref a)) ∧ Fr a = some (.frz od u) ∧ RepO K mg w a u o
structure Here (κ : Addr → Role) (w : Wd) (Fr : Hp) (σ : L2.St) (H : Hp) (s : S) : Prop where
  g : Gl_ K mg κ w Fr H s.sto
  len : s.env.length = σ.length
  sl : ∀ i x, s.env[i]? = some x → SlOk K mg κ w Fr H i σ[i]? x
/-- an exception as it leaves -/
def ExOk (w : Wd) (x : Exn) (C : Value) (dx : Option Addr) : Prop := ∃ c, mg (Str.ofString x.cls) = some (.ref c) ∧ C = .ref c ∧ match x.fld with
  | none => True
  | some d => ∃ a f v, dx = some a ∧ w.F a = some (.xd [(f, v)]) ∧ Rep K mg w d v
variable (E : WX) (w : Wd) (Fr : Hp) (σ : L2.St)
/-- what is to be shown of an outcome -/
def Post (Q : VK) : Out D → Prop
  | .ok d s => ∀ v κ' w' H', w.le w' → Here K mg κ' w' Fr σ H' s → Rep K mg w' d v → Q v H'
  | .ex x s => ∀ κ' w' H' C dx, w.le w' → Here K mg κ' w' Fr σ H' s → ExOk K mg w' x C dx → E C dx σ H'
  | .no => False
def PostL (Q : List V → Hp → Prop) : Out (List D) → Prop
  | .ok d s => ∀ v κ' w' H', w.le w' → Here K mg κ' w' Fr σ H' s → Reps K mg w' d v → Q v H'
  | .ex x s => ∀ κ' w' H' C dx, w.le w' → Here K mg κ' w' Fr σ H' s → ExOk K mg w' x C dx → E C dx σ H'
  | .no => False
end
section
variable (K : PySem.W.Frag) (mg : Str → Option Value) (E : WX)
def rdE (f : S → Out D) : TE := fun σ H Q => ∃ κ w Fr s, Here K mg κ w Fr σ H s ∧ Post K mg E w Fr σ Q (f s)
def rdL (f : S → Out (List D)) : TA := fun σ H Q => ∃ κ w Fr s, Here K mg κ w Fr σ H s ∧ PostL K mg E w Fr σ Q (f s)
end
section
variable {K : PySem.W.Frag} {mg : Str → Option Value} {E : WX} {w w' : Wd} {Fr : Hp} {σ : L2.St} {Q Q' : VK} {QL QL' : List V → Hp → Prop}
theorem Post.mono (l : w.le w') : ∀ {o : Out D}, Post K mg E w Fr σ Q o → Post K mg E w' Fr σ Q o
  | .ok d s, h => fun v κ' w2 H' l2 => h v κ' w2 H' (l.trans l2)
  | .ex x s, h => fun κ' w2 H' C dx l2 => h κ' w2 H' C dx (l.trans l2)
  | .no, h => h
theorem Post.imp (q : ∀ v H, Q v H → Q' v H) : ∀ {o : Out D}, Post K mg E w Fr σ Q o → Post K mg E w Fr σ Q' o
  | .ok d s, h => fun v κ' w2 H' l2 hh r => q _ _ (h v κ' w2 H' l2 hh r)
  | .ex x s, h => h
  | .no, h => h
theorem PostL.mono (l : w.le w') : ∀ {o : Out (List D)}, PostL K mg E w Fr σ QL o → PostL K mg E w' Fr σ QL o
  | .ok d s, h => fun v κ' w2 H' l2 => h v κ' w2 H' (l.trans l2)
  | .ex x s, h => fun κ' w2 H' C dx l2 => h κ' w2 H' C dx (l.trans l2)
  | .no, h => h
/-- one thing after another -/
theorem Post.bind {g : D → S → Out D} : ∀ {o : Out D}, Post K mg E w Fr σ Q (o.bind g) →
    Post K mg E w Fr σ (fun v H1 => ∃ κ1 w1 d s1, w.le w1 ∧ Here K mg κ1 w1 Fr σ H1 s1 ∧ Rep K mg w1 d v ∧ Post K mg E w1 Fr σ Q (g d s1)) o
  | .ok a s1, h => fun v κ' w' H' l hh r => ⟨κ', w', a, s1, l, hh, r, Post.mono l h⟩
  | .ex x s1, h => h
  | .no, h => h
theorem Post.bindL {g : D → S → Out (List D)} : ∀ {o : Out D}, PostL K mg E w Fr σ QL (o.bind g) →
    Post K mg E w Fr σ (fun v H1 => ∃ κ1 w1 d s1, w.le w1 ∧ Here K mg κ1 w1 Fr σ H1 s1 ∧ Rep K mg w1 d v ∧ PostL K mg E w1 Fr σ QL (g d s1)) o
  | .ok a s1, h => fun v κ' w' H' l hh r => ⟨κ', w', a, s1, l, hh, r, PostL.mono l h⟩
  | .ex x s1, h => h
  | .no, h => h
theorem PostL.bind {g : List D → S → Out D} : ∀ {o : Out (List D)}, Post K mg E w Fr σ Q (o.bind g) →
    PostL K mg E w Fr σ (fun v H1 => ∃ κ1 w1 d s1, w.le w1 ∧ Here K mg κ1 w1 Fr σ H1 s1 ∧ Reps K mg w1 d v ∧ Post K mg E w1 Fr σ Q (g d s1)) o
  | .ok a s1, h => fun v κ' w' H' l hh r => ⟨κ', w', a, s1, l, hh, r, Post.mono l h⟩
  | .ex x s1, h => h
  | .no, h => h
theorem PostL.bindL {g : List D → S → Out (List D)} : ∀ {o : Out (List D)}, PostL K mg E w Fr σ QL (o.bind g) →
    PostL K mg E w Fr σ (fun v H1 => ∃ κ1 w1 d s1, w.le w1 ∧ Here K mg κ1 w1 Fr σ H1 s1 ∧ Reps K mg w1 d v ∧ PostL K mg E w1 Fr σ QL (g d s1)) o
  | .ok a s1, h => fun v κ' w' H' l hh r => ⟨κ', w', a, s1, l, hh, r, PostL.mono l h⟩
  | .ex x s1, h => h
  | .no, h => h
theorem Post.done {d : D} {s : S} {κ : Addr → Role} {H : Hp} {v : V} (hh : Here K mg κ w Fr σ H s) (r : Rep K mg w d v) (h : Post K mg E w Fr σ Q (.ok d s)) : Q v H := h v κ w H .rfl hh r
end

/-! ### what changes -/
def upR (κ : Addr → Role) (p : Addr) (r : Role) : Addr → Role := fun b => if b = p then r else κ b
theorem upR_same {κ : Addr → Role} {p : Addr} {r : Role} : upR κ p r p = r := if_pos rfl
theorem upR_ne {κ : Addr → Role} {p b : Addr} {r : Role} (h : b ≠ p) : upR κ p r b = κ b := if_neg h
section
variable {K : PySem.W.Frag} {mg : Str → Option Value} {κ : Addr → Role} {w w' : Wd} {Fr H H' : Hp} {σ : L2.St} {s : S} {t : List Ob} {p : Addr} {o : HO}
theorem RepKs.mono (l : w.le w') : ∀ {kvs : List (List Int × D)} {ks : List (List Int × Addr × Value)}, RepKs K mg w kvs ks → RepKs K mg w' kvs ks
  | [], _, h => h
  | q :: kvs, _, h => by
    obtain ⟨b, z, v, r, e, h0, hv, h1, h2⟩ := h
    exact ⟨b, z, v, r, e, SqT.mono l.F h0, hv, Rep.mono l _ _ h1, h2.mono l⟩
theorem RepO.mono (l : w.le w') {a : Addr} {u : HO} : ∀ {o : Ob}, RepO K mg w a u o → RepO K mg w' a u o
  | .lst ds, ⟨xs, e, r⟩ => ⟨xs, e, Reps.mono l _ _ r⟩
  | .dT kvs, ⟨ks, e, s, n, z, r⟩ => ⟨ks, e, s, n, z, r.mono l⟩
theorem Gl_.free (g : Gl_ K mg κ w Fr H t) (n : H p = none) : κ p = .free := by
  cases e : κ p with
  | free => rfl
  | _ => exact absurd n (g.nf p (by rw [e]; intro z; cases z))
/-- the world with one more frozen thing -/
def Wd.add (w : Wd) (p : Addr) (o : HO) : Wd := ⟨w.ρ, upd w.F p o⟩
theorem Wd.add_le (h : w.F p = none) : w.le (w.add p o) := ⟨List.prefix_refl _, fun a u e => by
  show upd w.F p o a = some u
  rw [upd_ne (ne_of_none e h)]; exact e⟩
theorem Gl_.noF (g : Gl_ K mg κ w Fr H t) (n : H p = none) : w.F p = none := by
  cases e : w.F p with
  | none => rfl
  | some o => have := (g.fz p o e).2; rw [n] at this; cases this
theorem Gl_.add (g : Gl_ K mg κ w Fr H t) (n : H p = none) : Gl_ K mg (upR κ p .fz) (w.add p o) Fr (upd H p o) t := by
  have le : w.le (w.add p o) := Wd.add_le (g.noF n)
  have ne : ∀ {a : Addr} {u : HO}, H a = some u → a ≠ p := fun e => ne_of_none e n
  refine ⟨fun a u e => ?_, fun a u e => ?_, fun a e => ?_, g.len, fun a xs e => ?_, fun m a e => ?_⟩
  · by_cases q : a = p
    · subst q
      have e : upd w.F a o a = some u := e
      rw [upd_same] at e; cases e
      exact ⟨upR_same, upd_same⟩
    · have e : upd w.F p o a = some u := e
      rw [upd_ne q] at e
      rw [upR_ne q, upd_ne q]; exact g.fz a u e
  · have h := g.fr a u e
    rw [upR_ne (ne h.2), upd_ne (ne h.2)]; exact h
  · by_cases q : a = p
    · subst q; rw [upd_same]; intro z; cases z
    · rw [upR_ne q] at e
      rw [upd_ne q]; exact g.nf a e
  · by_cases q : a = p
    · subst q
      rw [upd_same] at e
      exact .inr (by show upd w.F a o a = _; rw [upd_same]; exact e)
    · rw [upd_ne q] at e
      rw [upR_ne q]
      exact (g.nt a xs e).imp id fun z => by show upd w.F p o a = _; rw [upd_ne q]; exact z
  · obtain ⟨h1, ob, u, h2, h3, h4⟩ := g.st m a e
    rw [upR_ne (ne h3)]
    exact ⟨h1, ob, u, h2, by rw [upd_ne (ne h3)]; exact h3, h4.mono le⟩
/-- slots stay where nothing of theirs has changed -/
theorem SlOk.keep {i : Nat} {x : Option (Option V)} {κ' : Addr → Role} (l : w.le w') (hk : ∀ a u, κ a = .ow i → H a = some u → κ' a = .ow i ∧ H' a = some u) :
    ∀ {sl : Sl}, SlOk K mg κ w Fr H i x sl → SlOk K mg κ' w' Fr H' i x sl
  | .no, _ => True.intro
  | .val d, ⟨v, e, r⟩ => ⟨v, e, Rep.mono l _ _ r⟩
  | .own o, ⟨a, u, e, k, h, r⟩ => ⟨a, u, e, (hk a u k h).1, (hk a u k h).2, r.mono l⟩
  | .rd o, ⟨a, u, e, h, r⟩ => ⟨a, u, e, h, r.mono l⟩
  | .lk o, ⟨a, od, u, e, h, r⟩ => ⟨a, od, u, e, h, r.mono l⟩
theorem Rd.ne {H : Hp} {a p : Addr} {u : HO} (h : Rd H a u) (n : H p = none) : a ≠ p := by
  rcases h with h | ⟨o, h⟩
  · exact ne_of_none h n
  · exact ne_of_none h n
theorem Rd.upd {H : Hp} {a p : Addr} {u o : HO} (h : Rd H a u) (n : H p = none) : Rd (upd H p o) a u := by
  rcases h with h | ⟨o', h⟩
  · exact .inl (by rw [upd_ne (ne_of_none h n)]; exact h)
  · exact .inr ⟨o', by rw [upd_ne (ne_of_none h n)]; exact h⟩
theorem Here.add (h : Here K mg κ w Fr σ H s) (n : H p = none) : Here K mg (upR κ p .fz) (w.add p o) Fr σ (upd H p o) s := by
  refine ⟨h.g.add n, h.len, fun i x e => (h.sl i x e).keep (Wd.add_le (h.g.noF n)) (fun a u k q => ?_)⟩
  have ne := ne_of_none q n
  rw [upR_ne ne, upd_ne ne]; exact ⟨k, q⟩
/-- a slot gets a value -/
theorem Here.put {i : Nat} {d : D} {v : V} (h : Here K mg κ w Fr σ H s) (r : Rep K mg w d v) : Here K mg κ w Fr (σ.set i (some v)) H (s.put i (.val d)) := by
  refine ⟨h.g, by simp [S.put, h.len], fun j x e => ?_⟩
  by_cases q : i = j
  · subst q
    have e : (s.env.set i (.val d))[i]? = some x := e
    have hi : i < s.env.length := by
      have := (List.getElem?_eq_some_iff.mp e).1
      simpa using this
    rw [List.getElem?_set_self hi] at e
    cases e
    exact ⟨v, by rw [List.getElem?_set_self (by rw [← h.len]; exact hi)], r⟩
  · have e : (s.env.set i (.val d))[j]? = some x := e
    rw [List.getElem?_set_ne q] at e
    rw [List.getElem?_set_ne q]
    exact h.sl j x e
end

/-! ### a callee's view: what is the caller's own is framed -/
def lockR (κ : Addr → Role) : Addr → Role := fun a => match κ a with
  | .ow _ => .fr
  | r => r
def lockF (κ : Addr → Role) (Fr H : Hp) : Hp := fun a => match κ a with
  | .ow _ => H a
  | _ => Fr a
def unlockR (κ κ' : Addr → Role) : Addr → Role := fun a => match κ a with
  | .ow i => .ow i
  | _ => κ' a
section
variable {K : PySem.W.Frag} {mg : Str → Option Value} {κ κ' : Addr → Role} {w w' : Wd} {Fr H H' : Hp} {σ : L2.St} {s : S} {t : List Ob} {p : Addr} {o : HO}
theorem Gl_.lock (g : Gl_ K mg κ w Fr H t) : Gl_ K mg (lockR κ) w (lockF κ Fr H) H t := by
  refine ⟨fun a o e => ?_, fun a o e => ?_, fun a e => g.nf a fun z => e ?_, g.len, fun a xs e => (g.nt a xs e).imp (fun z => by unfold lockR; rw [z]) id, fun n a e => ?_⟩
  · obtain ⟨h1, h2⟩ := g.fz a o e
    exact ⟨by unfold lockR; rw [h1], h2⟩
  · unfold lockF at e
    unfold lockR
    cases q : κ a with
    | ow i => rw [q] at e; exact ⟨rfl, e⟩
    | _ => rw [q] at e; have := g.fr a o e; rw [q] at this; exact this
  · unfold lockR; rw [z]
  · obtain ⟨h1, r⟩ := g.st n a e
    exact ⟨by unfold lockR; rw [h1], r⟩
theorem Gl_.unlock (g : Gl_ K mg κ w Fr H t) {t' : List Ob} (g' : Gl_ K mg κ' w' (lockF κ Fr H) H' t') : Gl_ K mg (unlockR κ κ') w' Fr H' t' ∧ ∀ a i, κ a = .ow i → unlockR κ κ' a = .ow i ∧ ∀ u, H a = some u → H' a = some u := by
  have own : ∀ a i, κ a = .ow i → κ' a = .fr ∧ ∀ u, H a = some u → H' a = some u := fun a i e => by
    have hn := g.nf a (by rw [e]; intro z; cases z)
    cases q : H a with
    | none => exact absurd q hn
    | some u =>
      have := g'.fr a u (by unfold lockF; rw [e]; exact q)
      exact ⟨this.1, fun u' e' => by cases e'; exact this.2⟩
  refine ⟨⟨fun a o e => ?_, fun a o e => ?_, fun a e => ?_, g'.len, fun a xs e => ?_, fun n a e => ?_⟩, fun a i e => ⟨by unfold unlockR; rw [e], (own a i e).2⟩⟩
  · obtain ⟨h1, h2⟩ := g'.fz a o e
    refine ⟨?_, h2⟩
    unfold unlockR
    cases q : κ a with
    | ow i => have := (own a i q).1; rw [h1] at this; cases this
    | _ => exact h1
  · have h := g.fr a o e
    have := g'.fr a o (by unfold lockF; rw [h.1]; exact e)
    refine ⟨?_, this.2⟩
    unfold unlockR; rw [h.1]; exact this.1
  · unfold unlockR at e
    cases q : κ a with
    | ow i =>
      cases hq : H a with
      | none => exact absurd hq (g.nf a (by rw [q]; intro z; cases z))
      | some u => rw [(own a i q).2 u hq]; intro z; cases z
    | _ => rw [q] at e; exact g'.nf a e
  · rcases g'.nt a xs e with z | z
    · refine .inl ?_
      unfold unlockR
      cases q : κ a with
      | ow i => have := (own a i q).1; rw [z] at this; cases this
      | _ => exact z
    · exact .inr z
  · obtain ⟨h1, r⟩ := g'.st n a e
    refine ⟨?_, r⟩
    unfold unlockR
    cases q : κ a with
    | ow i => have := (own a i q).1; rw [h1] at this; cases this
    | _ => exact h1
theorem Here.unlock (h : Here K mg κ w Fr σ H s) {t' : List Ob} (l : w.le w') (g' : Gl_ K mg κ' w' (lockF κ Fr H) H' t') : Here K mg (unlockR κ κ') w' Fr σ H' { s with sto := t' } := by
  obtain ⟨g2, k⟩ := h.g.unlock g'
  exact ⟨g2, h.len, fun i x e => (h.sl i x e).keep l fun a u q hu => ⟨(k a i q).1, (k a i q).2 u hu⟩⟩
/-- within a block: what is own is read only -/
theorem Here.lock (h : Here K mg κ w Fr σ H s) : Here K mg (lockR κ) w (lockF κ Fr H) σ H { s with env := s.env.map Sl.lock } := by
  refine ⟨h.g.lock, by simpa using h.len, fun i x e => ?_⟩
  have e : (s.env.map Sl.lock)[i]? = some x := e
  rw [List.getElem?_map] at e
  cases q : s.env[i]? with
  | none => rw [q] at e; cases e
  | some y =>
    rw [q] at e
    cases e
    have hy := h.sl i y q
    cases y with
    | no => exact True.intro
    | val d => exact hy
    | own o =>
      obtain ⟨a, u, e, k, hu, r⟩ := hy
      exact ⟨a, u, e, .inl (by unfold lockF; rw [k]; exact hu), r⟩
    | rd o =>
      obtain ⟨a, u, e, hu, r⟩ := hy
      refine ⟨a, u, e, ?_, r⟩
      rcases hu with hu | ⟨ob, hu⟩
      · exact .inl (by unfold lockF; rw [(h.g.fr a _ hu).1]; exact hu)
      · exact .inr ⟨ob, by unfold lockF; rw [(h.g.fr a _ hu).1]; exact hu⟩
    | lk o =>
      obtain ⟨a, od, u, e, hu, r⟩ := hy
      exact ⟨a, od, u, e, by unfold lockF; rw [(h.g.fr a _ hu).1]; exact hu, r⟩
end
section
variable {K : PySem.W.Frag} {mg : Str → Option Value} {κ : Addr → Role} {w : Wd} {Fr H : Hp} {σ : L2.St} {s : S} {p : Addr} {xs : List V}
/-- a tuple that stands is known from now on -/
theorem Here.adopt (h : Here K mg κ w Fr σ H s) (e : H p = some (.tup xs)) : ∃ κ2 w2, w.le w2 ∧ Here K mg κ2 w2 Fr σ H s ∧ SqT K w2.F p xs := by
  rcases h.g.nt p xs e with k | k
  · have nF : w.F p = none := by
      cases q : w.F p with
      | none => rfl
      | some o => have := (h.g.fz p o q).1; rw [k] at this; cases this
    have le : w.le (w.add p (.tup xs)) := Wd.add_le nF
    refine ⟨upR κ p .fz, w.add p (.tup xs), le, ⟨⟨fun a u q => ?_, fun a u q => ?_, fun a q => ?_, h.g.len, fun a ys q => ?_, fun n a q => ?_⟩, h.len, fun i x q => (h.sl i x q).keep le fun a u kk hu => ?_⟩, .of upd_same⟩
    · by_cases z : a = p
      · subst z
        have q : upd w.F a (.tup xs) a = some u := q
        rw [upd_same] at q; cases q
        exact ⟨upR_same, e⟩
      · have q : upd w.F p (.tup xs) a = some u := q
        rw [upd_ne z] at q
        rw [upR_ne z]; exact h.g.fz a u q
    · have hf := h.g.fr a u q
      have z : a ≠ p := fun z => by subst z; rw [k] at hf; cases hf.1
      rw [upR_ne z]; exact hf
    · by_cases z : a = p
      · subst z; rw [e]; intro z; cases z
      · rw [upR_ne z] at q; exact h.g.nf a q
    · by_cases z : a = p
      · subst z
        rw [e] at q; cases q
        exact .inr upd_same
      · rw [upR_ne z]
        exact (h.g.nt a ys q).imp id fun y => le.F _ _ y
    · obtain ⟨h1, ob, u, h2, h3, h4⟩ := h.g.st n a q
      have z : a ≠ p := fun z => by subst z; rw [k] at h1; cases h1
      rw [upR_ne z]
      exact ⟨h1, ob, u, h2, h3, h4.mono le⟩
    · have z : a ≠ p := fun z => by subst z; rw [k] at kk; cases kk
      rw [upR_ne z]; exact ⟨kk, hu⟩
  · exact ⟨κ, w, .rfl, h, .of k⟩
end
end Z

set_option linter.all false
set_option autoImplicit false
set_option maxRecDepth 20000
/-! Which code stands for which syntax. -/
namespace Z
open PySem PySem.Spec PyProof.Rows L2

def visB (sc : Scope) (x : Str) : Bool := match sc.names.lookup x with
  | some .local => true
  | some .cell => true
  | some .free => true
  | _ => false
def locB (sc : Scope) (x : Str) : Bool := match sc.names.lookup x with
  | some .local => true
  | _ => false
def cellB (sc : Scope) (x : Str) : Bool := match sc.names.lookup x with
  | some .cell => true
  | _ => false
def glB (sc : Scope) (x : Str) : Bool := match sc.names.lookup x with
  | some .globalImplicit => true
  | _ => false
def gd (x : Str) : Bool := !(x == ("__debug__" : Str)) && !(x == ("__classdict__" : Str))
/-- a name in its slot -/
def nm (N : List Str) (sc : Scope) (i : Nat) (x : Str) : Bool := decide (N[i]? = some x) && (visB sc x && gd x)
/-- no star, no slice, no set, no walrus -/
def shp : Expr → Bool
  | .Starred .. => false
  | .Slice .. => false
  | .Set .. => false
  | .NamedExpr .. => false
  | _ => true
def okB : BOp → Operator → Bool
  | .add, .Add => true | .sub, .Sub => true | .mul, .Mult => true | .fdiv, .FloorDiv => true | .mod, .Mod => true | .pow, .Pow => true
  | _, _ => false
def okC : COp → CmpOp → Bool
  | .eq, .Eq => true | .ne, .NotEq => true | .lt, .Lt => true | .le, .LtE => true | .gt, .Gt => true | .ge, .GtE => true
  | .is_, .Is => true | .isn, .IsNot => true | .in_, .In => true | .nin, .NotIn => true
  | _, _ => false
def tyName : Ty → String
  | .int => "int" | .bool => "bool" | .str => "str" | .tuple => "tuple" | .list => "list" | .dict => "dict"
def bfName : BF → String
  | .len => "len" | .abs => "abs" | .all => "all" | .any => "any" | .tuple => "tuple" | .int => "int" | .isi _ => "isinstance" | .max => "max" | .min => "min" | .list => "list" | .gcd => "gcd"
def nameIs (sc : Scope) (f : String) (x : Str) : Bool := decide (x = Str.ofString f) && (glB sc x && gd x)
def isName (sc : Scope) (f : String) : Expr → Bool
  | .Name x _ => nameIs sc f x
  | _ => false
def isNil : Expr → Bool
  | .List [] _ => true
  | _ => false
def isTupX : Expr → Bool
  | .Tuple _ _ _ => true
  | _ => false
/-- a method's name, on one line -/
def mtB (name : String) (i : Nat) (N : List Str) (sc : Scope) : Expr → Pos → Bool
  | .Attribute (.Name x _) a apos, pos => nm N sc i x && (decide (a = Str.ofString name) && (apos.endLine == pos.line))
  | _, _ => false
/-- a comprehension over the keys of slot i -/
def overB (i : Nat) : E → Bool
  | .comp _ _ (.mk j) _ _ => decide (i = j)
  | _ => false
mutual
def okE (N : List Str) (sc : Scope) : E → Expr → Bool
  | .var i, x => (match x with | .Name y _ => nm N sc i y | _ => false)
  | .con c, x => (match x with | .Name y _ => nameIs sc c y | _ => false)
  | .int i, x => (match x with | .Constant (.int j) _ _ => decide (i = j) | _ => false)
  | .str z, x => (match x with | .Constant (.str y) _ _ => decide (y = Str.ofString z) | _ => false)
  | .bl b, x => (match x with | .Constant (.bool c) _ _ => b == c | _ => false)
  | .non, x => (match x with | .Constant .none _ _ => true | _ => false)
  | .tup es, x => (match x with | .Tuple xs _ _ => okEs N sc es xs | _ => false)
  | .lst es, x => (match x with | .List xs _ => okEs N sc es xs | _ => false)
  | .bin o a b, x => (match x with | .BinOp y op z _ => okB o op && (okE N sc a y && okE N sc b z) | _ => false)
  | .neg a, x => (match x with | .UnaryOp .USub y _ => okE N sc a y | _ => false)
  | .not a, x => (match x with | .UnaryOp .Not y _ => okE N sc a y | _ => false)
  | .cmp o a b, x => (match x with | .Compare y [op] [z] _ => okC o op && (okE N sc a y && (okE N sc b z && shp z)) | _ => false)
  | .cmp2 o p a b c, x => (match x with | .Compare y [op, op'] [z, u] _ => okC o op && (okC p op' && (okE N sc a y && (okE N sc b z && (okE N sc c u && (shp z && shp u))))) | _ => false)
  | .and a b, x => (match x with
    | .BoolOp .And (y :: z :: r) pos => okE N sc a y && (match r with | [] => okE N sc b z | _ => okE N sc b (.BoolOp .And (z :: r) pos))
    | _ => false)
  | .or a b, x => (match x with
    | .BoolOp .Or (y :: z :: r) pos => okE N sc a y && (match r with | [] => okE N sc b z | _ => okE N sc b (.BoolOp .Or (z :: r) pos))
    | _ => false)
  | .ite c a b, x => (match x with | .IfExp t y z _ => okE N sc c t && (okE N sc a y && okE N sc b z) | _ => false)
  | .call f es, x => (match x with | .Call (.Name y _) (u :: us) [] _ => nameIs sc f y && okEs N sc es (u :: us) | _ => false)
  | .callk f _ nks _ es fs, x => (match x with | .Call (.Name y _) xs (k0 :: kws) _ => nameIs sc f y && (okEs N sc es xs && okKs N sc fs nks (k0 :: kws)) | _ => false)
  | .blt f es, x => (match x with
    | .Call (.Name y _) (u :: us) [] _ => (match f with | .isi _ => false | _ => true) && (nameIs sc (bfName f) y && okEs N sc es (u :: us))
    | _ => false)
  | .isi t e, x => (match x with
    | .Call (.Name y _) [u, v] [] _ => nameIs sc "isinstance" y && (okE N sc e u && (shp u && isName sc (tyName t) v))
    | _ => false)
  | .idx a i, x => (match x with | .Subscript y z _ => okE N sc a y && (okE N sc i z && shp z) | _ => false)
  | .slc a lo hi, x => (match x with | .Subscript y (.Slice l h none _) _ => okE N sc a y && (okEo N sc lo l && okEo N sc hi h) | _ => false)
  | .rev a, x => (match x with | .Subscript y (.Slice none none (some (.UnaryOp .USub (.Constant (.int 1) _ _) _)) _) _ => okE N sc a y | _ => false)
  | .comp elt tg it c own, x => (match x with
    | .ListComp el [⟨t, ir, ifs, 0⟩] scope _ => okI N sc (isTupX t) it ir && (shp ir && (blkC N sc scope (own.map fun i => (N.getD i Str.empty, i)) &&
        ((!own.isEmpty && okT N scope own tg t) && (okE N (relS scope sc) elt el && (match ifs with
          | [] => (match c with | .bl true => true | _ => false)
          | [g] => okE N (relS scope sc) c g
          | _ => false)))))
    | _ => false)
  | .frz i, x => (match x with | .Name y _ => nm N sc i y | _ => false)
  | .mlen i, x => (match x with | .Call (.Name f _) [.Name y _] [] _ => nameIs sc "len" f && nm N sc i y | _ => false)
  | .midx i e, x => (match x with | .Subscript (.Name y _) z _ => nm N sc i y && (okE N sc e z && shp z) | _ => false)
  | .mnil i b, x => (match x with | .Compare (.Name y _) [op] [z] _ => nm N sc i y && (isNil z && (match op with | .Eq => b | .NotEq => !b | _ => false)) | _ => false)
  | .mtup i, x => (match x with | .Call (.Name f _) [.Name y _] [] _ => nameIs sc "tuple" f && nm N sc i y | _ => false)
  | .mpop i, x => (match x with | .Call o [] [] pos => mtB "pop" i N sc o pos | _ => false)
  | .mget i k d, x => (match x with | .Call o [u, v] [] pos => mtB "get" i N sc o pos && (okE N sc k u && (okE N sc d v && (shp u && shp v))) | _ => false)
  | .mpopk i k, x => (match x with | .Call o [u] [] pos => mtB "pop" i N sc o pos && (okE N sc k u && shp u) | _ => false)
  | .lkd i e, x => overB i e && okE N sc e x
def okEs (N : List Str) (sc : Scope) : Es → List Expr → Bool
  | .nil, xs => (match xs with | [] => true | _ => false)
  | .cons e r, xs => (match xs with | x :: xs => okE N sc e x && (shp x && okEs N sc r xs) | _ => false)
def okKs (N : List Str) (sc : Scope) : Es → List String → List Keyword → Bool
  | .nil, nks, kws => (match nks, kws with | [], [] => true | _, _ => false)
  | .cons e r, nks, kws => (match nks, kws with | n :: ns, ⟨some m, x, _⟩ :: ks => decide (m = Str.ofString n) && (okE N sc e x && okKs N sc r ns ks) | _, _ => false)
def okEo (N : List Str) (sc : Scope) : Eo → Option Expr → Bool
  | .no, x => (match x with | none => true | _ => false)
  | .so e, x => (match x with | some x => okE N sc e x | _ => false)
def okI (N : List Str) (sc : Scope) (tt : Bool) : It → Expr → Bool
  | .seq e, x => okE N sc e x
  | .mv i, x => (match x with | .Name y _ => nm N sc i y | _ => false)
  | .mk i, x => (match x with | .Name y _ => nm N sc i y | _ => false)
  | .rng e, x => (match x with | .Call (.Name f _) [u] [] _ => nameIs sc "range" f && (okE N sc e u && shp u) | _ => false)
  | .rng2 a b, x => (match x with | .Call (.Name f _) [u, v] [] _ => nameIs sc "range" f && (okE N sc a u && (okE N sc b v && (shp u && shp v))) | _ => false)
  | .enum e, x => (match x with | .Call (.Name f _) [u] [] _ => tt && nameIs sc "enumerate" f && (okE N sc e u && shp u) | _ => false)
  | .zip a b, x => (match x with | .Call (.Name f _) [u, v] [] _ => tt && nameIs sc "zip" f && (okE N sc a u && (okE N sc b v && (shp u && shp v))) | _ => false)
  | .ezip _ _, _ => false
/-- targets of a for, a comprehension, an assignment; own: the slots that they may be (a comprehension's), all else -/
def okT (N : List Str) (sc : Scope) (own : List Nat) : Tg → Expr → Bool
  | .v i, x => (match x with | .Name y _ => decide (N[i]? = some y) && ((locB sc y || cellB sc y) && (own.isEmpty || own.contains i)) | _ => false)
  | .o _, _ => false
  | .tup ts, x => (match x with | .Tuple xs _ _ => okTs N sc own ts xs | _ => false)
def okTs (N : List Str) (sc : Scope) (own : List Nat) : Tgs → List Expr → Bool
  | .nil, xs => (match xs with | [] => true | _ => false)
  | .cons t r, xs => (match xs with | x :: xs => okT N sc own t x && okTs N sc own r xs | _ => false)
end
end Z

set_option linter.all false
set_option autoImplicit false
set_option maxRecDepth 20000
/-! Comparisons of data. -/
namespace Z
open PySem PySem.Spec PyProof.Rows L2

mutual
def py : D → PyData
  | .non => .none
  | .bl b => .bool b
  | .int i => .int i
  | .str x => .str x
  | .tup ds => .tuple (pys ds)
  | .lst ds => .list (pys ds)
  | .ref _ => .none
  | .fn _ => .none
  | .scr _ => .none
def pys : List D → List PyData
  | [] => []
  | d :: ds => py d :: pys ds
end
theorem pys_map : ∀ ds : List D, pys ds = ds.map py
  | [] => rfl
  | d :: ds => by rw [pys, pys_map ds]; rfl
mutual
theorem plain_lay : ∀ (n : Nat) (d : D), d.plain n = true → (py d).canLay0 = true ∧ (py d).depth ≤ n
  | n, .non, _ => ⟨rfl, by simp [py, PyData.depth]⟩
  | n, .bl _, _ => ⟨rfl, by simp [py, PyData.depth]⟩
  | n, .int _, _ => ⟨rfl, by simp [py, PyData.depth]⟩
  | n, .str x, h => ⟨by
      cases n <;> exact h, by simp [py, PyData.depth]⟩
  | 0, .tup ds, h => by simp [D.plain] at h
  | 0, .lst ds, h => by simp [D.plain] at h
  | n + 1, .tup ds, h => by
    obtain ⟨h1, h2⟩ := plains_lay n ds (by simpa [D.plain] using h)
    exact ⟨h1, by simp only [py, PyData.depth]; omega⟩
  | n + 1, .lst ds, h => by
    obtain ⟨h1, h2⟩ := plains_lay n ds (by simpa [D.plain] using h)
    exact ⟨h1, by simp only [py, PyData.depth]; omega⟩
  | n, .ref _, h => by cases n <;> simp [D.plain] at h
  | n, .fn _, h => by cases n <;> simp [D.plain] at h
  | n, .scr _, h => by cases n <;> simp [D.plain] at h
theorem plains_lay : ∀ (n : Nat) (ds : List D), plains n ds = true → PyData.canLayAll0 (pys ds) = true ∧ PyData.depthAll (pys ds) ≤ n
  | n, [], _ => ⟨rfl, by simp [pys, PyData.depthAll]⟩
  | n, d :: ds, h => by
    have h : D.plain n d = true ∧ plains n ds = true := by simpa [plains] using h
    obtain ⟨a1, a2⟩ := plain_lay n d h.1
    obtain ⟨b1, b2⟩ := plains_lay n ds h.2
    refine ⟨by simp [pys, PyData.canLayAll0, a1, b1], ?_⟩
    simp only [pys, PyData.depthAll]
    omega
end
mutual
theorem py_eqv : ∀ (a b : D) (n m : Nat), a.plain n = true → b.plain m = true → PyData.eqv (py a) (py b) = a.eqv b
  | .non, b, n, m, h, k => by cases b <;> first | rfl | (cases m <;> simp [D.plain] at k)
  | .bl x, b, n, m, h, k => by cases b <;> first | rfl | (cases m <;> simp [D.plain] at k)
  | .int i, b, n, m, h, k => by cases b <;> first | rfl | (cases m <;> simp [D.plain] at k)
  | .str x, b, n, m, h, k => by cases b <;> first | rfl | (cases m <;> simp [D.plain] at k)
  | .tup ds, .tup es, n, m, h, k => by
    cases n with
    | zero => simp [D.plain] at h
    | succ n =>
      cases m with
      | zero => simp [D.plain] at k
      | succ m => exact pys_eqv ds es n m (by simpa [D.plain] using h) (by simpa [D.plain] using k)
  | .lst ds, .lst es, n, m, h, k => by
    cases n with
    | zero => simp [D.plain] at h
    | succ n =>
      cases m with
      | zero => simp [D.plain] at k
      | succ m => exact pys_eqv ds es n m (by simpa [D.plain] using h) (by simpa [D.plain] using k)
  | .tup ds, .non, n, m, h, k => rfl
  | .tup ds, .bl _, n, m, h, k => rfl
  | .tup ds, .int _, n, m, h, k => rfl
  | .tup ds, .str _, n, m, h, k => rfl
  | .tup ds, .lst _, n, m, h, k => rfl
  | .tup ds, .ref _, n, m, h, k => by cases m <;> simp [D.plain] at k
  | .tup ds, .fn _, n, m, h, k => by cases m <;> simp [D.plain] at k
  | .tup ds, .scr _, n, m, h, k => by cases m <;> simp [D.plain] at k
  | .lst ds, .non, n, m, h, k => rfl
  | .lst ds, .bl _, n, m, h, k => rfl
  | .lst ds, .int _, n, m, h, k => rfl
  | .lst ds, .str _, n, m, h, k => rfl
  | .lst ds, .tup _, n, m, h, k => rfl
  | .lst ds, .ref _, n, m, h, k => by cases m <;> simp [D.plain] at k
  | .lst ds, .fn _, n, m, h, k => by cases m <;> simp [D.plain] at k
  | .lst ds, .scr _, n, m, h, k => by cases m <;> simp [D.plain] at k
  | .ref _, b, n, m, h, k => by cases n <;> simp [D.plain] at h
  | .fn _, b, n, m, h, k => by cases n <;> simp [D.plain] at h
  | .scr _, b, n, m, h, k => by cases n <;> simp [D.plain] at h
theorem pys_eqv : ∀ (a b : List D) (n m : Nat), plains n a = true → plains m b = true → PyData.eqvAll (pys a) (pys b) = eqvs a b
  | [], [], _, _, _, _ => rfl
  | [], _ :: _, _, _, _, _ => rfl
  | _ :: _, [], _, _, _, _ => rfl
  | a :: as, b :: bs, n, m, h, k => by
    have h : D.plain n a = true ∧ plains n as = true := by simpa [plains] using h
    have k : D.plain m b = true ∧ plains m bs = true := by simpa [plains] using k
    simp only [pys, PyData.eqvAll, eqvs, py_eqv a b n m h.1 k.1, pys_eqv as bs n m h.2 k.2]
end
section
variable {K : PySem.W.Frag} {mg : Str → Option Value}
mutual
theorem Rep.dp {w : Wd} : ∀ (n : Nat) (d : D) (v : V), d.plain n = true → Rep K mg w d v → Dp K w.F v (py d)
  | n, .non, v, _, h => by cases h; exact .non
  | n, .bl b, v, _, h => by cases h; exact .bl b
  | n, .int b, v, _, h => by cases h; exact .int b
  | n, .str b, v, _, h => by cases h; exact .str b
  | 0, .tup ds, _, h, _ => by simp [D.plain] at h
  | 0, .lst ds, _, h, _ => by simp [D.plain] at h
  | n + 1, .tup ds, v, h, r => by
    obtain ⟨a, xs, rfl, h1, h2⟩ := r
    exact .tup h1 (Reps.dp n ds xs (by simpa [D.plain] using h) h2)
  | n + 1, .lst ds, v, h, r => by
    obtain ⟨a, xs, rfl, h1, h2⟩ := r
    exact .lst (.of h1) (Reps.dp n ds xs (by simpa [D.plain] using h) h2)
  | n, .ref _, _, h, _ => by cases n <;> simp [D.plain] at h
  | n, .fn _, _, h, _ => by cases n <;> simp [D.plain] at h
  | n, .scr _, _, h, _ => by cases n <;> simp [D.plain] at h
theorem Reps.dp {w : Wd} : ∀ (n : Nat) (ds : List D) (vs : List V), plains n ds = true → Reps K mg w ds vs → DpAll K w.F vs (pys ds)
  | n, [], _, _, h => by cases h; exact .nil
  | n, d :: ds, _, h, r => by
    have h : D.plain n d = true ∧ plains n ds = true := by simpa [plains] using h
    obtain ⟨v, t, rfl, h1, h2⟩ := r
    exact .cons (Rep.dp n d v h.1 h1) (Reps.dp n ds t h.2 h2)
end
end
mutual
theorem Dp.mono {K : PySem.W.Frag} {H H' : Hp} (m : ∀ b o, H b = some o → H' b = some o) : ∀ (d : PyData) (v : V), Dp K H v d → Dp K H' v d
  | .none, _, h => by cases h; exact .non
  | .bool _, _, h => by cases h; exact .bl _
  | .int _, _, h => by cases h; exact .int _
  | .str _, _, h => by cases h; exact .str _
  | .list ds, _, h => by cases h with | lst h1 h2 => exact .lst (SqL.mono m h1) (DpAll.mono m ds _ h2)
  | .tuple ds, _, h => by cases h with | tup h1 h2 => exact .tup (SqT.mono m h1) (DpAll.mono m ds _ h2)
  | .dict _, _, h => by cases h
theorem DpAll.mono {K : PySem.W.Frag} {H H' : Hp} (m : ∀ b o, H b = some o → H' b = some o) : ∀ (ds : List PyData) (vs : List V), DpAll K H vs ds → DpAll K H' vs ds
  | [], _, h => by cases h; exact .nil
  | d :: ds, _, h => by cases h with | cons h1 h2 => exact .cons (Dp.mono m d _ h1) (DpAll.mono m ds _ h2)
end
end Z

set_option linter.all false
set_option autoImplicit false
set_option maxRecDepth 20000
/-! Operators on data. -/
namespace Z
open PySem PySem.Spec PyProof.Rows L2

section
variable (K : PySem.W.Frag) (mg : Str → Option Value)
/-- a result: there already, or a new frozen object -/
structure Res (w : Wd) (H : Hp) (Q : VK) (r : D) : Prop where
  here : ∀ v, Rep K mg w r v → Q v H
  new : ∀ p o v, H p = none → Rep K mg (w.add p o) r v → Q v (upd H p o)
end
section
variable {K : PySem.W.Frag} {mg : Str → Option Value} {E : WX} {κ : Addr → Role} {w : Wd} {Fr : Hp} {σ : L2.St} {H : Hp} {s : S} {Q : VK} {r : D}
theorem Post.res (hh : Here K mg κ w Fr σ H s) (p : Post K mg E w Fr σ Q (.ok r s)) : Res K mg w H Q r :=
  ⟨fun v hr => p v κ w H .rfl hh hr, fun a o v n hr => p v _ _ _ (Wd.add_le (hh.g.noF n)) (hh.add n) hr⟩
theorem Post.of {R : Option D} (hh : Here K mg κ w Fr σ H s) (p : Post K mg E w Fr σ Q (.of R s)) : ∃ r, R = some r ∧ Res K mg w H Q r := by
  cases R with
  | none => exact p.elim
  | some r => exact ⟨r, rfl, p.res hh⟩
theorem Here.fz (hh : Here K mg κ w Fr σ H s) : ∀ a o, w.F a = some o → H a = some o := fun a o e => (hh.g.fz a o e).2
end
section
variable {K : PySem.W.Frag} {mg : Str → Option Value} {w : Wd} {H : Hp} {Q : VK} {x y : V} {d e r : D}
theorem Res.seqT {xs : List V} {ds : List D} (q : Res K mg w H Q (.tup ds)) (m : Reps K mg w ds xs) : ∀ p, H p = none → w.F p = none → Q (.ref p) (upd H p (.tup xs)) := fun p n nf =>
  q.new p (.tup xs) (.ref p) n ⟨p, xs, rfl, .of upd_same, Reps.mono (Wd.add_le nf) _ _ m⟩
theorem Res.seqL {xs : List V} {ds : List D} (q : Res K mg w H Q (.lst ds)) (m : Reps K mg w ds xs) : ∀ p, H p = none → w.F p = none → Q (.ref p) (upd H p (.lst xs)) := fun p n nf =>
  q.new p (.lst xs) (.ref p) n ⟨p, xs, rfl, upd_same, Reps.mono (Wd.add_le nf) _ _ m⟩
theorem noF_of (fz : ∀ a o, w.F a = some o → H a = some o) {p : Addr} (n : H p = none) : w.F p = none := by
  cases q : w.F p with
  | none => rfl
  | some o => rw [fz p o q] at n; cases n
/-- what is asked of a reading by values -/
structure Is2 (K : PySem.W.Frag) (mg : Str → Option Value) (w : Wd) (H : Hp) (d e : D) (x y : V) : Prop where
  fz : ∀ a o, w.F a = some o → H a = some o
  dx : Rep K mg w d x
  ey : Rep K mg w e y
end
theorem len_le {n : Nat} (h : n ≤ lenLine) : n ≤ sizeLine := Nat.le_trans h (by decide)
theorem len_lt {n : Nat} (h : n < lenLine) : n < sizeLine := Nat.lt_of_lt_of_le h (by decide)

section
variable {X : Cx}
/-- // by any divisor below 2 ^ 9000 in size -/
theorem op_fdivA : OpR X (binaryOp .FloorDiv) (rI (fun _ j => j ≠ 0 ∧ j.natAbs.log2 < 9000) fun i j => .int (i.fdiv j)) := opI fun i j _ _ _ _ _ hc q => floordiv_int hc.1 q (.inl (PyProof.noPylong_of_log2 hc.2))
theorem szMul_ok {i j : Int} (h : szMul i j = true) : CMulW i j := by
  unfold szMul at h
  show i.natAbs.log2 + j.natAbs.log2 < 1000000
  exact of_decide_eq_true h
theorem binD_ok {o : BOp} {op : Operator} (ho : okB o op = true) : OpR X (binaryOp op) (fun x y H Q => ∃ w d e r, Is2 X.K X.mg w H d e x y ∧ binD o d e = some r ∧ Res X.K X.mg w H Q r) := by
  intro pins s σ H x y v u Q I rx ry h
  obtain ⟨w, d, e, r, ⟨fz, dx, ey⟩, hr, q⟩ := h
  unfold binD at hr
  split at hr
  · cases dx; cases ey; cases hr
    cases op <;> first | (simp [okB] at ho; done) | exact op_add pins s σ H _ _ v u Q I rx ry ⟨_, _, rfl, rfl, q.here _ rfl⟩
  · cases dx; cases ey; cases hr
    cases op <;> first | (simp [okB] at ho; done) | exact op_sub pins s σ H _ _ v u Q I rx ry ⟨_, _, rfl, rfl, q.here _ rfl⟩
  · cases dx; cases ey
    split at hr
    · rename_i hs
      cases hr
      cases op <;> first | (simp [okB] at ho; done) | exact op_mulW pins s σ H _ _ v u Q I rx ry ⟨_, _, rfl, rfl, szMul_ok hs, q.here _ rfl⟩
    · cases hr
  · cases dx; cases ey
    split at hr
    · rename_i hs
      cases hr
      unfold szDiv at hs
      simp only [Bool.and_eq_true, decide_eq_true_eq] at hs
      cases op <;> first | (simp [okB] at ho; done) | exact op_fdivA pins s σ H _ _ v u Q I rx ry ⟨_, _, rfl, rfl, hs, q.here _ rfl⟩
    · cases hr
  · cases dx; cases ey
    split at hr
    · cases hr
    · rename_i hs
      cases hr
      cases op <;> first | (simp [okB] at ho; done) | exact op_modN pins s σ H _ _ v u Q I rx ry ⟨_, _, rfl, rfl, hs, q.here _ rfl⟩
  · cases dx; cases ey
    split at hr
    · rename_i hs
      cases hr
      unfold szPow at hs
      simp only [Bool.and_eq_true, decide_eq_true_eq] at hs
      cases op <;> first | (simp [okB] at ho; done) | exact op_pow pins s σ H _ _ v u Q I rx ry ⟨_, _, rfl, rfl, ⟨hs.1.1, hs.1.2, hs.2⟩, q.here _ rfl⟩
    · cases hr
  · cases dx; cases ey
    split at hr
    · rename_i hs
      cases hr
      cases op <;> first | (simp [okB] at ho; done) | exact op_add_str pins s σ H _ _ v u Q I rx ry ⟨_, _, rfl, rfl, len_le hs, q.here _ rfl⟩
    · cases hr
  · obtain ⟨a, xs, rfl, h1, h2⟩ := dx
    obtain ⟨b, ys, rfl, h3, h4⟩ := ey
    split at hr
    · rename_i hs
      cases hr
      cases op <;> first | (simp [okB] at ho; done) | skip
      refine op_catA pins s σ H _ _ v u Q I rx ry ⟨a, b, xs, ys, rfl, rfl, SqT.mono fz h1, SqT.mono fz h3, by rw [h2.length, h4.length]; exact len_le hs, fun e => ?_, fun _ e => ?_, fun _ _ p n => q.seqT (h2.app h4) p n (noF_of fz n)⟩
      · subst e
        refine q.here _ ⟨b, ys, rfl, h3, ?_⟩
        have := h2.app h4
        simpa using this
      · subst e
        refine q.here _ ⟨a, xs, rfl, h1, ?_⟩
        have := h2.app h4
        simpa using this
    · cases hr
  · obtain ⟨a, xs, rfl, h1, h2⟩ := dx
    obtain ⟨b, ys, rfl, h3, h4⟩ := ey
    split at hr
    · rename_i hs
      cases hr
      cases op <;> first | (simp [okB] at ho; done) | skip
      exact op_cat pins s σ H _ _ v u Q I rx ry ⟨a, b, xs, ys, rfl, rfl, fz _ _ h1, fz _ _ h3, by rw [h2.length, h4.length]; exact len_le hs, fun p n => q.seqL (h2.app h4) p n (noF_of fz n)⟩
    · cases hr
  · obtain ⟨a, xs, rfl, h1, h2⟩ := dx
    cases ey
    split at hr
    · rename_i hs
      cases hr
      cases op <;> first | (simp [okB] at ho; done) | skip
      have hne : xs ≠ [] := fun z => by
        subst z
        have := h2.length
        have h3 := hs.2.2.2
        rw [List.isEmpty_eq_false_iff] at h3
        exact h3 (List.length_eq_zero_iff.mp this.symm)
      exact op_repT pins s σ H _ _ v u Q I rx ry ⟨a, _, xs, rfl, rfl, SqT.mono fz h1, hne, hs.1, hs.2.1, by rw [h2.length]; exact hs.2.2.1, fun p n => q.seqT (h2.rep _) p n (noF_of fz n)⟩
    · cases hr
  · cases hr
end
end Z

set_option linter.all false
set_option autoImplicit false
set_option maxRecDepth 20000
/-! Comparisons, subscripts, slices, built-in functions. -/
namespace Z
open PySem PySem.Spec PyProof.Rows L2
theorem Rep.isNon {K : PySem.W.Frag} {mg : Str → Option Value} {w : Wd} {d : D} {x : V} (h : Rep K mg w d x) : decide (x = .non) = d.isNon := by
  cases d with
  | non => cases h; rfl
  | bl b => cases h; rfl
  | int b => cases h; rfl
  | str b => cases h; rfl
  | tup ds => obtain ⟨a, xs, rfl, _⟩ := h; rfl
  | lst ds => obtain ⟨a, xs, rfl, _⟩ := h; rfl
  | ref n => obtain ⟨a, rfl, _⟩ := h; rfl
  | fn x => obtain ⟨a, rfl, _⟩ := h; rfl
  | scr x => obtain ⟨a, rfl, _⟩ := h; rfl
theorem any_py : ∀ (ds : List D) (a : D), plains 30 ds = true → a.plain 30 = true → ((pys ds).any fun z => PyData.eqv z (py a)) = ds.any fun z => z.eqv a
  | [], _, _, _ => rfl
  | d :: ds, a, h, k => by
    have h : D.plain 30 d = true ∧ plains 30 ds = true := by simpa [plains] using h
    simp only [pys, List.any_cons, py_eqv d a 30 30 h.1 k, any_py ds a h.2 k]
section
variable {X : Cx}
theorem str_one {x : Str} (h : x.length = 1) : x = ⟨#[x.cps.getD 0 0]⟩ := by
  obtain ⟨c⟩ := x
  have h : c.size = 1 := h
  congr
  apply Array.ext
  · simpa using h
  · intro i h1 h2
    have : i = 0 := by simp at h2; omega
    subst this
    simp [h]
theorem cmpD_ok {o : COp} {op : CmpOp} (hu : X.A.units + 65 < cLine) (ho : okC o op = true) : OpR X (compareOp op) (fun x y H Q => ∃ w d e b, Is2 X.K X.mg w H d e x y ∧ cmpD o d e = some b ∧ Q (.bl b) H) := by
  intro pins s σ H x y v u Q I rx ry h
  obtain ⟨w, d, e, r, ⟨fz, dx, ey⟩, hr, q⟩ := h
  unfold cmpD at hr
  have inn : ∀ (ds : List D) (b : Bool), inD d ds = some b → (d.plain 30 = true ∧ plains 30 ds = true) ∧ b = ds.any fun z => z.eqv d := fun ds b h => by
    unfold inD at h
    split at h
    · rename_i hp
      cases h
      exact ⟨by simpa using hp, rfl⟩
    · cases h
  split at hr
  · split at hr
    · rename_i hp
      cases hr
      simp only [Bool.and_eq_true] at hp
      obtain ⟨p1, p2⟩ := plain_lay 30 d hp.1
      obtain ⟨q1, q2⟩ := plain_lay 30 e hp.2
      obtain ⟨as, r1⟩ := Dp.reads I (py d) x v (Dp.mono fz _ _ (dx.dp 30 d x hp.1)) rx
      obtain ⟨bs, r2⟩ := Dp.reads I (py e) y u (Dp.mono fz _ _ (ey.dp 30 e y hp.2)) ry
      cases op <;> first | (simp [okC] at ho; done) | skip
      refine SeqAt.compareEq_reads r1 r2 p1 q1 (by have := Nat.min_le_left (py d).depth (py e).depth; omega) ⟨.bl _, H, I, rfl, ?_⟩
      rw [py_eqv d e 30 30 hp.1 hp.2]
      exact q
    · cases hr
  · split at hr
    · rename_i hp
      cases hr
      simp only [Bool.and_eq_true] at hp
      obtain ⟨p1, p2⟩ := plain_lay 30 d hp.1
      obtain ⟨q1, q2⟩ := plain_lay 30 e hp.2
      obtain ⟨as, r1⟩ := Dp.reads I (py d) x v (Dp.mono fz _ _ (dx.dp 30 d x hp.1)) rx
      obtain ⟨bs, r2⟩ := Dp.reads I (py e) y u (Dp.mono fz _ _ (ey.dp 30 e y hp.2)) ry
      cases op <;> first | (simp [okC] at ho; done) | skip
      refine SeqAt.compareNe_reads r1 r2 p1 q1 (by have := Nat.min_le_left (py d).depth (py e).depth; omega) ⟨.bl _, H, I, rfl, ?_⟩
      rw [py_eqv d e 30 30 hp.1 hp.2]
      exact q
    · cases hr
  · cases dx; cases ey; cases hr
    cases op <;> first | (simp [okC] at ho; done) | exact op_lt pins s σ H _ _ v u Q I rx ry ⟨_, _, rfl, rfl, q⟩
  · cases dx; cases ey; cases hr
    cases op <;> first | (simp [okC] at ho; done) | exact op_le pins s σ H _ _ v u Q I rx ry ⟨_, _, rfl, rfl, q⟩
  · cases dx; cases ey; cases hr
    cases op <;> first | (simp [okC] at ho; done) | exact op_gt pins s σ H _ _ v u Q I rx ry ⟨_, _, rfl, rfl, q⟩
  · cases dx; cases ey; cases hr
    cases op <;> first | (simp [okC] at ho; done) | exact op_ge pins s σ H _ _ v u Q I rx ry ⟨_, _, rfl, rfl, q⟩
  · cases dx; cases ey; cases hr
    cases op <;> first | (simp [okC] at ho; done) | exact op_lt_str pins s σ H _ _ v u Q I rx ry ⟨_, _, rfl, rfl, q⟩
  · cases ey; cases hr
    cases op <;> first | (simp [okC] at ho; done) | exact op_isN pins s σ H _ _ v u Q I rx ry ⟨rfl, by rw [dx.isNon]; exact q⟩
  · cases ey; cases hr
    cases op <;> first | (simp [okC] at ho; done) | refine op_notN pins s σ H _ _ v u Q I rx ry ⟨rfl, ?_⟩
    rw [dx.isNon]; exact q
  · cases dx; cases ey; cases hr
    cases op <;> first | (simp [okC] at ho; done) | exact op_isBl pins s σ H _ _ v u Q I rx ry ⟨_, _, rfl, rfl, by rw [← Bool.beq_eq_decide_eq]; exact q⟩
  · cases dx; cases ey; cases hr
    cases op <;> first | (simp [okC] at ho; done) | exact op_notBl pins s σ H _ _ v u Q I rx ry ⟨_, _, rfl, rfl, by rw [← Bool.beq_eq_decide_eq]; exact q⟩
  · rename_i ds
    obtain ⟨hp, rfl⟩ := inn ds r hr
    obtain ⟨p1, p2⟩ := plain_lay 30 d hp.1
    obtain ⟨q1, q2⟩ := plains_lay 30 ds hp.2
    obtain ⟨as, r1⟩ := Dp.reads I (py d) x v (Dp.mono fz _ _ (dx.dp 30 d x hp.1)) rx
    obtain ⟨bs, r2⟩ := Dp.reads I (.tuple (pys ds)) y u (Dp.mono fz _ _ (Rep.dp (K := X.K) (mg := X.mg) 31 (.tup ds) y (by simpa [D.plain] using hp.2) ey)) ry
    cases op <;> first | (simp [okC] at ho; done) | skip
    refine SeqAt.in_tuple_reads r2 r1 q1 p1 (by have := Nat.min_le_right (PyData.depthAll (pys ds)) (py d).depth; omega) ⟨.bl _, H, I, rfl, ?_⟩
    rw [any_py ds d hp.2 hp.1]; exact q
  · rename_i ds
    obtain ⟨hp, rfl⟩ := inn ds r hr
    obtain ⟨p1, p2⟩ := plain_lay 30 d hp.1
    obtain ⟨q1, q2⟩ := plains_lay 30 ds hp.2
    obtain ⟨as, r1⟩ := Dp.reads I (py d) x v (Dp.mono fz _ _ (dx.dp 30 d x hp.1)) rx
    obtain ⟨bs, r2⟩ := Dp.reads I (.list (pys ds)) y u (Dp.mono fz _ _ (Rep.dp (K := X.K) (mg := X.mg) 31 (.lst ds) y (by simpa [D.plain] using hp.2) ey)) ry
    cases op <;> first | (simp [okC] at ho; done) | skip
    refine SeqAt.in_list_reads r2 r1 q1 p1 (by have := Nat.min_le_right (PyData.depthAll (pys ds)) (py d).depth; omega) ⟨.bl _, H, I, rfl, ?_⟩
    rw [any_py ds d hp.2 hp.1]; exact q
  · rename_i ds
    cases hi : inD d ds with
    | none => rw [hi] at hr; cases hr
    | some b =>
      rw [hi] at hr; cases hr
      obtain ⟨hp, rfl⟩ := inn ds b hi
      obtain ⟨p1, p2⟩ := plain_lay 30 d hp.1
      obtain ⟨q1, q2⟩ := plains_lay 30 ds hp.2
      obtain ⟨as, r1⟩ := Dp.reads I (py d) x v (Dp.mono fz _ _ (dx.dp 30 d x hp.1)) rx
      obtain ⟨bs, r2⟩ := Dp.reads I (.tuple (pys ds)) y u (Dp.mono fz _ _ (Rep.dp (K := X.K) (mg := X.mg) 31 (.tup ds) y (by simpa [D.plain] using hp.2) ey)) ry
      cases op <;> first | (simp [okC] at ho; done) | skip
      refine SeqAt.notIn_tuple_reads r2 r1 q1 p1 (by have := Nat.min_le_right (PyData.depthAll (pys ds)) (py d).depth; omega) ⟨.bl _, H, I, rfl, ?_⟩
      rw [any_py ds d hp.2 hp.1]; exact q
  · rename_i ds
    cases hi : inD d ds with
    | none => rw [hi] at hr; cases hr
    | some b =>
      rw [hi] at hr; cases hr
      obtain ⟨hp, rfl⟩ := inn ds b hi
      obtain ⟨p1, p2⟩ := plain_lay 30 d hp.1
      obtain ⟨q1, q2⟩ := plains_lay 30 ds hp.2
      obtain ⟨as, r1⟩ := Dp.reads I (py d) x v (Dp.mono fz _ _ (dx.dp 30 d x hp.1)) rx
      obtain ⟨bs, r2⟩ := Dp.reads I (.list (pys ds)) y u (Dp.mono fz _ _ (Rep.dp (K := X.K) (mg := X.mg) 31 (.lst ds) y (by simpa [D.plain] using hp.2) ey)) ry
      cases op <;> first | (simp [okC] at ho; done) | skip
      refine SeqAt.notIn_list_reads r2 r1 q1 p1 (by have := Nat.min_le_right (PyData.depthAll (pys ds)) (py d).depth; omega) ⟨.bl _, H, I, rfl, ?_⟩
      rw [any_py ds d hp.2 hp.1]; exact q
  · cases dx; cases ey
    split at hr
    · rename_i h1
      cases hr
      cases op <;> first | (simp [okC] at ho; done) | exact op_in_sign pins s σ H _ _ v u Q I rx ry ⟨_, _, congrArg V.str (str_one h1), rfl, q⟩
    · cases hr
  · cases dx; cases ey
    split at hr
    · rename_i h1
      cases hr
      cases op <;> first | (simp [okC] at ho; done) | exact op_notIn_sign pins s σ H _ _ v u Q I rx ry ⟨_, _, congrArg V.str (str_one h1), rfl, q⟩
    · cases hr
  · cases hr
end
end Z

set_option linter.all false
set_option autoImplicit false
set_option maxRecDepth 20000
/-! Subscripts, slices, built-in functions. -/
namespace Z
open PySem PySem.Spec PyProof.Rows L2
section
variable {K : PySem.W.Frag} {mg : Str → Option Value} {w : Wd} {H : Hp} {Q : VK}
theorem Reps.atI {ds : List D} {vs : List V} {i : Int} {d : D} (h : Reps K mg w ds vs) (e : L2.atI ds i = some d) : ∃ v, L2.atI vs i = some v ∧ Rep K mg w d v := by
  unfold L2.atI at e ⊢
  rw [h.length]
  cases q : ixN ds.length i with
  | none => rw [q] at e; cases e
  | some j => rw [q] at e; exact h.get e
theorem Reps.cut {ds : List D} {vs : List V} (h : Reps K mg w ds vs) (lo hi : Option Int) : Reps K mg w (cutD ds lo hi) (cutV vs lo hi) := by
  unfold cutD cutV
  rw [h.length]
  exact (h.drop _).take _
theorem cut_map {α β : Type} (f : α → β) (xs : List α) (lo hi : Option Int) : cutD (xs.map f) lo hi = (cutD xs lo hi).map f := by
  unfold cutD
  rw [List.length_map, List.map_take, List.map_drop]
theorem atI_map {α β : Type} (f : α → β) (xs : List α) (i : Int) : L2.atI (xs.map f) i = (L2.atI xs i).map f := by
  unfold L2.atI
  rw [List.length_map]
  cases ixN xs.length i with
  | none => rfl
  | some j => simp
theorem Reps.ofInts (is : List Int) : Reps K mg w (is.map .int) (is.map V.int) := by
  induction is with
  | nil => rfl
  | cons i is ih => exact ⟨_, _, rfl, rfl, ih⟩
theorem bools_eq : ∀ {ds : List D} {bs : List Bool}, boolsD ds = some bs → ds = bs.map .bl
  | [], bs, h => by cases h; rfl
  | .bl b :: ds, bs, h => by
    cases q : boolsD ds with
    | none => simp [boolsD, q] at h
    | some r =>
      simp only [boolsD, q, Option.map_some, Option.some.injEq] at h
      subst h
      rw [bools_eq q]; rfl
  | .non :: _, _, h => by cases h
  | .int _ :: _, _, h => by cases h
  | .str _ :: _, _, h => by cases h
  | .tup _ :: _, _, h => by cases h
  | .lst _ :: _, _, h => by cases h
  | .ref _ :: _, _, h => by cases h
  | .fn _ :: _, _, h => by cases h
  | .scr _ :: _, _, h => by cases h
theorem ints_eq : ∀ {ds : List D} {bs : List Int}, intsD ds = some bs → ds = bs.map .int
  | [], bs, h => by cases h; rfl
  | .int b :: ds, bs, h => by
    cases q : intsD ds with
    | none => simp [intsD, q] at h
    | some r =>
      simp only [intsD, q, Option.map_some, Option.some.injEq] at h
      subst h
      rw [ints_eq q]; rfl
  | .non :: _, _, h => by cases h
  | .bl _ :: _, _, h => by cases h
  | .str _ :: _, _, h => by cases h
  | .tup _ :: _, _, h => by cases h
  | .lst _ :: _, _, h => by cases h
  | .ref _ :: _, _, h => by cases h
  | .fn _ :: _, _, h => by cases h
  | .scr _ :: _, _, h => by cases h
theorem Reps.bls : ∀ {bs : List Bool} {vs : List V}, Reps K mg w (bs.map .bl) vs → vs = bs.map V.bl
  | [], _, h => h
  | b :: bs, _, h => by
    obtain ⟨v, r, rfl, h1, h2⟩ := h
    have h1 : v = .bl b := h1
    rw [h1, Reps.bls h2]; rfl
end
section
variable {K : PySem.W.Frag} {mg : Str → Option Value} {κ : Addr → Role} {w : Wd} {Fr : Hp} {σ : L2.St} {H : Hp} {s : S} {Q : VK} {x y : V} {d e r : D}
theorem idx_ok (hh : Here K mg κ w Fr σ H s) (dx : Rep K mg w d x) (ey : Rep K mg w e y) (hr : idxD s.sto d e = some r) (q : Res K mg w H Q r) : rIx K x y H Q := by
  unfold idxD at hr
  split at hr
  · obtain ⟨a, xs, rfl, h1, h2⟩ := dx
    cases ey
    obtain ⟨v, hv, rv⟩ := h2.atI hr
    exact .inr (.inl ⟨a, xs, _, v, rfl, rfl, SqT.mono hh.fz h1, hv, q.here v rv⟩)
  · obtain ⟨a, xs, rfl, h1, h2⟩ := dx
    cases ey
    obtain ⟨v, hv, rv⟩ := h2.atI hr
    exact .inl ⟨a, xs, _, v, rfl, rfl, .of (hh.fz _ _ h1), hv, q.here v rv⟩
  · obtain ⟨a, rfl, h1⟩ := dx
    cases ey
    rename_i is i
    cases q2 : L2.atI is i with
    | none => rw [q2] at hr; cases hr
    | some j =>
      rw [q2] at hr; cases hr
      exact .inl ⟨a, _, _, .int j, rfl, rfl, SqL.mono hh.fz h1, by rw [atI_map, q2]; rfl, q.here _ rfl⟩
  · cases dx; cases ey
    split at hr
    · rename_i z i hz
      cases q2 : L2.atI z.cps.toList i with
      | none => rw [q2] at hr; cases hr
      | some j =>
        rw [q2] at hr; cases hr
        exact .inr (.inr ⟨z, i, j, rfl, rfl, len_le hz, q2, q.here _ rfl⟩)
    · cases hr
  · obtain ⟨a, rfl, h1⟩ := dx
    cases ey
    rename_i n i
    obtain ⟨_, o, u, h2, h3, h4⟩ := hh.g.st n a h1
    rw [h2] at hr
    cases o with
    | lst ds =>
      obtain ⟨xs, rfl, h5⟩ := h4
      obtain ⟨v, hv, rv⟩ := h5.atI hr
      exact .inl ⟨a, xs, _, v, rfl, rfl, .of h3, hv, q.here v rv⟩
    | dT kvs => cases hr
  · cases hr
/-- slices of any kind -/
abbrev rSlD (K : PySem.W.Frag) : V → Option Int → Option Int → Hp → VK → Prop := fun x lo hi H Q => rSlA K x lo hi H Q ∨ (rSlL K x lo hi H Q ∨ rSlS x lo hi H Q)
theorem sl_ok {X : Cx} : SlR X (rSlD X.K) := sl_tupA.or (sl_list.or sl_str)
theorem cut_whole {α : Type} {xs : List α} {lo hi : Option Int} (h : HT.sIx xs.length 0 lo = 0 ∧ HT.sIx xs.length xs.length hi = xs.length) : cutD xs lo hi = xs := by
  unfold cutD
  rw [h.1, h.2]; simp
theorem slc_ok {lo hi : Option Int} (hh : Here K mg κ w Fr σ H s) (dx : Rep K mg w d x) (hr : slcD d lo hi = some r) (q : Res K mg w H Q r) : rSlD K x lo hi H Q := by
  unfold slcD at hr
  split at hr
  · obtain ⟨a, xs, rfl, h1, h2⟩ := dx
    cases hr
    refine .inl ⟨a, xs, rfl, SqT.mono hh.fz h1, fun hw => ?_, fun _ p n => q.seqT (h2.cut lo hi) p n (hh.g.noF n)⟩
    rw [h2.length] at hw
    rw [cut_whole hw] at q
    exact q.here _ ⟨a, xs, rfl, h1, h2⟩
  · obtain ⟨a, xs, rfl, h1, h2⟩ := dx
    cases hr
    exact .inr (.inl ⟨a, xs, rfl, .of (hh.fz _ _ h1), fun p n => q.seqL (h2.cut lo hi) p n (hh.g.noF n)⟩)
  · obtain ⟨a, rfl, h1⟩ := dx
    cases hr
    refine .inr (.inl ⟨a, _, rfl, SqL.mono hh.fz h1, fun p n => ?_⟩)
    rw [← cut_map] at q
    exact q.seqL ((Reps.ofInts _).cut lo hi) p n (hh.g.noF n)
  · cases dx
    split at hr
    · rename_i z hz
      cases hr
      exact .inr (.inr ⟨z, rfl, len_le hz, q.here _ rfl⟩)
    · cases hr
  · cases hr
end
/-! ### built-in functions -/
def bfVal : BF → Value
  | .len => .builtin "len" | .abs => .builtin "abs" | .all => .builtin "all" | .any => .builtin "any" | .tuple => .type "tuple" | .int => .type "int" | .isi _ => .builtin "isinstance"
  | .max => .builtin "max" | .min => .builtin "min" | .list => .type "list" | .gcd => .builtin "math.gcd"
theorem max_is {ns : List Int} {m k : Int} (h : ns.max? = some k) (hm : m ∈ ns) (hx : ∀ y, y ∈ ns → y ≤ m) : m = k := by
  obtain ⟨h1, h2⟩ := (List.max?_eq_some_iff (xs := ns) (a := k)).mp h
  have a1 := hx k h1
  have a2 := h2 m hm
  omega
theorem min_is {ns : List Int} {m k : Int} (h : ns.min? = some k) (hm : m ∈ ns) (hx : ∀ y, y ∈ ns → m ≤ y) : m = k := by
  obtain ⟨h1, h2⟩ := (List.min?_eq_some_iff (xs := ns) (a := k)).mp h
  have a1 := hx k h1
  have a2 := h2 m hm
  omega
section
variable {X : Cx}
abbrev rBlt (X : Cx) (f : BF) : List V → Hp → VK → Prop := fun vs H Q => ∃ w ds r, (∀ a o, w.F a = some o → H a = some o) ∧ Reps X.K X.mg w ds vs ∧ bltD f ds = some r ∧ Res X.K X.mg w H Q r
theorem reps1 {K : PySem.W.Frag} {mg : Str → Option Value} {w : Wd} {d : D} {vs : List V} (h : Reps K mg w [d] vs) : ∃ v, vs = [v] ∧ Rep K mg w d v := by
  obtain ⟨v, r, rfl, h1, h2⟩ := h
  cases h2
  exact ⟨v, rfl, h1⟩
theorem reps2 {K : PySem.W.Frag} {mg : Str → Option Value} {w : Wd} {d e : D} {vs : List V} (h : Reps K mg w [d, e] vs) : ∃ v u, vs = [v, u] ∧ Rep K mg w d v ∧ Rep K mg w e u := by
  obtain ⟨v, r, rfl, h1, h2⟩ := h
  obtain ⟨u, rfl, h3⟩ := reps1 h2
  exact ⟨v, u, rfl, h1, h3⟩
theorem blt_ok (hc : X.calm = true) : ∀ f : BF, (∀ t, f ≠ .isi t) → CallR X (bfVal f) (rBlt X f) := by
  intro f hf pins s σ H vs us Q I rv h
  obtain ⟨w, ds, r, fz, hd, hr, q⟩ := h
  unfold bltD at hr
  split at hr
  · obtain ⟨v, rfl, h1⟩ := reps1 hd
    obtain ⟨a, xs, rfl, h1, h2⟩ := h1
    cases hr
    exact call_len_seq pins s σ H _ us Q I rv ⟨a, xs, rfl, .inr (SqT.mono fz h1), q.here _ (by rw [h2.length]; rfl)⟩
  · obtain ⟨v, rfl, h1⟩ := reps1 hd
    obtain ⟨a, xs, rfl, h1, h2⟩ := h1
    cases hr
    exact call_len_seq pins s σ H _ us Q I rv ⟨a, xs, rfl, .inl (.of (fz _ _ h1)), q.here _ (by rw [h2.length]; rfl)⟩
  · obtain ⟨v, rfl, h1⟩ := reps1 hd
    obtain ⟨a, rfl, h1⟩ := h1
    cases hr
    exact call_len_seq pins s σ H _ us Q I rv ⟨a, _, rfl, .inl (SqL.mono fz h1), q.here _ (by rw [List.length_map]; rfl)⟩
  · obtain ⟨v, rfl, h1⟩ := reps1 hd
    cases h1
    split at hr
    · rename_i hz
      cases hr
      exact call_len_str pins s σ H _ us Q I rv ⟨_, rfl, len_le hz, q.here _ rfl⟩
    · cases hr
  · obtain ⟨v, rfl, h1⟩ := reps1 hd
    cases h1; cases hr
    exact call_abs pins s σ H _ us Q I rv ⟨_, rfl, q.here _ rfl⟩
  · obtain ⟨v, rfl, h1⟩ := reps1 hd
    obtain ⟨a, xs, rfl, h1, h2⟩ := h1
    rename_i ds
    cases qb : boolsD ds with
    | none => rw [qb] at hr; cases hr
    | some bs =>
      rw [qb] at hr; cases hr
      have e := bools_eq qb
      subst e
      rw [h2.bls] at h1
      exact cr_all hc pins s σ H _ us Q I rv ⟨a, bs, rfl, .of (fz _ _ h1), q.here _ rfl⟩
  · obtain ⟨v, rfl, h1⟩ := reps1 hd
    obtain ⟨a, xs, rfl, h1, h2⟩ := h1
    rename_i ds
    cases qb : boolsD ds with
    | none => rw [qb] at hr; cases hr
    | some bs =>
      rw [qb] at hr; cases hr
      have e := bools_eq qb
      subst e
      rw [h2.bls] at h1
      exact cr_any hc pins s σ H _ us Q I rv ⟨a, bs, rfl, .of (fz _ _ h1), q.here _ rfl⟩
  · obtain ⟨v, rfl, h1⟩ := reps1 hd
    obtain ⟨a, xs, rfl, h1, h2⟩ := h1
    cases hr
    exact call_tuple_of pins s σ H _ us Q I rv ⟨a, xs, rfl, .inl ⟨.of (fz _ _ h1), fun p n => q.seqT h2 p n (noF_of fz n)⟩⟩
  · obtain ⟨v, rfl, h1⟩ := reps1 hd
    obtain ⟨a, xs, rfl, h1, h2⟩ := h1
    cases hr
    exact call_tuple_of pins s σ H _ us Q I rv ⟨a, xs, rfl, .inr ⟨SqT.mono fz h1, q.here _ ⟨a, xs, rfl, h1, h2⟩⟩⟩
  · obtain ⟨v, rfl, h1⟩ := reps1 hd
    obtain ⟨a, xs, rfl, h1, h2⟩ := h1
    cases hr
    exact call_list_of pins s σ H _ us Q I rv ⟨a, xs, rfl, .inl (.of (fz _ _ h1)), fun p n => q.seqL h2 p n (noF_of fz n)⟩
  · obtain ⟨v, rfl, h1⟩ := reps1 hd
    obtain ⟨a, xs, rfl, h1, h2⟩ := h1
    cases hr
    exact call_list_of pins s σ H _ us Q I rv ⟨a, xs, rfl, .inr (SqT.mono fz h1), fun p n => q.seqL h2 p n (noF_of fz n)⟩
  · obtain ⟨v, rfl, h1⟩ := reps1 hd
    cases h1; cases hr
    exact call_int1 pins s σ H _ us Q I rv (.inl ⟨_, rfl, q.here _ rfl⟩)
  · obtain ⟨v, rfl, h1⟩ := reps1 hd
    cases h1; cases hr
    exact call_int1 pins s σ H _ us Q I rv (.inr ⟨_, rfl, q.here _ rfl⟩)
  · exact absurd rfl (hf _)
  · obtain ⟨v, u, rfl, h1, h2⟩ := reps2 hd
    cases h1; cases h2; cases hr
    exact call_max2 hc pins s σ H _ us Q I rv ⟨_, _, rfl, q.here _ rfl⟩
  · obtain ⟨v, u, rfl, h1, h2⟩ := reps2 hd
    cases h1; cases h2; cases hr
    exact call_min2 hc pins s σ H _ us Q I rv ⟨_, _, rfl, q.here _ rfl⟩
  · obtain ⟨v, rfl, h1⟩ := reps1 hd
    obtain ⟨a, xs, rfl, h1, h2⟩ := h1
    rename_i ds
    cases qb : intsD ds with
    | none => rw [qb] at hr; cases hr
    | some is =>
      rw [qb] at hr
      have e := ints_eq qb
      subst e
      rw [h2.ints] at h1
      cases qm : is.max? with
      | none => simp [qm] at hr
      | some k =>
        simp only [Option.bind_some, qm, Option.map_some, Option.some.injEq] at hr
        subst hr
        refine cr_max hc pins s σ H _ us Q I rv ⟨a, is, rfl, .of (fz _ _ h1), ?_, fun m hm hx => ?_⟩
        · cases is with
          | nil => simp at qm
          | cons _ _ => simp
        · rw [max_is qm hm hx]; exact q.here _ rfl
  · obtain ⟨v, rfl, h1⟩ := reps1 hd
    obtain ⟨a, xs, rfl, h1, h2⟩ := h1
    rename_i ds
    cases qb : intsD ds with
    | none => rw [qb] at hr; cases hr
    | some is =>
      rw [qb] at hr
      have e := ints_eq qb
      subst e
      rw [h2.ints] at h1
      cases qm : is.min? with
      | none => simp [qm] at hr
      | some k =>
        simp only [Option.bind_some, qm, Option.map_some, Option.some.injEq] at hr
        subst hr
        refine cr_min hc pins s σ H _ us Q I rv ⟨a, is, rfl, .of (fz _ _ h1), ?_, fun m hm hx => ?_⟩
        · cases is with
          | nil => simp at qm
          | cons _ _ => simp
        · rw [min_is qm hm hx]; exact q.here _ rfl
  · obtain ⟨v, u, rfl, h1, h2⟩ := reps2 hd
    cases h1; cases h2; cases hr
    exact cr_gcd pins s σ H _ us Q I rv ⟨_, _, rfl, q.here _ rfl⟩
  · cases hr
/-! ### isinstance -/
theorem kits (K : PySem.W.Frag) (t : Ty) (n : String) (h : n ∈ ["NoneType", "bool", "int", "str", "tuple", "list"]) : PySem.W.kitOne K (.type n) (.type (tyName t)) = some (decide (n = tyName t) || (decide (n = "bool") && decide (tyName t = "int"))) := by
  simp only [List.mem_cons, List.not_mem_nil, or_false] at h
  rcases h with rfl | rfl | rfl | rfl | rfl | rfl <;> cases t <;> first | rfl | kernel_rfl
end
end Z

set_option linter.all false
set_option autoImplicit false
set_option maxRecDepth 20000
/-! The code of an expression does what the small language says. -/
namespace Z
open PySem PySem.Spec PyProof.Rows L2
section
variable {K : PySem.W.Frag} {mg : Str → Option Value} {w : Wd} {H : Hp} {Q : VK} {x y : V} {d e r : D}
theorem seqT_ty {a : Addr} {xs : List V} (h : SqT K H a xs) : TyX K H (.ref a) (.type "tuple") := by
  rcases h with (h | ⟨o, h⟩) | ⟨o, its, n, h1, h2, _⟩
  · exact .base (.tup h)
  · exact .fTuple h
  · exact .kTuple h1 h2
theorem isi_ok {t : Ty} {b : Bool} (fz : ∀ a o, w.F a = some o → H a = some o) (dx : Rep K mg w d x) (hr : isiD t d = some b) : ∃ n, TyX K H x (.type n) ∧ PySem.W.kitOne K (.type n) (.type (tyName t)) = some b := by
  cases d with
  | non => cases dx; exact ⟨"NoneType", .base .non, by rw [kits K t _ (by simp)]; cases t <;> cases hr <;> rfl⟩
  | bl v => cases dx; exact ⟨"bool", .base (.bl v), by rw [kits K t _ (by simp)]; cases t <;> cases hr <;> rfl⟩
  | int v => cases dx; exact ⟨"int", .base (.int v), by rw [kits K t _ (by simp)]; cases t <;> cases hr <;> rfl⟩
  | str v => cases dx; exact ⟨"str", .base (.str v), by rw [kits K t _ (by simp)]; cases t <;> cases hr <;> rfl⟩
  | tup ds => obtain ⟨a, xs, rfl, h1, _⟩ := dx; exact ⟨"tuple", seqT_ty (SqT.mono fz h1), by rw [kits K t _ (by simp)]; cases t <;> cases hr <;> rfl⟩
  | lst ds => obtain ⟨a, xs, rfl, h1, _⟩ := dx; exact ⟨"list", .base (.lst (fz _ _ h1)), by rw [kits K t _ (by simp)]; cases t <;> cases hr <;> rfl⟩
  | ref n => cases t <;> cases hr
  | fn n => cases t <;> cases hr
  | scr n => cases t <;> cases hr
end
/-! ### the context -/
/-- what a def promises: the small language's word -/
def spOf (K : PySem.W.Frag) (mg : Str → Option Value) (o : List D → List Ob → OutC) : Sp := fun vs H Q E => ∃ κ w Fr t ds, Gl_ K mg κ w Fr H t ∧ Reps K mg w ds vs ∧ match o ds t with
  | .ok d t' => ∀ v κ' w' H', w.le w' → Gl_ K mg κ' w' Fr H' t' → Rep K mg w' d v → Q v H'
  | .ex x t' => ∀ κ' w' H' C dx, w.le w' → Gl_ K mg κ' w' Fr H' t' → ExOk K mg w' x C dx → E C dx H'
  | .no => False
/-- how the def binds, the ways of the table -/
def KwOk (K : PySem.W.Frag) (fd : FuncData) (ps : List Str) (l : List (Nat × List String × List Nat)) : Prop := ∀ n nks perm, (n, nks, perm) ∈ l → ∀ (s : Shared) (us ws : List Value), K.In s.heap → us.length = n → ws.length = nks.length →
  BindsTo s fd ⟨us, (nks.map Str.ofString).zip ws⟩ (ps.zip (perm.map fun i => (us ++ ws).getD i .none))
structure TabF (T : Txt) (k : Nat) (P : Program) (w : World) (K : PySem.W.Frag) (mg : Str → Option Value) (base : Heap) (f : String) (fn : Fn) : Prop where
  ex : ∃ a fd ps, mg (Str.ofString f) = some (.ref a) ∧ PySem.W.keepIn K (.ref a) = true ∧ FnOk P w K mg base (L2.CX P w) k a fd ps (spOf K mg (call T k f)) ∧ Binds K fd ps [] ∧ KwOk K fd ps fn.kws
def bNames : List String := ["len", "abs", "all", "any", "tuple", "int", "isinstance", "max", "min", "list", "bool", "str", "dict", "range", "enumerate", "zip"]
/-- a class of the text below ValueError, without its own __init__, made and raised -/
def RaiOk (K : PySem.W.Frag) (mg : Str → Option Value) (c : String) : Prop := ∃ C bmB newId initId, ExcBaseFacts "ValueError" newId initId bmB ∧ mg (Str.ofString c) = some (.ref C) ∧ PySem.W.excIn K C bmB newId = true ∧ PySem.W.keepIn K (.ref C) = true ∧
  PySem.W.subIn K (.ref C) (.type "BaseException") = some true ∧ PySem.W.typeIn K (.ref C) = some (.type "type")
structure Ctx (T : Txt) (k : Nat) (X : Cx) (W : WX) : Prop where
  calm : X.calm = true
  kind : X.env.scope.kind = .function
  nd : X.N.Nodup
  tk : Takes X W
  room : Room k X.A
  tab : ∀ f fn, T.fn f = some fn → TabF T k X.prog X.w X.K X.mg X.base f fn
  bt : ∀ n ∈ bNames, X.mg (Str.ofString n) = none
  gl : ∀ x d, T.gl x = some d → ∃ u v, X.mg (Str.ofString x) = some u ∧ RelV v u ∧ Rep X.K X.mg ⟨[], fun _ => none⟩ d v
  gcd : X.mg (Str.ofString "gcd") = some (.builtin "math.gcd")
  exn : ∀ d, T.exc d = true → ∃ D, X.mg (Str.ofString d) = some (.ref D)
  rai : ∀ c, T.rai c = true → RaiOk X.K X.mg c
  exm : ∀ c d, T.rai c = true → T.exc d = true → ∃ C D, X.mg (Str.ofString c) = some (.ref C) ∧ X.mg (Str.ofString d) = some (.ref D) ∧ PySem.W.exmOne X.K (.ref C) (.ref D) = some (T.sub c d)
/-! ### readings -/
theorem PE.weak {X : Cx} {e : Expr} {t t' : TE} (h : PE X e t) (k : ∀ σ H Q, t' σ H Q → t σ H Q) : PE X e t' := ⟨fun pins s σ H Q I q => h.run pins s σ H Q I (k σ H Q q)⟩
theorem PT.weak {X : Cx} {e : Expr} {t t' : TT} (h : PT X e t) (k : ∀ σ H Q, t' σ H Q → t σ H Q) : PT X e t' := ⟨fun pins s σ H Q I q => h.run pins s σ H Q I (k σ H Q q)⟩
theorem PA.weak {X : Cx} {e : List Expr} {t t' : TA} (h : PA X e t) (k : ∀ σ H Q, t' σ H Q → t σ H Q) : PA X e t' := ⟨fun pos pins s σ H Q I q => h.run pos pins s σ H Q I (k σ H Q q)⟩
section
variable {X : Cx} {W : WX} {f g : S → Out D} {fl gl : S → Out (List D)}
/-- one reading, then more -/
theorem rdE.then {h : D → S → Out D} {σ : L2.St} {H : Hp} {Q : VK} (r : rdE X.K X.mg W (fun s => (f s).bind h) σ H Q) :
    rdE X.K X.mg W f σ H fun v H1 => ∃ κ w Fr s d, Here X.K X.mg κ w Fr σ H1 s ∧ Rep X.K X.mg w d v ∧ Post X.K X.mg W w Fr σ Q (h d s) := by
  obtain ⟨κ, w, Fr, s, hh, p⟩ := r
  exact ⟨κ, w, Fr, s, hh, (Post.bind p).imp fun v H ⟨κ1, w1, d, s1, l, h1, h2, h3⟩ => ⟨κ1, w1, Fr, s1, d, h1, h2, h3⟩⟩
/-- from a state that is here -/
theorem Post.go {h : D → S → Out D} {κ : Addr → Role} {w : Wd} {Fr : Hp} {σ : L2.St} {H : Hp} {s : S} {Q : VK} (hh : Here X.K X.mg κ w Fr σ H s) (p : Post X.K X.mg W w Fr σ Q ((f s).bind h)) :
    rdE X.K X.mg W f σ H fun v H1 => ∃ κ1 w1 d s1, w.le w1 ∧ Here X.K X.mg κ1 w1 Fr σ H1 s1 ∧ Rep X.K X.mg w1 d v ∧ Post X.K X.mg W w1 Fr σ Q (h d s1) := ⟨κ, w, Fr, s, hh, Post.bind p⟩
theorem Post.goL {h : List D → S → Out D} {κ : Addr → Role} {w : Wd} {Fr : Hp} {σ : L2.St} {H : Hp} {s : S} {Q : VK} (hh : Here X.K X.mg κ w Fr σ H s) (p : Post X.K X.mg W w Fr σ Q ((fl s).bind h)) :
    rdL X.K X.mg W fl σ H fun v H1 => ∃ κ1 w1 d s1, w.le w1 ∧ Here X.K X.mg κ1 w1 Fr σ H1 s1 ∧ Reps X.K X.mg w1 d v ∧ Post X.K X.mg W w1 Fr σ Q (h d s1) := ⟨κ, w, Fr, s, hh, PostL.bind p⟩
end
/-! ### looks at the syntax -/
section
variable {N : List Str} {sc : Scope} {env : Env}
theorem star_ne {x : Expr} {xs : List Expr} (h : shp x = true) : starEach (x :: xs) env = (false, eval x env) :: starEach xs env := by
  cases x <;> first | rfl | (simp [shp] at h)
theorem okEs_star {es : Es} : ∀ {xs : List Expr} {es : Es}, okEs N sc es xs = true → ∀ y ∈ xs, shp y = true
  | [], _, _, y, hy => by simp at hy
  | x :: xs, .nil, h, y, hy => by simp [okEs] at h
  | x :: xs, .cons e r, h, y, hy => by
    simp only [okEs, Bool.and_eq_true] at h
    rcases List.mem_cons.mp hy with rfl | hy
    · exact h.2.1
    · exact okEs_star (es := r) h.2.2 y hy
theorem star_all {pos : Pos} : ∀ {xs : List Expr}, (∀ y ∈ xs, shp y = true) → (backTo pos (starEach xs env)).any (·.1) = false
  | [], _ => rfl
  | x :: xs, h => by
    rw [star_ne (h x List.mem_cons_self)]
    show (false || (backTo pos (starEach xs env)).any (·.1)) = false
    rw [star_all fun y hy => h y (List.mem_cons_of_mem _ hy)]; rfl
theorem vis_of {x : Str} (h : visB sc x = true) : Vis sc x := by
  unfold visB at h
  split at h <;> first | exact .inl (by assumption) | exact .inr (.inl (by assumption)) | exact .inr (.inr (by assumption)) | cases h
theorem gd_of {x : Str} (h : gd x = true) : (x == ("__debug__" : Str)) = false ∧ (x == ("__classdict__" : Str)) = false := by
  unfold gd at h
  simpa using h
theorem gl_of {X : Cx} {x : Str} (h : glB X.env.scope x = true) : L2.Gl X x := by
  unfold glB at h
  split at h
  · assumption
  · cases h
theorem pix_of {b : Expr} (h : shp b = true) : L2.PlainIx b := by
  intro o i
  cases b <;> first | rfl | (simp [shp] at h)
theorem behind_of {b : Expr} {op : CmpOp} (h : shp b = true) : behindInMarks op b = false := by
  cases b <;> first | rfl | (simp [shp] at h)
theorem fold_of {b : Expr} (h : shp b = true) : ∀ x, foldedSetIterable b env x = pure x := by
  intro x
  cases b <;> first | rfl | (simp [shp] at h)
/-- a name in its slot, by value -/
theorem nm_of {i : Nat} {x : Str} (h : nm N sc i x = true) : N[i]? = some x ∧ Vis sc x ∧ (x == ("__debug__" : Str)) = false ∧ (x == ("__classdict__" : Str)) = false := by
  unfold nm at h
  simp only [Bool.and_eq_true, decide_eq_true_eq] at h
  obtain ⟨h1, h2, h3⟩ := h
  exact ⟨h1, vis_of h2, gd_of h3⟩
theorem nameIs_of {f : String} {x : Str} (h : nameIs sc f x = true) : x = Str.ofString f ∧ glB sc x = true ∧ (x == ("__debug__" : Str)) = false := by
  unfold nameIs at h
  simp only [Bool.and_eq_true, decide_eq_true_eq] at h
  exact ⟨h.1, h.2.1, (gd_of h.2.2).1⟩
end
section
variable {X : Cx} {W : WX}
theorem slot_val {κ : Addr → Role} {w : Wd} {Fr : Hp} {σ : L2.St} {H : Hp} {s : S} {i : Nat} {d : D} (hh : Here X.K X.mg κ w Fr σ H s) (e : s.env[i]? = some (.val d)) : ∃ v, σ[i]? = some (some v) ∧ Rep X.K X.mg w d v := hh.sl i _ e
theorem Wd.zero_le (w : Wd) : Wd.le ⟨[], fun _ => none⟩ w := ⟨⟨w.ρ, rfl⟩, fun _ _ h => nomatch h⟩
theorem str_ne_name : ∀ n ∈ bNames, Str.ofString n ≠ ("__name__" : Str) := by decide +kernel
end
end Z

set_option linter.all false
set_option autoImplicit false
set_option maxRecDepth 20000
/-! One construct after another. -/
namespace Z
open PySem PySem.Spec PyProof.Rows L2
theorem PE.never {X : Cx} {e : Expr} {t : TE} (h : ∀ σ H Q, ¬ t σ H Q) : PE X e t := ⟨fun pins s σ H Q I q => (h σ H Q q).elim⟩
section
variable {T : Txt} {k : Nat} {X : Cx} {W : WX} {pos : Pos}
abbrev rd (X : Cx) (W : WX) (f : S → Out D) : TE := rdE X.K X.mg W f
abbrev rdl (X : Cx) (W : WX) (f : S → Out (List D)) : TA := rdL X.K X.mg W f
abbrev pr (T : Txt) (k : Nat) : Prm := prm T (call T k)

theorem rd.lit {d : D} {v : V} (h : ∀ w, Rep X.K X.mg w d v) {σ : L2.St} {H : Hp} {Q : VK} (r : rd X W (fun s => .ok d s) σ H Q) : Q v H := by
  obtain ⟨κ, w, Fr, s, hh, p⟩ := r
  exact p v κ w H .rfl hh (h w)
theorem s_var {i : Nat} {x : Str} (h : nm X.N X.env.scope i x = true) : PE X (.Name x pos) (rd X W (ev (pr T k) (.var i))) := by
  obtain ⟨h1, h2, h3, h4⟩ := nm_of h
  refine PE.weak (pe_var (i := i) h1 h2 h3 h4) fun σ H Q ⟨κ, w, Fr, s, hh, p⟩ => ?_
  unfold ev at p
  split at p
  · rename_i d e
    obtain ⟨v, e2, r⟩ := slot_val hh e
    exact ⟨v, e2, p.done hh r⟩
  · exact p.elim
theorem s_con {c : String} {x : Str} (C : Ctx T k X W) (h : nameIs X.env.scope c x = true) : PE X (.Name x pos) (rd X W (ev (pr T k) (.con c))) := by
  obtain ⟨rfl, h2, h3⟩ := nameIs_of h
  cases e : T.gl c with
  | none =>
    refine PE.never fun σ H Q ⟨κ, w, Fr, s, hh, p⟩ => ?_
    unfold ev at p
    rw [show (pr T k).gl c = none from e] at p
    exact p
  | some d =>
    obtain ⟨u, v, e1, e2, e3⟩ := C.gl c d e
    refine PE.weak (pe_glob (gl_of h2) e1 e2 h3) fun σ H Q ⟨κ, w, Fr, s, hh, p⟩ => ?_
    unfold ev at p
    rw [show (pr T k).gl c = some d from e] at p
    exact Post.done hh (Rep.mono w.zero_le d v e3) p
theorem Post.ex_imp {Q R : VK} {w : Wd} {Fr : Hp} {σ : L2.St} {x : Exn} {s : S} (p : Post X.K X.mg W w Fr σ Q (.ex x s)) : Post X.K X.mg W w Fr σ R (.ex x s) := p
/-- f, then h: what is to be shown behind f -/
theorem fromP {f : S → Out D} {h : D → S → Out D} {κ : Addr → Role} {w : Wd} {Fr : Hp} {σ : L2.St} {H : Hp} {s : S} {Q R : VK} (hh : Here X.K X.mg κ w Fr σ H s) (p : Post X.K X.mg W w Fr σ Q ((f s).bind h))
    (kk : ∀ v κ1 w1 H1 s1 d, w.le w1 → Here X.K X.mg κ1 w1 Fr σ H1 s1 → Rep X.K X.mg w1 d v → Post X.K X.mg W w1 Fr σ Q (h d s1) → R v H1) : rd X W f σ H R :=
  ⟨κ, w, Fr, s, hh, (Post.bind p).imp fun v H ⟨κ1, w1, d, s1, l, h1, h2, h3⟩ => kk v κ1 w1 H s1 d l h1 h2 h3⟩
theorem PostL.imp {w : Wd} {Fr : Hp} {σ : L2.St} {Q Q' : List V → Hp → Prop} (q : ∀ v H, Q v H → Q' v H) : ∀ {o : Out (List D)}, PostL X.K X.mg W w Fr σ Q o → PostL X.K X.mg W w Fr σ Q' o
  | .ok d s, h => fun v κ' w2 H' l2 hh r => q _ _ (h v κ' w2 H' l2 hh r)
  | .ex x s, h => h
  | .no, h => h
theorem fromL {f : S → Out (List D)} {h : List D → S → Out D} {κ : Addr → Role} {w : Wd} {Fr : Hp} {σ : L2.St} {H : Hp} {s : S} {Q : VK} {R : List V → Hp → Prop} (hh : Here X.K X.mg κ w Fr σ H s) (p : Post X.K X.mg W w Fr σ Q ((f s).bind h))
    (kk : ∀ v κ1 w1 H1 s1 d, w.le w1 → Here X.K X.mg κ1 w1 Fr σ H1 s1 → Reps X.K X.mg w1 d v → Post X.K X.mg W w1 Fr σ Q (h d s1) → R v H1) : rdl X W f σ H R :=
  ⟨κ, w, Fr, s, hh, PostL.imp (fun v H ⟨κ1, w1, d, s1, l, h1, h2, h3⟩ => kk v κ1 w1 H s1 d l h1 h2 h3) (PostL.bind p)⟩
theorem s_tup {es : Es} {xs : List Expr} {n : Nat} (ha : PA X xs (rdl X W (evs (pr T k) es))) : PE X (.Tuple xs n pos) (rd X W (ev (pr T k) (.tup es))) := by
  refine PE.weak (pe_tup ha) fun σ H Q ⟨κ, w, Fr, s, hh, p⟩ => ?_
  unfold ev at p
  refine fromL hh p fun vs κ2 w2 H2 s2 d2 l h2 r2 p2 => ?_
  split at p2
  · rename_i hl
    exact ⟨by rw [r2.length]; exact len_le hl, fun q n => (p2.res h2).seqT r2 q n (h2.g.noF n)⟩
  · exact p2.elim
theorem s_lst {es : Es} {xs : List Expr} (ha : PA X xs (rdl X W (evs (pr T k) es))) : PE X (.List xs pos) (rd X W (ev (pr T k) (.lst es))) := by
  refine PE.weak (pe_lst ha) fun σ H Q ⟨κ, w, Fr, s, hh, p⟩ => ?_
  unfold ev at p
  refine fromL hh p fun vs κ2 w2 H2 s2 d2 l h2 r2 p2 => ?_
  split at p2
  · rename_i hl
    exact ⟨by rw [r2.length]; exact len_le hl, fun q n => (p2.res h2).seqL r2 q n (h2.g.noF n)⟩
  · exact p2.elim
theorem s_bin {o : BOp} {op : Operator} {a b : E} {x y : Expr} (ho : okB o op = true) (ha : PE X x (rd X W (ev (pr T k) a))) (hb : PE X y (rd X W (ev (pr T k) b))) : PE X (.BinOp x op y pos) (rd X W (ev (pr T k) (.bin o a b))) := by
  refine PE.weak (pe_op (binD_ok ho) ha hb) fun σ H Q ⟨κ, w, Fr, s, hh, p⟩ => ?_
  unfold ev at p
  refine fromP hh p fun v κ1 w1 H1 s1 d l1 h1 r1 p1 => fromP h1 p1 fun u κ2 w2 H2 s2 e l2 h2 r2 p2 => ?_
  obtain ⟨r, hr, q⟩ := Post.of h2 p2
  exact ⟨w2, d, e, r, ⟨h2.fz, Rep.mono l2 _ _ r1, r2⟩, hr, q⟩
theorem s_neg {a : E} {x : Expr} (ha : PE X x (rd X W (ev (pr T k) a))) : PE X (.UnaryOp .USub x pos) (rd X W (ev (pr T k) (.neg a))) := by
  refine PE.weak (pe_un un_neg ha) fun σ H Q ⟨κ, w, Fr, s, hh, p⟩ => ?_
  unfold ev at p
  refine fromP hh p fun v κ1 w1 H1 s1 d l1 h1 r1 p1 => ?_
  split at p1
  · cases r1; exact ⟨_, rfl, p1 _ _ _ _ .rfl h1 rfl⟩
  · exact p1.elim
theorem s_not {a : E} {x : Expr} (ha : PE X x (rd X W (ev (pr T k) a))) : PE X (.UnaryOp .Not x pos) (rd X W (ev (pr T k) (.not a))) := by
  refine PE.weak (pe_not ha) fun σ H Q ⟨κ, w, Fr, s, hh, p⟩ => ?_
  unfold ev at p
  refine fromP hh p fun v κ1 w1 H1 s1 d l1 h1 r1 p1 => ?_
  split at p1
  · cases r1; exact ⟨_, rfl, p1 _ _ _ _ .rfl h1 rfl⟩
  · exact p1.elim
theorem of_map {α β : Type} {o : Option α} {f : α → β} {r : β} (h : o.map f = some r) : ∃ a, o = some a ∧ f a = r := by
  cases o with
  | none => cases h
  | some a => exact ⟨a, rfl, Option.some.inj h⟩
theorem s_cmp {o : COp} {op : CmpOp} {a b : E} {x y : Expr} (C : Ctx T k X W) (ho : okC o op = true) (hy : shp y = true) (ha : PE X x (rd X W (ev (pr T k) a))) (hb : PE X y (rd X W (ev (pr T k) b))) : PE X (.Compare x [op] [y] pos) (rd X W (ev (pr T k) (.cmp o a b))) := by
  refine PE.weak (pe_cmpR (cmpD_ok (by have := C.room.un; omega) ho) ha hb (behind_of hy)) fun σ H Q ⟨κ, w, Fr, s, hh, p⟩ => ?_
  unfold ev at p
  refine fromP hh p fun v κ1 w1 H1 s1 d l1 h1 r1 p1 => fromP h1 p1 fun u κ2 w2 H2 s2 e l2 h2 r2 p2 => ?_
  obtain ⟨r, hr, q⟩ := Post.of h2 p2
  obtain ⟨c, hc, rfl⟩ := of_map hr
  exact ⟨w2, d, e, c, ⟨h2.fz, Rep.mono l2 _ _ r1, r2⟩, hc, q.here _ rfl⟩
theorem t_cmp {o : COp} {op : CmpOp} {a b : E} {x y : Expr} (C : Ctx T k X W) (ho : okC o op = true) (hy : shp y = true) (ha : PE X x (rd X W (ev (pr T k) a))) (hb : PE X y (rd X W (ev (pr T k) b))) : PT X (.Compare x [op] [y] pos) (tB (rd X W (ev (pr T k) (.cmp o a b)))) := by
  refine PT.weak (pt_cmpR (cmpD_ok (by have := C.room.un; omega) ho) ha hb (behind_of hy)) fun σ H Q ⟨κ, w, Fr, s, hh, p⟩ => ?_
  unfold ev at p
  refine fromP hh p fun v κ1 w1 H1 s1 d l1 h1 r1 p1 => fromP h1 p1 fun u κ2 w2 H2 s2 e l2 h2 r2 p2 => ?_
  obtain ⟨r, hr, q⟩ := Post.of h2 p2
  obtain ⟨c, hc, rfl⟩ := of_map hr
  exact ⟨w2, d, e, c, ⟨h2.fz, Rep.mono l2 _ _ r1, r2⟩, hc, q.here _ rfl⟩
theorem chain_imp {o p : COp} {a b c : E} {σ : L2.St} {H : Hp} {Q : VK} (r : rd X W (ev (pr T k) (.cmp2 o p a b c)) σ H Q) :
    tChain (fun x y H Q => ∃ w d e b, Is2 X.K X.mg w H d e x y ∧ cmpD o d e = some b ∧ Q (.bl b) H) (fun x y H Q => ∃ w d e b, Is2 X.K X.mg w H d e x y ∧ cmpD p d e = some b ∧ Q (.bl b) H) (rd X W (ev (pr T k) a)) (rd X W (ev (pr T k) b)) (rd X W (ev (pr T k) c)) σ H Q := by
  obtain ⟨κ, w, Fr, s, hh, p⟩ := r
  unfold ev at p
  refine fromP hh p fun v κ1 w1 H1 s1 d l1 h1 r1 p1 => fromP h1 p1 fun u κ2 w2 H2 s2 e l2 h2 r2 p2 => ?_
  split at p2
  · rename_i hc
    refine ⟨w2, d, e, true, ⟨h2.fz, Rep.mono l2 _ _ r1, r2⟩, hc, true, rfl, ?_⟩
    rw [if_pos rfl]
    refine fromP h2 p2 fun z κ3 w3 H3 s3 f l3 h3 r3 p3 => ?_
    obtain ⟨r, hr, q⟩ := Post.of h3 p3
    obtain ⟨c, hc, rfl⟩ := of_map hr
    exact ⟨w3, e, f, c, ⟨h3.fz, Rep.mono l3 _ _ r2, r3⟩, hc, q.here _ rfl⟩
  · rename_i hc
    refine ⟨w2, d, e, false, ⟨h2.fz, Rep.mono l2 _ _ r1, r2⟩, hc, false, rfl, ?_⟩
    rw [if_neg Bool.false_ne_true]
    exact p2 _ _ _ _ .rfl h2 rfl
  · exact p2.elim
theorem marks_of {op op' : CmpOp} {y z : Expr} (hz : shp z = true) : lastMarks [op, op'] [y, z] = false := behind_of hz
theorem s_cmp2 {o p : COp} {op op' : CmpOp} {a b c : E} {x y z : Expr} (C : Ctx T k X W) (ho : okC o op = true) (hp : okC p op' = true) (hz : shp z = true) (ha : PE X x (rd X W (ev (pr T k) a))) (hb : PE X y (rd X W (ev (pr T k) b)))
    (hc : PE X z (rd X W (ev (pr T k) c))) : PE X (.Compare x [op, op'] [y, z] pos) (rd X W (ev (pr T k) (.cmp2 o p a b c))) :=
  PE.weak (pe_chain (cmpD_ok (by have := C.room.un; omega) ho) (cmpD_ok (by have := C.room.un; omega) hp) ha hb hc (marks_of hz)) fun σ H Q r => chain_imp r
theorem t_cmp2 {o p : COp} {op op' : CmpOp} {a b c : E} {x y z : Expr} (C : Ctx T k X W) (ho : okC o op = true) (hp : okC p op' = true) (hz : shp z = true) (ha : PE X x (rd X W (ev (pr T k) a))) (hb : PE X y (rd X W (ev (pr T k) b)))
    (hc : PE X z (rd X W (ev (pr T k) c))) : PT X (.Compare x [op, op'] [y, z] pos) (tB (rd X W (ev (pr T k) (.cmp2 o p a b c)))) :=
  PT.weak (pt_chain (cmpD_ok (by have := C.room.un; omega) ho) (cmpD_ok (by have := C.room.un; omega) hp) ha hb hc (marks_of hz)) fun σ H Q r => chain_imp r
theorem and_imp {a b : E} {σ : L2.St} {H : Hp} {Q : VK} (r : rd X W (ev (pr T k) (.and a b)) σ H Q) : tAndV (rd X W (ev (pr T k) a)) (rd X W (ev (pr T k) b)) σ H Q := by
  obtain ⟨κ, w, Fr, s, hh, p⟩ := r
  unfold ev at p
  refine fromP hh p fun v κ1 w1 H1 s1 d l1 h1 r1 p1 => ?_
  split at p1
  · cases r1
    refine ⟨true, rfl, ?_⟩
    rw [if_pos rfl]
    exact ⟨κ1, w1, Fr, s1, h1, p1⟩
  · cases r1
    refine ⟨false, rfl, ?_⟩
    rw [if_neg Bool.false_ne_true]
    exact p1 _ _ _ _ .rfl h1 rfl
  · exact p1.elim
theorem or_imp {a b : E} {σ : L2.St} {H : Hp} {Q : VK} (r : rd X W (ev (pr T k) (.or a b)) σ H Q) : tOrV (rd X W (ev (pr T k) a)) (rd X W (ev (pr T k) b)) σ H Q := by
  obtain ⟨κ, w, Fr, s, hh, p⟩ := r
  unfold ev at p
  refine fromP hh p fun v κ1 w1 H1 s1 d l1 h1 r1 p1 => ?_
  split at p1
  · cases r1
    refine ⟨false, rfl, ?_⟩
    rw [if_neg Bool.false_ne_true]
    exact ⟨κ1, w1, Fr, s1, h1, p1⟩
  · cases r1
    refine ⟨true, rfl, ?_⟩
    rw [if_pos rfl]
    exact p1 _ _ _ _ .rfl h1 rfl
  · exact p1.elim
theorem tand_imp {a b : E} {σ : L2.St} {H : Hp} {Q : Bool → Hp → Prop} (r : tB (rd X W (ev (pr T k) (.and a b))) σ H Q) : tAnd (tB (rd X W (ev (pr T k) a))) (tB (rd X W (ev (pr T k) b))) σ H Q := by
  obtain ⟨κ, w, Fr, s, hh, p⟩ := and_imp r
  refine ⟨κ, w, Fr, s, hh, p.imp fun v H ⟨c, e, q⟩ => ⟨c, e, ?_⟩⟩
  cases c with
  | true => exact q
  | false => obtain ⟨c', e', q'⟩ := q; cases e'; exact q'
theorem tor_imp {a b : E} {σ : L2.St} {H : Hp} {Q : Bool → Hp → Prop} (r : tB (rd X W (ev (pr T k) (.or a b))) σ H Q) : tOr (tB (rd X W (ev (pr T k) a))) (tB (rd X W (ev (pr T k) b))) σ H Q := by
  obtain ⟨κ, w, Fr, s, hh, p⟩ := or_imp r
  refine ⟨κ, w, Fr, s, hh, p.imp fun v H ⟨c, e, q⟩ => ⟨c, e, ?_⟩⟩
  cases c with
  | true => obtain ⟨c', e', q'⟩ := q; cases e'; exact q'
  | false => exact q
theorem ite_imp {c a b : E} {σ : L2.St} {H : Hp} {Q : VK} (r : rd X W (ev (pr T k) (.ite c a b)) σ H Q) : tIf (tB (rd X W (ev (pr T k) c))) (rd X W (ev (pr T k) a)) (rd X W (ev (pr T k) b)) σ H Q := by
  obtain ⟨κ, w, Fr, s, hh, p⟩ := r
  unfold ev at p
  refine fromP hh p fun v κ1 w1 H1 s1 d l1 h1 r1 p1 => ?_
  split at p1
  · cases r1
    refine ⟨true, rfl, ?_⟩
    exact iteT ⟨κ1, w1, Fr, s1, h1, p1⟩
  · cases r1
    refine ⟨false, rfl, ?_⟩
    exact iteF ⟨κ1, w1, Fr, s1, h1, p1⟩
  · exact p1.elim
theorem s_call {f : String} {es : Es} {x : Str} {p : Pos} {y : Expr} {ys : List Expr} (C : Ctx T k X W) (hf : nameIs X.env.scope f x = true) (hs : ∀ z ∈ y :: ys, shp z = true) (ha : PA X (y :: ys) (rdl X W (evs (pr T k) es))) :
    PE X (.Call (.Name x p) (y :: ys) [] pos) (rd X W (ev (pr T k) (.call f es))) := by
  obtain ⟨rfl, h2, h3⟩ := nameIs_of hf
  cases e : T.fn f with
  | none =>
    refine PE.never fun σ H Q ⟨κ, w, Fr, s, hh, p⟩ => ?_
    unfold ev at p
    rw [show (pr T k).has f = false by show (T.fn f).isSome = false; rw [e]; rfl] at p
    exact p
  | some fn =>
    obtain ⟨a, fd, ps, e1, e2, e3, e4, _⟩ := (C.tab f fn e).ex
    refine PE.weak (pe_callSD (E := fun σ C d H => W C d σ H) e3 C.room (gl_of h2) e1 e2 e4 .nil (fun σ => passAt C.tk σ) ha h3 (star_ne (hs y List.mem_cons_self)) (star_all fun z hz => hs z (List.mem_cons_of_mem _ hz))) fun σ H Q ⟨κ, w, Fr, s, hh, p⟩ => ?_
    unfold ev at p
    rw [show (pr T k).has f = true by show (T.fn f).isSome = true; rw [e]; rfl, if_pos rfl] at p
    refine fromL hh p fun vs κ1 w1 H1 s1 ds l h1 r1 p1 => ?_
    refine ⟨lockR κ1, w1, lockF κ1 Fr H1, s1.sto, ds, h1.g.lock, by rw [List.append_nil]; exact r1, ?_⟩
    have p1 : Post X.K X.mg W w1 Fr σ Q ((call T k f ds s1.sto).out s1) := p1
    revert p1
    cases call T k f ds s1.sto with
    | ok d t' => exact fun p1 v κ' w' H' l' g' r' => p1 v _ w' H' l' (h1.unlock l' g') r'
    | ex x t' => exact fun p1 κ' w' H' C dx l' g' r' => p1 _ w' H' C dx l' (h1.unlock l' g') r'
    | no => exact fun p1 => p1
/-! ### by names -/
theorem Vals.perm {vs : List V} {us : List Value} (r : Vals vs us) : ∀ ks : List Nat, Vals (ks.map fun i => vs.getD i .non) (ks.map fun i => us.getD i .none)
  | [] => .nil
  | i :: ks => by
    refine .cons ?_ (Vals.perm r ks)
    show L2.RelV (vs.getD i .non) (us.getD i .none)
    by_cases hi : i < vs.length
    · obtain ⟨u, hu, ru⟩ := r.get (i := i) (x := vs[i]) (by simp [hi])
      rw [List.getD_eq_getElem?_getD, List.getD_eq_getElem?_getD, hu, List.getElem?_eq_getElem hi]
      exact ru
    · have hl := r.length
      rw [List.getD_eq_getElem?_getD, List.getD_eq_getElem?_getD, List.getElem?_eq_none (by omega), List.getElem?_eq_none (by omega)]
      exact rfl
theorem Reps.perm {w : Wd} {ds : List D} {vs : List V} (r : Reps X.K X.mg w ds vs) : ∀ ks : List Nat, Reps X.K X.mg w (permArgs ks ds) (ks.map fun i => vs.getD i .non)
  | [] => rfl
  | i :: ks => by
    refine ⟨_, _, rfl, ?_, Reps.perm r ks⟩
    show Rep X.K X.mg w (ds.getD i .non) (vs.getD i .non)
    by_cases hi : i < ds.length
    · obtain ⟨v, hv, rv⟩ := r.get (i := i) (d := ds[i]) (by simp [hi])
      rw [List.getD_eq_getElem?_getD, List.getD_eq_getElem?_getD, hv, List.getElem?_eq_getElem hi]
      exact rv
    · have hl := r.length
      rw [List.getD_eq_getElem?_getD, List.getD_eq_getElem?_getD, List.getElem?_eq_none (by omega), List.getElem?_eq_none (by omega)]
      exact rfl
theorem run_fnP {CX : CXT} {E : L2.St → XK} {f : Addr} {fd : FuncData} {ps : List Str} {sp : Sp} {pins : List (Addr × Obj)} {σ : L2.St} {H : Hp} {s : Shared} {Q : VK} {us zs : List Value} {vs : List V} {kw : List (Str × Value)} (F : FnOk X.prog X.w X.K X.mg X.base CX k f fd ps sp) (hr : Room k X.A)
    (hb : BindsTo s fd ⟨us, kw⟩ (ps.zip zs)) (hx : PassesAt CX X σ (E σ)) (I : Inv X pins σ H s) (r : Vals vs zs) (h : sp vs H Q (E σ)) : wpAny (model X.prog X.w) X.A (PySem.call (.ref f) us kw) (EP X pins σ Q) X.xe s := by
  refine wpAny_call (codeAny_mono (F.run X.A X.stack s H ⟨us, kw⟩ zs vs Q (E σ) hr I.env0 hb r h) fun r s' hq => ?_)
  cases r with
  | error e => exact hx pins H s e s' I hq
  | ok fl =>
    cases fl with
    | ret u => exact I.after hq
    | next => exact False.elim hq
    | brk => exact False.elim hq
    | cont => exact False.elim hq
/-- what the keywords of a call look like -/
structure KwX (X : Cx) (nks : List String) (kws : List Keyword) : Prop where
  all : ∀ pos, (backToKw pos (keywordEach kws X.env)).all (·.1.isSome) = true
  nms : ∀ pos, (backToKw pos (keywordEach kws X.env)).filterMap (·.1) = nks.map Str.ofString
  non : ∀ pos, (backToKw pos (keywordEach kws X.env)).any (·.1.isNone) = false
theorem s_callk {f : String} {n : Nat} {nks : List String} {ks : List Nat} {es fs : Es} {x : Str} {p : Pos} {xs : List Expr} {kws : List Keyword} (C : Ctx T k X W) (hf : nameIs X.env.scope f x = true) (hs : ∀ z ∈ xs, shp z = true) (hn : xs = [] → es = .nil) (hk : KwX X nks kws) (ha : PA X xs (rdl X W (evs (pr T k) es)))
    (hkw : PK X kws (rdl X W (evs (pr T k) fs))) : PE X (.Call (.Name x p) xs kws pos) (rd X W (ev (pr T k) (.callk f n nks ks es fs))) := by
  obtain ⟨rfl, h2, h3⟩ := nameIs_of hf
  cases e : T.fn f with
  | none =>
    refine PE.never fun σ H Q ⟨κ, w, Fr, s, hh, p⟩ => ?_
    unfold ev at p
    rw [show (pr T k).kw f n nks ks = false by show ((T.fn f).any _) = false; rw [e]; rfl] at p
    exact p
  | some fn =>
    obtain ⟨a, fd, ps, e1, e2, e3, _, e5⟩ := (C.tab f fn e).ex
    refine ⟨fun pins s0 σ H Q I ⟨κ, w, Fr, s, hh, p⟩ => ?_⟩
    unfold ev at p
    split at p
    · rename_i hkk
      have hkk : ((T.fn f).any fun fn => fn.kws.contains (n, nks, ks)) = true := hkk
      rw [e] at hkk
      have hm : (n, nks, ks) ∈ fn.kws := List.contains_iff_mem.mp hkk
      have hpl : ∀ pos, ((backTo pos (starEach xs X.env)).any (·.1) || (backToKw pos (keywordEach kws X.env)).any (·.1.isNone)) = false := fun pos => by
        rw [hk.non pos, star_all hs]; rfl
      -- the positional values, then the others, then the call
      have go : ∀ s1 us, (∃ vs H1, Inv X pins σ H1 s1 ∧ Vals vs us ∧ ∃ κ1 w1 ds s2, w.le w1 ∧ Here X.K X.mg κ1 w1 Fr σ H1 s2 ∧ Reps X.K X.mg w1 ds vs ∧ Post X.K X.mg W w1 Fr σ Q ((evs (pr T k) fs s2).bind fun gs s => if ds.length = n ∧ gs.length = nks.length then ((pr T k).cf f (permArgs ks (ds ++ gs)) s.sto).out s else .no)) →
          wpAny (model X.prog X.w) X.A (evalAll ((backToKw pos (keywordEach kws X.env)).map (·.2))) (fun ws s3 => X.K.In s3.heap ∧ wpAny (model X.prog X.w) X.A (PySem.call (.ref a) us (((backToKw pos (keywordEach kws X.env)).filterMap (·.1)).zip ws)) (EP X pins σ Q) X.xe s3) X.xe s1 := by
        rintro s1 us ⟨vs, H1, I1, r1, κ1, w1, ds, s2, l1, h1, d1, p1⟩
        let PB : List V → Hp → Prop := fun vs' H' => ∃ κ2 w2 gs s3, w1.le w2 ∧ Here X.K X.mg κ2 w2 Fr σ H' s3 ∧ Reps X.K X.mg w2 gs vs' ∧ Post X.K X.mg W w2 Fr σ Q (if ds.length = n ∧ gs.length = nks.length then ((pr T k).cf f (permArgs ks (ds ++ gs)) s3.sto).out s3 else .no)
        refine thn (hkw.run pos pins s1 σ H1 PB I1 (fromL h1 p1 fun gv κ2 w2 H2 s3 gs l2 h2 d2 p2 => ⟨κ2, w2, gs, s3, l2, h2, d2, p2⟩)) fun ws s3 ⟨gv, H2, I2, r2, q2⟩ => ⟨I2.kIn, ?_⟩
        obtain ⟨κ2, w2, gs, s4, l2, h2, d2, p2⟩ := q2
        split at p2
        · rename_i hl
          rw [hk.nms]
          have rr : Vals (vs ++ gv) (us ++ ws) := r1.append r2
          refine run_fnP e3 C.room (e5 n nks ks hm s3 us ws I2.kIn (by rw [← r1.length, d1.length]; exact hl.1) (by rw [← r2.length, d2.length]; exact hl.2)) (E := fun σ Cc d H => W Cc d σ H) (passAt C.tk σ) I2 (Vals.perm rr ks) ?_
          refine ⟨lockR κ2, w2, lockF κ2 Fr H2, s4.sto, permArgs ks (ds ++ gs), h2.g.lock, Reps.perm ((Reps.mono l2 _ _ d1).app d2) ks, ?_⟩
          have p2 : Post X.K X.mg W w2 Fr σ Q ((call T k f (permArgs ks (ds ++ gs)) s4.sto).out s4) := p2
          revert p2
          cases call T k f (permArgs ks (ds ++ gs)) s4.sto with
          | ok d t' => exact fun p2 v κ' w' H' l' g' r' => p2 v _ w' H' l' (h2.unlock l' g') r'
          | ex x t' => exact fun p2 κ' w' H' C dx l' g' r' => p2 _ w' H' C dx l' (h2.unlock l' g') r'
          | no => exact fun p2 => p2
        · exact p2.elim
      refine wpAny_Call_Name_kw (ld_glob I (gl_of h2) e1 ?_ h3)
      cases xs with
      | nil =>
        rw [hn rfl, show evs (pr T k) .nil s = .ok [] s by unfold evs; rfl] at p
        exact PySem.W.callWith_KW0 (h₀ := X.base) I.ok.mod.kin e2 (hk.all _) (go s0 [] ⟨[], H, I, .nil, κ, w, [], s, .rfl, hh, rfl, p⟩) (hpl _)
      | cons y ys =>
        let PC : List V → Hp → Prop := fun vs' H' => ∃ κ1 w1 ds s2, w.le w1 ∧ Here X.K X.mg κ1 w1 Fr σ H' s2 ∧ Reps X.K X.mg w1 ds vs' ∧ Post X.K X.mg W w1 Fr σ Q ((evs (pr T k) fs s2).bind fun gs s => if ds.length = n ∧ gs.length = nks.length then ((pr T k).cf f (permArgs ks (ds ++ gs)) s.sto).out s else .no)
        have hA := ha.run pos pins s0 σ H PC I (fromL hh p fun vs κ1 w1 H1 s1 ds l1 h1 r1 p1 => ⟨κ1, w1, ds, s1, l1, h1, r1, p1⟩)
        exact PySem.W.callWith_KW (h₀ := X.base) I.ok.mod.kin e2 (hk.all _) (thn hA fun us s1 q => go s1 us q) (hpl _) (star_ne (hs y List.mem_cons_self))
    · exact p.elim
end
end Z

set_option linter.all false
set_option autoImplicit false
set_option maxRecDepth 20000
/-! Built-in functions, subscripts, own lists. -/
namespace Z
open PySem PySem.Spec PyProof.Rows L2
section
variable {T : Txt} {k : Nat} {X : Cx} {W : WX} {pos : Pos}
theorem bf_in : ∀ f : BF, f ≠ .gcd → bfName f ∈ bNames := by
  intro f hf
  cases f <;> first | (exact absurd rfl hf) | simp [bfName, bNames]
theorem boot_bf : ∀ f : BF, f ≠ .gcd → bootBuiltins (Str.ofString (bfName f)) = some (bfVal f)
  | .len, _ => PySem.boot_len
  | .abs, _ => PyProof.Rows.boot_abs
  | .all, _ => PyProof.Rows.boot_all
  | .any, _ => PyProof.Rows.boot_any
  | .tuple, _ => PyProof.Rows.boot_tuple
  | .int, _ => PyProof.Rows.boot_int
  | .isi _, _ => PyProof.Rows.boot_isinstance
  | .max, _ => PyProof.Rows.boot_max
  | .min, _ => PyProof.Rows.boot_min
  | .list, _ => PyProof.Rows.boot_list
  | .gcd, h => absurd rfl h
theorem boot_ty : ∀ t : Ty, bootBuiltins (Str.ofString (tyName t)) = some (.type (tyName t))
  | .int => PyProof.Rows.boot_int
  | .bool => PyProof.Rows.boot_bool
  | .str => PyProof.Rows.boot_str
  | .tuple => PyProof.Rows.boot_tuple
  | .list => PyProof.Rows.boot_list
  | .dict => PyProof.Rows.boot_dict
theorem ty_in : ∀ t : Ty, tyName t ∈ bNames := by
  intro t
  cases t <;> simp [tyName, bNames]
theorem s_blt {f : BF} {es : Es} {x : Str} {p : Pos} {y : Expr} {ys : List Expr} (C : Ctx T k X W) (hi : ∀ t, f ≠ .isi t) (hf : nameIs X.env.scope (bfName f) x = true) (hs : ∀ z ∈ y :: ys, shp z = true) (ha : PA X (y :: ys) (rdl X W (evs (pr T k) es))) :
    PE X (.Call (.Name x p) (y :: ys) [] pos) (rd X W (ev (pr T k) (.blt f es))) := by
  obtain ⟨rfl, h2, h3⟩ := nameIs_of hf
  have st := star_ne (env := X.env) (xs := ys) (hs y List.mem_cons_self)
  have sa := star_all (env := X.env) (pos := pos) (xs := ys) fun z hz => hs z (List.mem_cons_of_mem _ hz)
  have im : ∀ σ H Q, rd X W (ev (pr T k) (.blt f es)) σ H Q → tCB (rBlt X f) (rdl X W (evs (pr T k) es)) σ H Q := fun σ H Q ⟨κ, w, Fr, s, hh, p⟩ => by
    unfold ev at p
    refine fromL hh p fun vs κ1 w1 H1 s1 ds l h1 r1 p1 => ?_
    obtain ⟨r, hr, q⟩ := Post.of h1 p1
    exact ⟨w1, ds, r, h1.fz, r1, hr, q⟩
  by_cases hg : f = .gcd
  · subst hg
    exact PE.weak (pe_callBfun (id := "math.gcd") (blt_ok C.calm .gcd hi) (gl_of h2) C.gcd ha h3 st sa) im
  · have hm := C.bt _ (bf_in f hg)
    have hb := boot_bf f hg
    have hn := str_ne_name _ (bf_in f hg)
    have hc := blt_ok (X := X) C.calm f hi
    cases f <;> first
      | exact absurd rfl hg
      | exact absurd rfl (hi _)
      | exact PE.weak (pe_callB hc (gl_of h2) hm hb ha hn h3 st sa) im
      | exact PE.weak (pe_callTy hc (gl_of h2) hm hb ha hn h3 st sa) im
theorem s_isi {t : Ty} {e : E} {x y : Str} {p p2 : Pos} {u : Expr} (C : Ctx T k X W) (hf : nameIs X.env.scope "isinstance" x = true) (hy : nameIs X.env.scope (tyName t) y = true) (hu : shp u = true) (ha : PE X u (rd X W (ev (pr T k) e))) :
    PE X (.Call (.Name x p) [u, .Name y p2] [] pos) (rd X W (ev (pr T k) (.isi t e))) := by
  obtain ⟨rfl, h2, h3⟩ := nameIs_of hf
  obtain ⟨rfl, h5, h6⟩ := nameIs_of hy
  have hm := C.bt "isinstance" (by simp [bNames])
  have hb : bootBuiltins (Str.ofString "isinstance") = some (.builtin "isinstance") := PyProof.Rows.boot_isinstance
  have hn := str_ne_name "isinstance" (by simp [bNames])
  have pt : PE X (.Name (Str.ofString (tyName t)) p2) (tC (.ty (tyName t))) := pe_bltn (v := .ty (tyName t)) (gl_of h5) (C.bt _ (ty_in t)) (boot_ty t) rfl (str_ne_name _ (ty_in t)) h6
  have pa : PA X [u, .Name (Str.ofString (tyName t)) p2] _ := pa_cons ha (pa_cons pt pa_nil (star_ne rfl)) (star_ne hu)
  refine PE.weak (pe_callB call_isi (gl_of h2) hm hb pa hn h3 (star_ne hu) (star_all fun z hz => ?_)) fun σ H Q ⟨κ, w, Fr, s, hh, p⟩ => ?_
  · simp at hz; subst hz; rfl
  · unfold ev at p
    refine fromP hh p fun v κ1 w1 H1 s1 d l1 h1 r1 p1 => ?_
    obtain ⟨r, hr, q⟩ := Post.of h1 p1
    obtain ⟨b, hb, rfl⟩ := of_map (show (isiD t d).map D.bl = some r from hr)
    obtain ⟨n, ty, kk⟩ := isi_ok h1.fz r1 hb
    exact ⟨v, .ty (tyName t), .type n, .type (tyName t), b, rfl, .ty _, ty, kk, q.here _ rfl⟩
theorem s_idx {a i : E} {x y : Expr} (hy : shp y = true) (ha : PE X x (rd X W (ev (pr T k) a))) (hb : PE X y (rd X W (ev (pr T k) i))) : PE X (.Subscript x y pos) (rd X W (ev (pr T k) (.idx a i))) := by
  refine PE.weak (pe_ix ix_seq ha hb (pix_of hy)) fun σ H Q ⟨κ, w, Fr, s, hh, p⟩ => ?_
  unfold ev at p
  refine fromP hh p fun v κ1 w1 H1 s1 d l1 h1 r1 p1 => fromP h1 p1 fun u κ2 w2 H2 s2 e l2 h2 r2 p2 => ?_
  obtain ⟨r, hr, q⟩ := Post.of h2 p2
  exact idx_ok h2 (Rep.mono l2 _ _ r1) r2 hr q
/-- an optional part of a slice -/
def rdo (X : Cx) (W : WX) (f : S → Out (Option Int)) : TO := fun σ H Q => ∃ κ w Fr s, Here X.K X.mg κ w Fr σ H s ∧ match f s with
  | .ok o s1 => ∀ κ' w' H', w.le w' → Here X.K X.mg κ' w' Fr σ H' s1 → Q o H'
  | .ex x s1 => ∀ κ' w' H' C dx, w.le w' → Here X.K X.mg κ' w' Fr σ H' s1 → ExOk X.K X.mg w' x C dx → W C dx σ H'
  | .no => False
theorem PO.weak {e : Option Expr} {t t' : TO} (h : PO X e t) (kk : ∀ σ H Q, t' σ H Q → t σ H Q) : PO X e t' := ⟨fun pins s σ H Q I q => h.run pins s σ H Q I (kk σ H Q q)⟩
theorem s_ono : PO X none (rdo X W (evo (pr T k) .no)) := PO.weak po_none fun σ H Q ⟨κ, w, Fr, s, hh, p⟩ => by
  unfold evo at p
  exact p κ w H .rfl hh
theorem s_oso {e : E} {x : Expr} (ha : PE X x (rd X W (ev (pr T k) e))) : PO X (some x) (rdo X W (evo (pr T k) (.so e))) := PO.weak (po_some ha) fun σ H Q ⟨κ, w, Fr, s, hh, p⟩ => by
  unfold evo at p
  refine ⟨κ, w, Fr, s, hh, ?_⟩
  revert p
  cases ev (pr T k) e s with
  | ok d s1 =>
    intro p v κ' w' H' l h r
    have p : match (match d with | .int i => Out.ok (some i) s1 | _ => .no) with
      | .ok o s1 => ∀ κ' w' H', w.le w' → Here X.K X.mg κ' w' Fr σ H' s1 → Q o H'
      | .ex x s1 => ∀ κ' w' H' C dx, w.le w' → Here X.K X.mg κ' w' Fr σ H' s1 → ExOk X.K X.mg w' x C dx → W C dx σ H'
      | .no => False := p
    cases d with
    | int i => cases r; exact ⟨i, rfl, p κ' w' H' l h⟩
    | _ => exact p.elim
  | ex x s1 => exact fun p => p
  | no => exact fun p => p
theorem fromO {f : S → Out (Option Int)} {h : Option Int → S → Out D} {κ : Addr → Role} {w : Wd} {Fr : Hp} {σ : L2.St} {H : Hp} {s : S} {Q : VK} {R : Option Int → Hp → Prop} (hh : Here X.K X.mg κ w Fr σ H s) (p : Post X.K X.mg W w Fr σ Q ((f s).bind h))
    (kk : ∀ κ1 w1 H1 s1 o, w.le w1 → Here X.K X.mg κ1 w1 Fr σ H1 s1 → Post X.K X.mg W w1 Fr σ Q (h o s1) → R o H1) : rdo X W f σ H R := by
  refine ⟨κ, w, Fr, s, hh, ?_⟩
  revert p
  cases f s with
  | ok o s1 => exact fun p κ' w' H' l h1 => kk κ' w' H' s1 o l h1 (Post.mono l p)
  | ex x s1 => exact fun p => p
  | no => exact fun p => p
theorem s_slc {a : E} {lo hi : Eo} {x : Expr} {l h : Option Expr} {p2 : Pos} (ha : PE X x (rd X W (ev (pr T k) a))) (hl : PO X l (rdo X W (evo (pr T k) lo))) (hh : PO X h (rdo X W (evo (pr T k) hi))) :
    PE X (.Subscript x (.Slice l h none p2) pos) (rd X W (ev (pr T k) (.slc a lo hi))) := by
  refine PE.weak (pe_slice sl_ok ha hl hh) fun σ H Q ⟨κ, w, Fr, s, hh, p⟩ => ?_
  unfold ev at p
  refine fromP hh p fun v κ1 w1 H1 s1 d l1 h1 r1 p1 => fromO h1 p1 fun κ2 w2 H2 s2 o l2 h2 p2 => fromO h2 p2 fun κ3 w3 H3 s3 o' l3 h3 p3 => ?_
  obtain ⟨r, hr, q⟩ := Post.of h3 p3
  exact slc_ok h3 (Rep.mono (l2.trans l3) _ _ r1) hr q
theorem s_rev {a : E} {x : Expr} {n : Nat} {p1 p2 p3 : Pos} (ha : PE X x (rd X W (ev (pr T k) a))) : PE X (.Subscript x (.Slice none none (some (.UnaryOp .USub (.Constant (.int 1) n p1) p2)) p3) pos) (rd X W (ev (pr T k) (.rev a))) := by
  refine PE.weak (pe_revL ha) fun σ H Q ⟨κ, w, Fr, s, hh, p⟩ => ?_
  unfold ev at p
  refine fromP hh p fun v κ1 w1 H1 s1 d l1 h1 r1 p1 => ?_
  obtain ⟨r, hr, q⟩ := Post.of h1 p1
  unfold revD at hr
  split at hr
  · cases hr
    obtain ⟨a, xs, rfl, e1, e2⟩ := r1
    exact ⟨a, xs, rfl, .of (h1.fz _ _ e1), fun p n => q.seqL e2.rev p n (h1.g.noF n)⟩
  · cases hr
/-! ### argument lists -/
theorem s_nil : PA X [] (rdl X W (evs (pr T k) .nil)) := PA.weak pa_nil fun σ H Q ⟨κ, w, Fr, s, hh, p⟩ => by
  unfold evs at p
  exact p [] κ w H .rfl hh rfl
theorem s_cons {e : E} {r : Es} {x : Expr} {xs : List Expr} (hx : shp x = true) (ha : PE X x (rd X W (ev (pr T k) e))) (hr : PA X xs (rdl X W (evs (pr T k) r))) : PA X (x :: xs) (rdl X W (evs (pr T k) (.cons e r))) := by
  refine PA.weak (pa_cons ha hr (star_ne hx)) fun σ H Q ⟨κ, w, Fr, s, hh, p⟩ => ?_
  unfold evs at p
  refine ⟨κ, w, Fr, s, hh, (Post.bindL p).imp fun v H1 ⟨κ1, w1, d, s1, l1, h1, r1, p1⟩ => ?_⟩
  refine ⟨κ1, w1, Fr, s1, h1, PostL.imp (fun vs H2 ⟨κ2, w2, ds, s2, l2, h2, r2, p2⟩ => ?_) (PostL.bindL p1)⟩
  exact p2 (v :: vs) κ2 w2 H2 .rfl h2 ⟨v, vs, rfl, Rep.mono l2 _ _ r1, r2⟩
/-! ### keywords -/
theorem PK.weak {e : List Keyword} {t t' : TA} (h : PK X e t) (k : ∀ σ H Q, t' σ H Q → t σ H Q) : PK X e t' := ⟨fun pos pins s σ H Q I q => h.run pos pins s σ H Q I (k σ H Q q)⟩
theorem s_knil : PK X [] (rdl X W (evs (pr T k) .nil)) := PK.weak pk_nil fun σ H Q ⟨κ, w, Fr, s, hh, p⟩ => by
  unfold evs at p
  exact p [] κ w H .rfl hh rfl
theorem s_kcons {e : E} {r : Es} {x : Expr} {xs : List Keyword} {m : Option Str} {kp : Pos} (ha : PE X x (rd X W (ev (pr T k) e))) (hr : PK X xs (rdl X W (evs (pr T k) r))) : PK X (⟨m, x, kp⟩ :: xs) (rdl X W (evs (pr T k) (.cons e r))) := by
  refine PK.weak (pk_cons ha hr) fun σ H Q ⟨κ, w, Fr, s, hh, p⟩ => ?_
  unfold evs at p
  refine ⟨κ, w, Fr, s, hh, (Post.bindL p).imp fun v H1 ⟨κ1, w1, d, s1, l1, h1, r1, p1⟩ => ?_⟩
  refine ⟨κ1, w1, Fr, s1, h1, PostL.imp (fun vs H2 ⟨κ2, w2, ds, s2, l2, h2, r2, p2⟩ => ?_) (PostL.bindL p1)⟩
  exact p2 (v :: vs) κ2 w2 H2 .rfl h2 ⟨v, vs, rfl, Rep.mono l2 _ _ r1, r2⟩
theorem kwx_of : ∀ {fs : Es} {nks : List String} {kws : List Keyword}, okKs X.N X.env.scope fs nks kws = true → KwX X nks kws
  | .nil, [], [], _ => ⟨fun _ => rfl, fun _ => rfl, fun _ => rfl⟩
  | .nil, [], _ :: _, h | .nil, _ :: _, _, h | .cons _ _, [], _, h | .cons _ _, _ :: _, [], h => by simp [okKs] at h
  | .cons e r, n :: ns, ⟨none, x, kp⟩ :: ks, h => by simp [okKs] at h
  | .cons e r, n :: ns, ⟨some m, x, kp⟩ :: ks, h => by
    have h : decide (m = Str.ofString n) = true ∧ okE X.N X.env.scope e x = true ∧ okKs X.N X.env.scope r ns ks = true := by simpa [okKs] using h
    obtain ⟨h1, _, h3⟩ := h
    have ih := kwx_of h3
    have hm : m = Str.ofString n := of_decide_eq_true h1
    refine ⟨fun pos => ?_, fun pos => ?_, fun pos => ?_⟩
    · show (true && _) = true
      rw [Bool.true_and]; exact ih.all pos
    · show m :: _ = Str.ofString n :: ns.map Str.ofString
      rw [hm]; exact congrArg _ (ih.nms pos)
    · show (false || _) = false
      rw [Bool.false_or]; exact ih.non pos
end
end Z

set_option linter.all false
set_option autoImplicit false
set_option maxRecDepth 20000
/-! Dicts of one's own, their keys tuples of ints. -/
namespace Z
open PySem PySem.Spec PyProof.Rows L2
abbrev tkI (X : Cx) : HeapKind X.prog X.w (List Int) := tupleKind (intKind X.prog X.w)
section
variable {X : Cx} {pins : List (Addr × Obj)} {σ : L2.St} {H : Hp} {s : Shared} {w : Wd} {d b : Addr} {kvs : List (List Int × D)} {xs : List (List Int × Addr × Value)} {k : List Int}
theorem ent_eq (x : List Int × Addr × Value) : entI x = entryOfKey (tkI X) x := rfl
theorem items_of {P : Program} {W : World} : ∀ {is : List Int} {its : List Value}, Vals (is.map V.int) its → ItemsAre (intKind P W) is its
  | [], _, h => by cases h; exact .nil
  | i :: is, _, h => by
    cases h with
    | cons r t =>
      obtain ⟨tk, rfl⟩ := r
      exact .cons (by simp [intKind, Value.isInt]) (items_of t)
theorem key_at (I : Inv X pins σ H s) (h : SqT X.K H b (k.map V.int)) : (tkI X).is s.heap k b := by
  obtain ⟨its, r, ⟨o, ho, hc, n, hd⟩, _⟩ := I.tuple h
  exact ⟨o, its.toArray, n, ho, hc, hd, by simpa using items_of r⟩
theorem RepKs.keys : ∀ {kvs : List (List Int × D)} {xs : List (List Int × Addr × Value)}, RepKs X.K X.mg w kvs xs → ∀ x ∈ xs, SqT X.K w.F x.2.1 (x.1.map V.int)
  | [], _, h, x, hx => by cases h; cases hx
  | p :: kvs, _, h, x, hx => by
    obtain ⟨b, z, v, r, rfl, h1, _, _, h2⟩ := h
    rcases List.mem_cons.mp hx with rfl | hx
    · exact h1
    · exact h2.keys x hx
theorem RepKs.len : ∀ {kvs : List (List Int × D)} {xs : List (List Int × Addr × Value)}, RepKs X.K X.mg w kvs xs → xs.length = kvs.length
  | [], _, h => by cases h; rfl
  | p :: kvs, _, h => by
    obtain ⟨b, z, v, r, rfl, _, _, _, h2⟩ := h
    simp [h2.len]
theorem dic_of (I : Inv X pins σ H s) (fz : ∀ a o, w.F a = some o → H a = some o) (h : Rd H d (dicO d xs)) (n : (xs.map (·.1)).Nodup) (r : RepKs X.K X.mg w kvs xs) : s.heap.DictOfH (tkI X) d xs := by
  obtain ⟨⟨o, es, ep, ho, hx, hd, he⟩, _⟩ := h.ok I.hok
  exact ⟨o, es, ep, ho, hx, hd, he, fun x hx => key_at I (SqT.mono fz (r.keys x hx)), n⟩
theorem dic_ok {H' : Hp} {h' : Heap} (hd : h'.DictOfH (tkI X) d xs) : ObjOk X.prog X.w H' h' d (dicO d xs) := by
  obtain ⟨o, es, ep, ho, hx, hdd, he, _, _⟩ := hd
  exact ⟨⟨o, es, ep, ho, hx, hdd, he⟩, ⟨o, ho⟩, fun h1 h2 ⟨o, es, ep, ho, r⟩ k => ⟨o, es, ep, k o ho, r⟩⟩
theorem dic_write {ys : List (List Int × Addr × Value)} {h' : Heap} (I : Inv X pins σ H s) (e : H d = some (dicO d xs)) (hd : h'.DictOfH (tkI X) d ys) (sb : Heap.SameBut d s.heap h') (t : Nat) : Inv X pins σ (upd H d (dicO d ys)) { s with heap := h', toks := t } :=
  I.write (x := d) (e := d) (by rw [e]; exact True.intro) (.inl rfl) (fun b u hb q => (sb.2 b hb).trans q) (let ⟨o, _, _, ho, _⟩ := hd; ⟨o, ho⟩) (dic_ok hd)
/-! ### entries -/
theorem at_cons {x : List Int × Addr × Value} : atKey (x :: xs) k = if x.1 = k then some x.2 else atKey xs k := by
  unfold atKey
  by_cases h : x.1 = k
  · simp [h]
  · simp [h]
theorem lookup_cons' {p : List Int × D} : (p :: kvs).lookup k = if p.1 = k then some p.2 else kvs.lookup k := by
  rw [List.lookup_cons]
  by_cases h : p.1 = k
  · subst h; simp
  · have : (k == p.1) = false := by simpa using fun e => h e.symm
    rw [this]; simp [h]
theorem RepKs.at_ : ∀ {kvs : List (List Int × D)} {xs : List (List Int × Addr × Value)}, RepKs X.K X.mg w kvs xs → (∀ dd, kvs.lookup k = some dd → ∃ b z v, atKey xs k = some (b, z) ∧ RelV v z ∧ Rep X.K X.mg w dd v) ∧ (kvs.lookup k = none → atKey xs k = none)
  | [], _, h => by cases h; exact ⟨fun dd e => (by cases e), fun _ => rfl⟩
  | p :: kvs, _, h => by
    obtain ⟨b, z, v, r, rfl, h1, hv, hd, h2⟩ := h
    rw [lookup_cons', at_cons]
    by_cases q : p.1 = k
    · rw [if_pos q, if_pos q]
      exact ⟨fun dd e => (by cases e; exact ⟨b, z, v, rfl, hv, hd⟩), fun e => (by cases e)⟩
    · rw [if_neg q, if_neg q]; exact h2.at_
theorem RepKs.drop : ∀ {kvs : List (List Int × D)} {xs : List (List Int × Addr × Value)}, RepKs X.K X.mg w kvs xs → RepKs X.K X.mg w (kvs.filter fun p => !(p.1 == k)) (withoutH xs k)
  | [], _, h => by cases h; rfl
  | p :: kvs, _, h => by
    obtain ⟨b, z, v, r, rfl, h1, hv, hd, h2⟩ := h
    have ih := h2.drop
    by_cases q : p.1 = k
    · simp only [withoutH, List.filter_cons, q] at ih ⊢
      simpa using ih
    · have e1 : (!(p.1 == k)) = true := by simpa using q
      simp only [withoutH, List.filter_cons, e1, if_true]
      rw [if_pos (by simpa using q)]
      exact ⟨b, z, v, _, rfl, h1, hv, hd, ih⟩
theorem put_len {k : List Int} {dd : D} : ∀ {kvs : List (List Int × D)}, (putT kvs k dd).length ≤ kvs.length + 1
  | [] => by simp [putT]
  | p :: kvs => by
    obtain ⟨k', d'⟩ := p
    unfold putT
    split
    · simp
    · have := put_len (k := k) (dd := dd) (kvs := kvs)
      simp; omega
theorem stored_cons_ne {x : List Int × Addr × Value} {z : Value} (h : ¬ x.1 = k) : storedH (x :: xs) k b z = x :: storedH xs k b z := by
  unfold storedH
  rw [at_cons, if_neg h]
  split
  · simp [putAt, h]
  · rfl
theorem stored_cons_eq {x : List Int × Addr × Value} {z : Value} (h : x.1 = k) (n : ((x :: xs).map (·.1)).Nodup) : storedH (x :: xs) k b z = (x.1, x.2.1, z) :: xs := by
  unfold storedH
  rw [at_cons, if_pos h]
  have hn : k ∉ xs.map (·.1) := by
    rw [List.map_cons, List.nodup_cons] at n
    rw [← h]; exact n.1
  simp only [Option.isSome_some, if_true, List.map_cons, map_putAt_of_not_mem xs k z hn]
  simp [putAt, h]
theorem RepKs.put {dd : D} {v : V} {z : Value} (hb : SqT X.K w.F b (k.map V.int)) (hz : RelV v z) (hr : Rep X.K X.mg w dd v) : ∀ {kvs : List (List Int × D)} {xs : List (List Int × Addr × Value)}, (xs.map (·.1)).Nodup → RepKs X.K X.mg w kvs xs → RepKs X.K X.mg w (putT kvs k dd) (storedH xs k b z)
  | [], _, _, h => by cases h; exact ⟨b, z, v, [], rfl, hb, hz, hr, rfl⟩
  | p :: kvs, _, n, h => by
    obtain ⟨b', z', v', r, rfl, h1, hv, hd, h2⟩ := h
    obtain ⟨k', d'⟩ := p
    unfold putT
    by_cases q : k' = k
    · rw [if_pos q, stored_cons_eq q n]
      exact ⟨b', z, v, r, rfl, h1, hz, hr, h2⟩
    · rw [if_neg q, stored_cons_ne q]
      rw [List.map_cons, List.nodup_cons] at n
      exact ⟨b', z', v', _, rfl, h1, hv, hd, h2.put hb hz hr n.2⟩
end
/-! ### what the operations do -/
/-- the dict at d holds kvs, w what is known -/
structure IsDic (X : Cx) (w : Wd) (H : Hp) (d : Addr) (kvs : List (List Int × D)) (xs : List (List Int × Addr × Value)) : Prop where
  fz : ∀ a o, w.F a = some o → H a = some o
  at_ : Rd H d (dicO d xs)
  sys : (d == sysModules) = false
  nd : (xs.map (·.1)).Nodup
  len : kvs.length ≤ lenLine
  rep : RepKs X.K X.mg w kvs xs
section
variable {X : Cx} {pins : List (Addr × Obj)} {σ : L2.St} {H : Hp} {s : Shared} {w : Wd} {d b : Addr} {kvs : List (List Int × D)} {xs : List (List Int × Addr × Value)} {k : List Int}
theorem IsDic.size (D : IsDic X w H d kvs xs) : xs.length ≤ sizeLine := by rw [D.rep.len]; exact len_le D.len
theorem IsDic.dic (D : IsDic X w H d kvs xs) (I : Inv X pins σ H s) : s.heap.DictOfH (tkI X) d xs := dic_of I D.fz D.at_ D.nd D.rep
theorem dic_len {Q : VK} (I : Inv X pins σ H s) (D : IsDic X w H d kvs xs) (q : Q (.int kvs.length) H) : wpAny (model X.prog X.w) X.A (PySem.call (.builtin "len") [.ref d]) (EP X pins σ Q) X.xe s := by
  refine call_len_dictH (knd := tkI X) D.sys (D.dic I) (by have := D.size; rw [sizeLine_eq] at this; omega) ?_
  rw [D.rep.len]
  exact ⟨.int kvs.length, H, I.tok _, ⟨_, rfl⟩, q⟩
theorem dic_get {Q : VK} {dv : V} {r : Value} (hu : X.A.units + 1 < cLine) (I : Inv X pins σ H s) (D : IsDic X w H d kvs xs) (hb : SqT X.K H b (k.map V.int)) (rd : RelV dv r) (q0 : kvs.lookup k = none → Q dv H) (q1 : ∀ dd v, kvs.lookup k = some dd → Rep X.K X.mg w dd v → Q v H) :
    wpAny (model X.prog X.w) X.A (PySem.call (.builtin "dict.get") [.ref d, .ref b, r]) (EP X pins σ Q) X.xe s := by
  refine call_meetsIn PySem.F.slot_dict_get (D.dic I).typeIs PySem.F.entry_dict_get (PySem.F.args_dict_get_3 _ _ _) (meetsH_dict_get_default (tkI X) d b D.sys r) ⟨tupleKind_room_in1 hu, k, xs, key_at I hb, D.dic I, ?_⟩
  cases e : kvs.lookup k with
  | none =>
    rw [(D.rep.at_ (k := k)).2 e]
    exact ⟨dv, H, I.tok _, rd, q0 e⟩
  | some dd =>
    obtain ⟨b', z, v, e1, e2, e3⟩ := (D.rep.at_ (k := k)).1 dd e
    rw [e1]
    exact ⟨v, H, I.tok _, e2, q1 dd v e e3⟩
theorem dic_pop {Q : VK} {dd : D} (hu : X.A.units + 1 < cLine) (I : Inv X pins σ H s) (D : IsDic X w H d kvs xs) (hd : H d = some (dicO d xs)) (hb : SqT X.K H b (k.map V.int)) (e : kvs.lookup k = some dd)
    (q : ∀ v, Rep X.K X.mg w dd v → ((withoutH xs k).map (·.1)).Nodup → Q v (upd H d (dicO d (withoutH xs k)))) : wpAny (model X.prog X.w) X.A (PySem.call (.builtin "dict.pop") [.ref d, .ref b]) (EP X pins σ Q) X.xe s := by
  obtain ⟨b', z, v, e1, e2, e3⟩ := (D.rep.at_ (k := k)).1 dd e
  refine call_pop_heap (knd := tkI X) (.inl rfl) (PySem.F.args_dict_pop_2 _ _) (tupleKind_room_in1 hu) (key_at I hb) D.sys (D.dic I) e1 (fun h' hm sb => ⟨v, _, dic_write I hd hm sb _, e2, q v e3 ?_⟩) D.size
  obtain ⟨_, _, _, _, _, _, _, _, hn⟩ := hm; exact hn
theorem dic_set {Q : Hp → Prop} {v : V} {u : Value} {dd : D} (hu : X.A.units + 1 < cLine) (I : Inv X pins σ H s) (D : IsDic X w H d kvs xs) (hd : H d = some (dicO d xs)) (hb : SqT X.K H b (k.map V.int)) (rv : RelV v u)
    (q : ((storedH xs k b u).map (·.1)).Nodup → Q (upd H d (dicO d (storedH xs k b u)))) : wpAny (model X.prog X.w) X.A (setItem (.ref d) (.ref b) u) (fun _ s' => ∃ H', Inv X pins σ H' s' ∧ Q H') X.xe s := by
  refine wpAny_setItem_heap (knd := tkI X) (tupleKind_room_in1 hu) (key_at I hb) (D.dic I) (fun h' hm sb => ⟨_, dic_write I hd hm sb _, q ?_⟩) D.size
  obtain ⟨_, _, _, _, _, _, _, _, hn⟩ := hm; exact hn
end
end Z

set_option linter.all false
set_option autoImplicit false
set_option maxRecDepth 20000
/-! Own lists. -/
namespace Z
open PySem PySem.Spec PyProof.Rows L2
section
variable {K : PySem.W.Frag} {mg : Str → Option Value} {κ : Addr → Role} {w : Wd} {Fr H : Hp} {σ : L2.St} {s : S} {i : Nat} {a : Addr}
theorem obj_at {o : Ob} (hh : Here K mg κ w Fr σ H s) (e : s.obj i = some o) : ∃ a u, σ[i]? = some (some (.ref a)) ∧ Rd H a u ∧ RepO K mg w a u o := by
  unfold S.obj at e
  split at e
  · cases e
    rename_i o q
    obtain ⟨a, u, h1, h2, h3, h4⟩ := hh.sl i _ q
    exact ⟨a, u, h1, .inl h3, h4⟩
  · cases e
    rename_i o q
    obtain ⟨a, u, h1, h2, h4⟩ := hh.sl i _ q
    refine ⟨a, u, h1, ?_, h4⟩
    rcases h2 with h2 | ⟨ob, h2⟩
    · exact .inl (hh.g.fr _ _ h2).2
    · exact .inr ⟨ob, (hh.g.fr _ _ h2).2⟩
  · cases e
    rename_i o q
    obtain ⟨a, od, u, h1, h2, h4⟩ := hh.sl i _ q
    exact ⟨a, u, h1, .inr ⟨od, (hh.g.fr _ _ h2).2⟩, h4⟩
  · cases e
theorem own_at {ds : List D} (hh : Here K mg κ w Fr σ H s) (e : s.own i = some ds) : ∃ a xs, σ[i]? = some (some (.ref a)) ∧ κ a = .ow i ∧ H a = some (.lst xs) ∧ Reps K mg w ds xs := by
  unfold S.own at e
  split at e
  · cases e
    rename_i q
    obtain ⟨a, u, h1, h2, h3, xs, rfl, h4⟩ := hh.sl i _ q
    exact ⟨a, xs, h1, h2, h3, h4⟩
  · cases e
theorem put_at {x y : Sl} {j : Nat} (e : (s.put i x).env[j]? = some y) : (j = i ∧ y = x) ∨ (j ≠ i ∧ s.env[j]? = some y) := by
  have e : (s.env.set i x)[j]? = some y := e
  by_cases q : i = j
  · subst q
    have hi : i < s.env.length := by
      have := (List.getElem?_eq_some_iff.mp e).1
      simpa using this
    rw [List.getElem?_set_self hi] at e
    cases e
    exact .inl ⟨rfl, rfl⟩
  · rw [List.getElem?_set_ne q] at e
    exact .inr ⟨fun z => q z.symm, e⟩
/-- the object of a slot is changed -/
theorem Here.mut {u u' : HO} {o' : Ob} (hh : Here K mg κ w Fr σ H s) (e : σ[i]? = some (some (.ref a))) (hk : κ a = .ow i) (hu : H a = some u) (ht : ∀ xs, u' ≠ .tup xs) (r : RepO K mg w a u' o') :
    Here K mg κ w Fr σ (upd H a u') (s.put i (.own o')) := by
  have ne : ∀ {b : Addr}, (∀ j, κ b ≠ .ow j) → b ≠ a := fun h z => h i (by rw [z]; exact hk)
  refine ⟨⟨fun b o q => ?_, fun b o q => ?_, fun b q => ?_, hh.g.len, fun b xs q => ?_, fun n b q => ?_⟩, by simp [S.put, hh.len], fun j x q => ?_⟩
  · obtain ⟨h1, h2⟩ := hh.g.fz b o q
    exact ⟨h1, by rw [upd_ne (ne fun j z => by rw [h1] at z; cases z)]; exact h2⟩
  · obtain ⟨h1, h2⟩ := hh.g.fr b o q
    exact ⟨h1, by rw [upd_ne (ne fun j z => by rw [h1] at z; cases z)]; exact h2⟩
  · by_cases z : b = a
    · subst z; rw [upd_same]; intro z; cases z
    · rw [upd_ne z]; exact hh.g.nf b q
  · by_cases z : b = a
    · subst z; rw [upd_same] at q; exact absurd (Option.some.inj q) (ht xs)
    · rw [upd_ne z] at q; exact hh.g.nt b xs q
  · obtain ⟨h1, ob, v, h2, h3, h4⟩ := hh.g.st n b q
    exact ⟨h1, ob, v, h2, by rw [upd_ne (ne fun j z => by rw [h1] at z; cases z)]; exact h3, h4⟩
  · rcases put_at q with ⟨rfl, rfl⟩ | ⟨hj, q⟩
    · exact ⟨a, u', e, hk, upd_same, r⟩
    · refine (hh.sl j x q).keep .rfl fun b v hb hv => ⟨hb, ?_⟩
      rw [upd_ne fun z => by subst z; rw [hk] at hb; exact hj (Role.ow.inj hb).symm]
      exact hv
/-- a slot's own list is frozen -/
theorem Here.freeze {ds : List D} {xs : List V} (hh : Here K mg κ w Fr σ H s) (e : σ[i]? = some (some (.ref a))) (hk : κ a = .ow i) (hu : H a = some (.lst xs)) (r : Reps K mg w ds xs) :
    w.le (w.add a (.lst xs)) ∧ Here K mg (upR κ a .fz) (w.add a (.lst xs)) Fr σ H (s.put i (.val (.lst ds))) ∧ Rep K mg (w.add a (.lst xs)) (.lst ds) (.ref a) := by
  have nF : w.F a = none := by
    cases q : w.F a with
    | none => rfl
    | some o => have := (hh.g.fz a o q).1; rw [hk] at this; cases this
  have le : w.le (w.add a (.lst xs)) := Wd.add_le nF
  have rr : Rep K mg (w.add a (.lst xs)) (.lst ds) (.ref a) := ⟨a, xs, rfl, upd_same, Reps.mono le _ _ r⟩
  have ne : ∀ {b : Addr}, (∀ j, κ b ≠ .ow j) → b ≠ a := fun h z => h i (by rw [z]; exact hk)
  refine ⟨le, ⟨⟨fun b o q => ?_, fun b o q => ?_, fun b q => ?_, hh.g.len, fun b ys q => ?_, fun n b q => ?_⟩, by simp [S.put, hh.len], fun j x q => ?_⟩, rr⟩
  · by_cases z : b = a
    · subst z
      have q : upd w.F b (.lst xs) b = some o := q
      rw [upd_same] at q; cases q
      exact ⟨upR_same, hu⟩
    · have q : upd w.F a (.lst xs) b = some o := q
      rw [upd_ne z] at q
      rw [upR_ne z]; exact hh.g.fz b o q
  · obtain ⟨h1, h2⟩ := hh.g.fr b o q
    rw [upR_ne (ne fun j z => by rw [h1] at z; cases z)]; exact ⟨h1, h2⟩
  · by_cases z : b = a
    · subst z; rw [hu]; intro z; cases z
    · rw [upR_ne z] at q; exact hh.g.nf b q
  · by_cases z : b = a
    · subst z; rw [hu] at q; cases q
    · rw [upR_ne z]; exact (hh.g.nt b ys q).imp id fun y => le.F _ _ y
  · obtain ⟨h1, ob, v, h2, h3, h4⟩ := hh.g.st n b q
    rw [upR_ne (ne fun j z => by rw [h1] at z; cases z)]
    exact ⟨h1, ob, v, h2, h3, h4.mono le⟩
  · rcases put_at q with ⟨rfl, rfl⟩ | ⟨hj, q⟩
    · exact ⟨.ref a, e, rr⟩
    · refine (hh.sl j x q).keep le fun b v hb hv => ⟨?_, hv⟩
      rw [upR_ne fun z => by subst z; rw [hk] at hb; exact hj (Role.ow.inj hb).symm]
      exact hb
end
section
variable {T : Txt} {k : Nat} {X : Cx} {W : WX} {pos : Pos} {i : Nat} {y : Str} {p : Pos}
theorem pvi (h : nm X.N X.env.scope i y = true) : PE X (.Name y p) (tVar i) := by
  obtain ⟨h1, h2, h3, h4⟩ := nm_of h
  exact pe_var h1 h2 h3 h4
theorem s_frz (h : nm X.N X.env.scope i y = true) : PE X (.Name y pos) (rd X W (ev (pr T k) (.frz i))) := by
  refine PE.weak (pvi h) fun σ H Q ⟨κ, w, Fr, s, hh, p⟩ => ?_
  unfold ev at p
  split at p
  · rename_i ds q
    obtain ⟨a, xs, h1, h2, h3, h4⟩ := own_at (s := s) (ds := ds) hh (by unfold S.own; rw [q])
    obtain ⟨l, hh', r⟩ := hh.freeze h1 h2 h3 h4
    exact ⟨_, h1, p _ _ _ _ l hh' r⟩
  · exact p.elim
theorem isDic_of {κ : Addr → Role} {w : Wd} {Fr : Hp} {σ : L2.St} {H : Hp} {s : S} {a : Addr} {u : HO} {kvs : List (List Int × D)} (hh : Here X.K X.mg κ w Fr σ H s) (h : Rd H a u) (r : RepO X.K X.mg w a u (.dT kvs)) : ∃ xs, u = dicO a xs ∧ IsDic X w H a kvs xs := by
  obtain ⟨xs, rfl, h1, h2, h3, h4⟩ := r
  exact ⟨xs, rfl, hh.fz, h, h1, h2, h3, h4⟩
theorem call_len_any : CallR X (.builtin "len") (fun vs H Q => (∃ p ys, vs = [.ref p] ∧ (SqL X.K H p ys ∨ SqT X.K H p ys) ∧ Q (.int ys.length) H) ∨ ∃ w d kvs xs, vs = [.ref d] ∧ IsDic X w H d kvs xs ∧ Q (.int kvs.length) H) := by
  intro pins s σ H vs us Q I r h
  rcases h with h | ⟨w, d, kvs, xs, rfl, D, q⟩
  · exact call_len_seq pins s σ H vs us Q I r h
  · cases r with
    | cons r rr =>
      cases rr
      cases r
      exact dic_len I D q
theorem s_mlen {f : Str} {q : Pos} (C : Ctx T k X W) (hf : nameIs X.env.scope "len" f = true) (h : nm X.N X.env.scope i y = true) : PE X (.Call (.Name f q) [.Name y p] [] pos) (rd X W (ev (pr T k) (.mlen i))) := by
  obtain ⟨rfl, h2, h3⟩ := nameIs_of hf
  refine PE.weak (pe_callB call_len_any (gl_of h2) (C.bt "len" (by simp [bNames])) PySem.boot_len (pa_cons (pvi h) pa_nil (star_ne rfl)) (str_ne_name _ (by simp [bNames])) h3 (star_ne rfl) (star_all fun z hz => by simp at hz)) fun σ H Q ⟨κ, w, Fr, s, hh, p⟩ => ?_
  unfold ev at p
  split at p
  · rename_i ds e
    obtain ⟨a, u, h1, h4, xs, rfl, h5⟩ := obj_at hh e
    exact ⟨_, h1, .inl ⟨a, xs, rfl, .inl (.inl h4), p _ _ _ _ .rfl hh (by rw [h5.length]; rfl)⟩⟩
  · rename_i kvs e
    obtain ⟨a, u, h1, h4, h5⟩ := obj_at hh e
    obtain ⟨xs, rfl, D⟩ := isDic_of hh h4 h5
    exact ⟨_, h1, .inr ⟨w, a, kvs, xs, rfl, D, p _ _ _ _ .rfl hh rfl⟩⟩
  · exact p.elim
theorem keyD_of {d : D} {ks : List Int} (h : keyD d = some ks) : d = .tup (ks.map .int) := by
  cases d <;> first | (cases h; done) | skip
  rw [ints_eq h]
theorem rep_key {w : Wd} {H : Hp} {ks : List Int} {v : V} (fz : ∀ a o, w.F a = some o → H a = some o) (r : Rep X.K X.mg w (.tup (ks.map .int)) v) : ∃ b, v = .ref b ∧ SqT X.K H b (ks.map V.int) ∧ SqT X.K w.F b (ks.map V.int) := by
  obtain ⟨b, xs, rfl, h1, h2⟩ := r
  rw [Reps.ints h2] at h1
  exact ⟨b, rfl, SqT.mono fz h1, h1⟩
theorem dic_ty {pins : List (Addr × Obj)} {σ : L2.St} {H : Hp} {s : Shared} {d : Addr} {w : Wd} {kvs : List (List Int × D)} {xs : List (List Int × Addr × Value)} (I : Inv X pins σ H s) (D : IsDic X w H d kvs xs) :
    s.TypeIs (.ref d) "dict" ∧ ∀ b, Value.ref d = .ref b → ∃ ob, s.heap.get? b = some ob ∧ ob.dict = none := by
  obtain ⟨o, _, _, ho, hx, _⟩ := D.dic I
  exact ⟨⟨o, ho, hx.1⟩, fun b e => by cases e; exact ⟨o, ho, hx.2.1⟩⟩
theorem s_midx {e : E} {z : Expr} (h : nm X.N X.env.scope i y = true) (hz : shp z = true) (he : PE X z (rd X W (ev (pr T k) e))) : PE X (.Subscript (.Name y p) z pos) (rd X W (ev (pr T k) (.midx i e))) := by
  refine PE.weak (pe_ix ix_list (pvi h) he (pix_of hz)) fun σ H Q ⟨κ, w, Fr, s, hh, p⟩ => ?_
  unfold ev at p
  split at p
  · rename_i h0
    obtain ⟨o0, h0⟩ := Option.isSome_iff_exists.mp h0
    obtain ⟨a0, u0, g0, _⟩ := obj_at hh h0
    refine ⟨_, g0, fromP hh p fun v κ1 w1 H1 s1 d l1 h1 r1 p1 => ?_⟩
    split at p1
    · rename_i ds n e1
      obtain ⟨a, u, g1, g4, xs, rfl, g5⟩ := obj_at h1 e1
      rw [g0] at g1; cases g1
      cases r1
      obtain ⟨r, hr, q⟩ := Post.of h1 p1
      obtain ⟨v, hv, rv⟩ := g5.atI hr
      exact ⟨a0, xs, n, v, rfl, rfl, .inl g4, hv, q.here v rv⟩
    · exact p1.elim
  · exact p.elim
theorem s_mtup {f : Str} {q : Pos} (C : Ctx T k X W) (hf : nameIs X.env.scope "tuple" f = true) (h : nm X.N X.env.scope i y = true) : PE X (.Call (.Name f q) [.Name y p] [] pos) (rd X W (ev (pr T k) (.mtup i))) := by
  obtain ⟨rfl, h2, h3⟩ := nameIs_of hf
  refine PE.weak (pe_callTy call_tuple_of (gl_of h2) (C.bt "tuple" (by simp [bNames])) PyProof.Rows.boot_tuple (pa_cons (pvi h) pa_nil (star_ne rfl)) (str_ne_name _ (by simp [bNames])) h3 (star_ne rfl) (star_all fun z hz => by simp at hz)) fun σ H Q ⟨κ, w, Fr, s, hh, p⟩ => ?_
  unfold ev at p
  split at p
  · rename_i ds e
    obtain ⟨a, u, h1, h4, xs, rfl, h5⟩ := obj_at hh e
    exact ⟨_, h1, a, xs, rfl, .inl ⟨.inl h4, fun p1 n => (p.res hh).seqT h5 p1 n (hh.g.noF n)⟩⟩
  · exact p.elim
theorem eqvs_nil : ∀ ds : List D, eqvs ds [] = ds.isEmpty
  | [] => rfl
  | _ :: _ => rfl
theorem s_mnil {b : Bool} {op : CmpOp} {p2 : Pos} (C : Ctx T k X W) (h : nm X.N X.env.scope i y = true) (ho : (match op with | .Eq => b | .NotEq => !b | _ => false) = true) : PE X (.Compare (.Name y p) [op] [.List [] p2] pos) (rd X W (ev (pr T k) (.mnil i b))) ∧ PT X (.Compare (.Name y p) [op] [.List [] p2] pos) (tB (rd X W (ev (pr T k) (.mnil i b)))) := by
  have hu : X.A.units + 65 < cLine := by have := C.room.un; omega
  have ho2 : ∃ f : Bool → Bool, (f = (fun c => if b then c else !c)) ∧ OpR X (compareOp op) (fun x y H Q => ∃ d e, Dp X.K H x d ∧ Dp X.K H y e ∧ d.canLay0 = true ∧ e.canLay0 = true ∧ d.depth ≤ 60 ∧ Q (.bl (f (PyData.eqv d e))) H) := by
    refine ⟨_, rfl, ?_⟩
    intro pins s σ H x y v u Q I rx ry hq
    obtain ⟨d, e, hd, he, c1, c2, dd, q⟩ := hq
    obtain ⟨as, r1⟩ := Dp.reads I d x v hd rx
    obtain ⟨bs, r2⟩ := Dp.reads I e y u he ry
    cases op <;> cases b <;> first | (cases ho; done) | skip
    · exact SeqAt.compareEq_reads r1 r2 c1 c2 (by have := Nat.min_le_left d.depth e.depth; omega) ⟨.bl _, H, I, rfl, q⟩
    · exact SeqAt.compareNe_reads r1 r2 c1 c2 (by have := Nat.min_le_left d.depth e.depth; omega) ⟨.bl _, H, I, rfl, q⟩
  obtain ⟨f, hf, hop⟩ := ho2
  have pe := pe_cmpR (pos := pos) hop (pvi (p := p) h) (pe_lst (pos := p2) pa_nil) (behind_of rfl)
  have pt := pt_cmpR (pos := pos) hop (pvi (p := p) h) (pe_lst (pos := p2) pa_nil) (behind_of rfl)
  refine (fun key => ⟨PE.weak pe key, PT.weak pt fun σ H Q q => key σ H _ q⟩) fun σ H Q ⟨κ, w, Fr, s, hh, p⟩ => ?_
  unfold ev at p
  split at p
  · rename_i ds e
    split at p
    · rename_i hp
      obtain ⟨a, u, h1, h4, xs, rfl, h5⟩ := obj_at hh e
      refine ⟨_, h1, Nat.zero_le _, fun p1 n => ?_⟩
      have hh' := hh.add (o := .lst []) n
      obtain ⟨c1, c2⟩ := plains_lay 30 ds hp
      refine ⟨.list (pys ds), .list [], .lst (.inl (Rd.upd h4 n)) (Reps.dp (K := X.K) (mg := X.mg) 30 ds xs hp h5 |> DpAll.mono (fun b o q => ?_) _ _), .lst (.inl (.inl upd_same)) .nil, c1, rfl, by simp only [PyData.depth]; omega, ?_⟩
      · rw [upd_ne (ne_of_none (hh.fz _ _ q) n)]; exact hh.fz _ _ q
      · have e2 : PyData.eqv (.list (pys ds)) (.list []) = ds.isEmpty := by
          cases ds <;> rfl
        rw [e2, hf]
        refine p _ _ _ _ (Wd.add_le (hh.g.noF n)) hh' ?_
        cases b <;> cases ds.isEmpty <;> rfl
    · exact p.elim
  · exact p.elim
theorem mtB_of {name : String} {o : Expr} {pos : Pos} (h : mtB name i X.N X.env.scope o pos = true) : ∃ x p1 apos, o = .Attribute (.Name x p1) (Str.ofString name) apos ∧ nm X.N X.env.scope i x = true ∧ (apos.endLine == pos.line) = true := by
  unfold mtB at h
  split at h
  · simp only [Bool.and_eq_true, decide_eq_true_eq] at h
    obtain ⟨h1, rfl, h3⟩ := h
    exact ⟨_, _, _, rfl, h1, h3⟩
  · cases h
theorem s_mpop {o : Expr} (h : mtB "pop" i X.N X.env.scope o pos = true) : PE X (.Call o [] [] pos) (rd X W (ev (pr T k) (.mpop i))) := by
  obtain ⟨x, p1, apos, rfl, h1, h2⟩ := mtB_of h
  refine PE.weak (pe_bm0 PySem.F.plainAttrs_list PySem.F.slot_list_pop PySem.F.type_list_pop mt_pop (pvi h1) rfl h2) fun σ H Q ⟨κ, w, Fr, s, hh, p⟩ => ?_
  unfold ev at p
  split at p
  · rename_i ds e
    obtain ⟨a, xs, g1, g2, g3, g4⟩ := own_at hh e
    split at p
    · rename_i d hd
      rw [List.getLast?_eq_getElem?] at hd
      obtain ⟨v, hv, rv⟩ := g4.get hd
      refine ⟨_, g1, .inl ⟨rfl, xs, .of g3⟩, a, xs, v, rfl, rfl, g3, by rw [g4.length]; exact hv, ?_⟩
      have rr : Reps X.K X.mg w ds.dropLast xs.dropLast := by
        rw [List.dropLast_eq_take, List.dropLast_eq_take, g4.length]
        exact g4.take _
      exact p v _ _ _ .rfl (hh.mut g1 g2 g3 (fun _ z => by cases z) ⟨_, rfl, rr⟩) rv
    · exact p.elim
  · exact p.elim
/-! ### dicts -/
theorem dob_obj {s : S} {i : Nat} {kvs : List (List Int × D)} (h : s.dob i = some kvs) : s.obj i = some (.dT kvs) := by
  unfold S.dob at h
  unfold S.obj
  split at h <;> cases h <;> (rename_i q; rw [q])
theorem dct_dob {s : S} {i : Nat} {kvs : List (List Int × D)} (h : s.dct i = some kvs) : s.dob i = some kvs := by
  unfold S.dct at h
  unfold S.dob
  split at h <;> cases h <;> (rename_i q; rw [q])
/-- the dict of a slot, where it stands -/
theorem dob_at {κ : Addr → Role} {w : Wd} {Fr : Hp} {σ : L2.St} {H : Hp} {s : S} {kvs : List (List Int × D)} (hh : Here X.K X.mg κ w Fr σ H s) (e : s.dob i = some kvs) : ∃ a xs, σ[i]? = some (some (.ref a)) ∧ IsDic X w H a kvs xs := by
  obtain ⟨a, u, h1, h4, h5⟩ := obj_at hh (dob_obj e)
  obtain ⟨xs, rfl, D⟩ := isDic_of hh h4 h5
  exact ⟨a, xs, h1, D⟩
theorem dct_at {κ : Addr → Role} {w : Wd} {Fr : Hp} {σ : L2.St} {H : Hp} {s : S} {kvs : List (List Int × D)} (hh : Here X.K X.mg κ w Fr σ H s) (e : s.dct i = some kvs) : ∃ a xs, σ[i]? = some (some (.ref a)) ∧ κ a = .ow i ∧ H a = some (dicO a xs) ∧ IsDic X w H a kvs xs := by
  unfold S.dct at e
  split at e
  · cases e
    rename_i q
    obtain ⟨a, u, h1, h2, h3, h4⟩ := hh.sl i _ q
    obtain ⟨xs, rfl, D⟩ := isDic_of hh (.inl h3) h4
    exact ⟨a, xs, h1, h2, h3, D⟩
  · cases e
theorem IsDic.rep' {w : Wd} {H : Hp} {a : Addr} {kvs : List (List Int × D)} {xs : List (List Int × Addr × Value)} (D : IsDic X w H a kvs xs) : RepO X.K X.mg w a (dicO a xs) (.dT kvs) := ⟨xs, rfl, D.sys, D.nd, D.len, D.rep⟩
theorem dic_hu (C : Ctx T k X W) : X.A.units + 1 < cLine := by have := C.room.un; omega
theorem s_mget {kk d : E} {o xk xd : Expr} (C : Ctx T k X W) (h : mtB "get" i X.N X.env.scope o pos = true) (hk : shp xk = true) (hd : shp xd = true) (pk : PE X xk (rd X W (ev (pr T k) kk))) (pd : PE X xd (rd X W (ev (pr T k) d))) :
    PE X (.Call o [xk, xd] [] pos) (rd X W (ev (pr T k) (.mget i kk d))) := by
  obtain ⟨x, p1, apos, rfl, h1, h2⟩ := mtB_of h
  refine ⟨fun pins s0 σ H Q I ⟨κ, w, Fr, s, hh, p⟩ => ?_⟩
  unfold ev at p
  split at p
  · rename_i h0
    obtain ⟨kvs0, h0⟩ := Option.isSome_iff_exists.mp h0
    obtain ⟨a, xs0, g1, D0⟩ := dob_at hh h0
    have trees : backTo pos (starEach [xk, xd] X.env) = [(false, eval xk X.env), (false, eval xd X.env)] := by rw [star_ne hk, star_ne hd]; rfl
    have few : ((backTo pos (starEach [xk, xd] X.env)).all (fun x => !x.1) && (backToKw pos (keywordEach [] X.env)).all (fun x => x.1.isSome) && decide (([xk, xd] : List Expr).length + ([] : List Keyword).length + (if ([] : List Keyword).isEmpty then 0 else 1) < 30)) = true := by rw [trees]; rfl
    obtain ⟨t1, t2⟩ := dic_ty I D0
    let PB : VK := fun v H' => ∃ κ1 w1 s1 dk, Here X.K X.mg κ1 w1 Fr σ H' s1 ∧ Rep X.K X.mg w1 dk v ∧ Post X.K X.mg W w1 Fr σ Q ((ev (pr T k) d s1).bind fun y s => (match s.dob i, keyD dk with | some kvs, some k => .ok ((kvs.lookup k).getD y) s | _, _ => .no))
    refine wpAny_Call_method rfl few h2 PySem.F.plainAttrs_dict PySem.F.slot_dict_get PySem.F.type_dict_get (thn ((pvi h1).run pins s0 σ H (fun x H1 => x = .ref a ∧ H1 = H) I ⟨_, g1, rfl, rfl⟩) fun u s1 ⟨x, H1, I1, rx, ex, eH⟩ => ?_)
    subst ex; subst eH
    obtain rfl : u = Value.ref a := rx
    obtain ⟨t1, t2⟩ := dic_ty I1 D0
    refine ⟨t1, t2, ?_⟩
    rw [trees]
    refine Calls.callWith_builtin rfl (Calls.evalArgs_plain (Calls.spliced_cons (thn (pk.run pins s1 σ H1 PB I1 (fromP hh p fun v κ1 w1 H1 s1 dk l1 h1 r1 p1 => ⟨κ1, w1, s1, dk, h1, r1, p1⟩)) fun iv s2 ⟨y, H2, I2, ry, κ2, w2, s2', dk, h2', r2, p2⟩ => ?_)))
    let PC : VK := fun v H' => ∃ κ1 w1 s1 dd, w2.le w1 ∧ Here X.K X.mg κ1 w1 Fr σ H' s1 ∧ Rep X.K X.mg w1 dd v ∧ Post X.K X.mg W w1 Fr σ Q (match s1.dob i, keyD dk with | some kvs, some k => .ok ((kvs.lookup k).getD dd) s1 | _, _ => .no)
    refine Calls.spliced_cons (thn (pd.run pins s2 σ H2 PC I2 (fromP h2' p2 fun v κ1 w1 H1 s1 dd l1 h1 r1 p1 => ⟨κ1, w1, s1, dd, l1, h1, r1, p1⟩)) fun fv s3 ⟨z, H3, I3, rz, κ3, w3, s3', dd, l3, h3', r3, p3⟩ => Calls.spliced_nil ?_)
    split at p3
    · rename_i kvs kx e1 e2
      obtain ⟨a', xs, g2, D⟩ := dob_at h3' e1
      rw [g1] at g2; cases g2
      have ek := keyD_of e2
      subst ek
      obtain ⟨b, rfl, hb, _⟩ := rep_key h3'.fz (Rep.mono l3 _ _ r2)
      obtain rfl : iv = Value.ref b := ry
      refine dic_get (dic_hu C) I3 D hb rz (fun e => ?_) (fun d2 v2 e rv => ?_)
      · rw [e] at p3; exact p3 _ _ _ _ .rfl h3' r3
      · rw [e] at p3; exact p3 _ _ _ _ .rfl h3' rv
    · exact p3.elim
  · exact p.elim
theorem s_mpopk {kk : E} {o xk : Expr} (C : Ctx T k X W) (h : mtB "pop" i X.N X.env.scope o pos = true) (hk : shp xk = true) (pk : PE X xk (rd X W (ev (pr T k) kk))) : PE X (.Call o [xk] [] pos) (rd X W (ev (pr T k) (.mpopk i kk))) := by
  obtain ⟨x, p1, apos, rfl, h1, h2⟩ := mtB_of h
  refine ⟨fun pins s0 σ H Q I ⟨κ, w, Fr, s, hh, p⟩ => ?_⟩
  unfold ev at p
  split at p
  · rename_i h0
    obtain ⟨kvs0, h0⟩ := Option.isSome_iff_exists.mp h0
    obtain ⟨a, xs0, g1, D0⟩ := dob_at hh (dct_dob h0)
    have trees : backTo pos (starEach [xk] X.env) = [(false, eval xk X.env)] := by rw [star_ne hk]; rfl
    have few : ((backTo pos (starEach [xk] X.env)).all (fun x => !x.1) && (backToKw pos (keywordEach [] X.env)).all (fun x => x.1.isSome) && decide (([xk] : List Expr).length + ([] : List Keyword).length + (if ([] : List Keyword).isEmpty then 0 else 1) < 30)) = true := by rw [trees]; rfl
    let PB : VK := fun v H' => ∃ κ1 w1 s1 dk, Here X.K X.mg κ1 w1 Fr σ H' s1 ∧ Rep X.K X.mg w1 dk v ∧ Post X.K X.mg W w1 Fr σ Q (match s1.dct i, keyD dk with
      | some kvs, some k => (match kvs.lookup k with | some d => .ok d (s1.put i (.own (.dT (kvs.filter fun p => !(p.1 == k))))) | none => .no)
      | _, _ => .no)
    refine wpAny_Call_method rfl few h2 PySem.F.plainAttrs_dict PySem.F.slot_dict_pop PySem.F.type_dict_pop (thn ((pvi h1).run pins s0 σ H (fun x H1 => x = .ref a ∧ H1 = H) I ⟨_, g1, rfl, rfl⟩) fun u s1 ⟨x, H1, I1, rx, ex, eH⟩ => ?_)
    subst ex; subst eH
    obtain rfl : u = Value.ref a := rx
    obtain ⟨t1, t2⟩ := dic_ty I1 D0
    refine ⟨t1, t2, ?_⟩
    rw [trees]
    refine Calls.callWith_builtin rfl (Calls.evalArgs_plain (Calls.spliced_cons (thn (pk.run pins s1 σ H1 PB I1 (fromP hh p fun v κ1 w1 H1 s1 dk l1 h1 r1 p1 => ⟨κ1, w1, s1, dk, h1, r1, p1⟩)) fun iv s2 ⟨y, H2, I2, ry, κ2, w2, s2', dk, h2', r2, p2⟩ => Calls.spliced_nil ?_)))
    split at p2
    · rename_i kvs kx e1 e2
      obtain ⟨a', xs, g2, gk, gd, D⟩ := dct_at h2' e1
      rw [g1] at g2; cases g2
      have ek := keyD_of e2
      subst ek
      obtain ⟨b, rfl, hb, _⟩ := rep_key h2'.fz r2
      obtain rfl : iv = Value.ref b := ry
      split at p2
      · rename_i d2 e3
        refine dic_pop (dic_hu C) I2 D gd hb e3 fun v rv nd => ?_
        exact p2 v _ _ _ .rfl (h2'.mut g1 gk gd (fun _ z => by cases z) ⟨_, rfl, D.sys, nd, Nat.le_trans (List.length_filter_le _ _) D.len, D.rep.drop⟩) rv
      · exact p2.elim
    · exact p2.elim
  · exact p.elim
end
end Z

set_option linter.all false
set_option autoImplicit false
set_option maxRecDepth 100000
/-! zip of a list and a tuple, in either order: my own. -/
namespace ZM
open PySem PySem.Spec PyProof.Rows L2
/-- false: a list, true: a tuple -/
def Itr : Bool → Heap → Addr → Addr → Nat → Prop
  | false, h, i, l, k => h.IsListIter i l k
  | true, h, i, l, k => h.IsTupleIter i l k
def Sq : Bool → Heap → Addr → Array Value → Prop
  | false, h, l, xs => h.IsList l xs
  | true, h, l, xs => h.IsTuple l xs
/-- what stood at c stands there -/
def Kp (h h' : Heap) (c : Addr) : Prop := ∀ o, h.get? c = some o → h'.get? c = some o
theorem Kp.tr {a b c : Heap} {x : Addr} (p : Kp a b x) (q : Kp b c x) : Kp a c x := fun o e => q o (p o e)
section
variable {b : Bool} {h h' : Heap} {i l z : Addr} {k : Nat} {xs : Array Value}
theorem Itr.kp (x : Itr b h i l k) (e : Kp h h' i) : Itr b h' i l k := match b, x with
  | false, x => Heap.IsListIter.at x e
  | true, x => Heap.IsTupleIter.at x e
theorem Sq.kp (x : Sq b h l xs) (e : Kp h h' l) : Sq b h' l xs := match b, x with
  | false, ⟨o, ho, r⟩ => ⟨o, e _ ho, r⟩
  | true, ⟨o, ho, r⟩ => ⟨o, e _ ho, r⟩
theorem kp_but (s : Heap.SameBut z h h') (n : i ≠ z) : Kp h h' i := fun o e => s.extBut _ _ n e
theorem kp_ext (s : Heap.ExtBut z h h') (n : i ≠ z) : Kp h h' i := fun o e => s _ _ n e
theorem Itr.lt (x : Itr b h i l k) : i < h.objs.size := match b, x with
  | false, ⟨_, e, _⟩ => Heap.lt_size e
  | true, ⟨_, e, _⟩ => Heap.lt_size e
theorem Itr.obj (x : Itr b h i l k) : ∃ o, h.get? i = some o ∧ ∀ v, o.data ≠ .cell v := match b, x with
  | false, ⟨o, e, _, d⟩ => ⟨o, e, fun v q => by rw [d] at q; cases q⟩
  | true, ⟨o, e, _, d⟩ => ⟨o, e, fun v q => by rw [d] at q; cases q⟩
end
section
variable {prog : Program} {w : World} {A : Around} {E : Value → Shared → Prop} {s : Shared}
theorem nx_item {b : Bool} {it l : Addr} {i : Nat} {xs : Array Value} {x : Value} {Q : Value → Shared → Prop} (h1 : Itr b s.heap it l i) (h2 : Sq b s.heap l xs) (hx : xs[i]? = some x)
    (q : ∀ h', Itr b h' it l (i + 1) → (∀ c, c ≠ it → Kp s.heap h' c) → h'.objs.size = s.heap.objs.size → Q x { s with heap := h' }) : wpAny (model prog w) A (Builtin.SmallTypes.nextOf (.ref it)) Q E s := by
  cases b with
  | false => exact wpAny_nextOf_list_item h1 h2 hx fun h' a b => q h' a (fun c n => kp_but b n) b.1
  | true => exact RZ.nextOf_tuple_item h1 h2 hx fun h' a b => q h' a (fun c n => kp_but b n) b.1
theorem nx_end {b : Bool} {it l : Addr} {i : Nat} {xs : Array Value} {Q : Value → Shared → Prop} (hh : A.handled = none) (h1 : Itr b s.heap it l i) (h2 : Sq b s.heap l xs) (hx : xs[i]? = none)
    (q : ∀ h' e, (∀ c, c ≠ it → Kp s.heap h' c) → (∃ o, h'.get? e = some o ∧ o.cls = .type "StopIteration") → E (.ref e) { s with heap := h' }) : wpAny (model prog w) A (Builtin.SmallTypes.nextOf (.ref it)) Q E s := by
  cases b with
  | false => exact wpAny_nextOf_list_end hh h1 h2 hx fun h' e b => q h' e fun c n => kp_ext b n
  | true => exact RZ.nextOf_tuple_end hh h1 h2 hx fun h' e b => q h' e fun c n => kp_ext b n
theorem it_new {b : Bool} {l : Addr} {xs : Array Value} {Q : Value → Shared → Prop} (h : Sq b s.heap l xs)
    (q : Q (.ref s.heap.objs.size) { s with heap := s.heap.push { cls := .type (if b then "tuple_iterator" else "list_iterator"), data := .fields #[.ref l, .int 0 0] } }) : wpAny (model prog w) A (pyIter (.ref l)) Q E s := by
  cases b with
  | false => exact wpAny_pyIter_list h q
  | true => exact wpAny_pyIter_tuple h q
/-! one step of the iterator -/
variable {b1 b2 : Bool} {z TI TO i1 i2 l1 l2 : Addr} {k1 k2 : Nat} {xs ys : Array Value} {a b : Value}
/-- what the iterator's step leaves as it was -/
def Rest (z TO i1 i2 : Addr) (h h' : Heap) : Prop := ∀ c o, c ≠ z → c ≠ TO → c ≠ i1 → c ≠ i2 → h.get? c = some o → h'.get? c = some o
/-- the zip object ahead of a step -/
structure At (b1 b2 : Bool) (z TI TO i1 i2 l1 l2 : Addr) (k1 k2 : Nat) (h : Heap) : Prop where
  z : IsZip h z TI TO .none
  ti : IsPair h TI (.ref i1) (.ref i2)
  to_ : ∃ a b, IsPair h TO a b
  i1 : Itr b1 h i1 l1 k1
  i2 : Itr b2 h i2 l2 k2
theorem step_item {x y : Value} {Q : Value → Shared → Prop} (D : ZipApart z TI TO i1 i2 l1 l2) (S : At b1 b2 z TI TO i1 i2 l1 l2 k1 k2 s.heap)
    (hl1 : Sq b1 s.heap l1 xs) (hl2 : Sq b2 s.heap l2 ys) (hx : xs[k1]? = some x) (hy : ys[k2]? = some y)
    (hQ : ∀ h', IsZip h' z TI TO (rawInt s.heap.objs.size) → IsPair h' TO x y → Itr b1 h' i1 l1 (k1 + 1) → Itr b2 h' i2 l2 (k2 + 1) → IsPair h' s.heap.objs.size x y → Rest z TO i1 i2 s.heap h' → Q (.ref s.heap.objs.size) { s with heap := h' }) :
    wpAny (model prog w) A (Builtin.«zip.__next__» ⟨[.ref z], []⟩) (fun fin s' => ∃ v, fin = .done (.ret v) ∧ Q v s') E s := by
  obtain ⟨Z0, P0, ⟨a, b, O0⟩, I0, J0⟩ := S
  show wpAny _ _ (field (.ref z) 2 >>= _) _ _ _
  refine wpAny_bind (wpAny_field Z0 rfl (x := .bool false) rfl ?_)
  show wpAny _ _ (field (.ref z) 3 >>= _) _ _ _
  refine wpAny_bind (wpAny_field Z0 rfl (x := .ref TI) rfl (wpAny_bind (wpAny_seqItems P0 rfl ?_)))
  show wpAny _ _ (Builtin.SmallTypes.ownedTupleIsFree (.ref z) >>= _) _ _ _
  refine wpAny_bind ?_
  unfold Builtin.SmallTypes.ownedTupleIsFree
  refine wpAny_bind (wpAny_field Z0 rfl (x := .none) rfl (wpAny_pure ?_))
  simp only [if_true]
  refine wpAny_bind (wpAny_rule (wpAny_bind (wpAny_field Z0 rfl (x := .ref TO) rfl (wpAny_bind (wpAny_setField_rec Z0 (by simp) fun g1 Z1 e1 => ?_)))))
  replace Z1 : IsZip g1 z TI TO .ellipsis := Z1
  refine wpAny_bind ?_
  simp only [List.zipIdx_cons, List.zipIdx_nil, List.forIn_cons, List.forIn_nil]
  refine wpAny_bind (wpAny_bind (wpAny_onRaise ?_))
  show wpAny _ _ (Builtin.SmallTypes.nextOf (.ref i1) >>= _) _ _ _
  refine wpAny_bind (nx_item (I0.kp (kp_but e1 D.i1z)) (hl1.kp (kp_but e1 D.l1z)) hx fun g2 I2 e2 n2 => wpAny_pure ?_)
  have O2 : IsPair g2 TO a b := e2 _ D.TOi1 _ (kp_but e1 D.TOz _ O0)
  refine wpAny_bind (wpAny_seqItems O2 rfl (wpAny_bind (wpAny_updateSeq_pair O2 fun g3 O3 e3 => ?_)))
  replace O3 : IsPair g3 TO x b := O3
  refine wpAny_bind (wpAny_letGo (wpAny_pure (wpAny_bind (wpAny_bind (wpAny_onRaise ?_)))))
  show wpAny _ _ (Builtin.SmallTypes.nextOf (.ref i2) >>= _) _ _ _
  have J3 : Itr b2 g3 i2 l2 k2 := J0.kp ((kp_but e1 D.i2z).tr ((e2 _ D.i12.symm).tr (kp_but e3 D.TOi2.symm)))
  have L3 : Sq b2 g3 l2 ys := hl2.kp ((kp_but e1 D.l2z).tr ((e2 _ D.l2i1).tr (kp_but e3 D.l2TO)))
  refine wpAny_bind (nx_item J3 L3 hy fun g4 J4 e4 n4 => wpAny_pure ?_)
  have O4 : IsPair g4 TO x b := e4 _ D.TOi2 _ O3
  refine wpAny_bind (wpAny_seqItems O4 rfl (wpAny_bind (wpAny_updateSeq_pair O4 fun g5 O5 e5 => ?_)))
  replace O5 : IsPair g5 TO x y := O5
  refine wpAny_bind (wpAny_letGo (wpAny_pure (wpAny_pure (wpAny_bind (wpAny_seqItems O5 rfl (wpAny_bind (wpAny_newTuple ?_)))))))
  have n5 : g5.objs.size = s.heap.objs.size := (e5.1.trans n4).trans ((e3.1.trans n2).trans e1.1)
  have Z5 : IsZip g5 z TI TO .ellipsis := kp_but e5 D.TOz.symm _ (e4 _ D.i2z.symm _ (kp_but e3 D.TOz.symm _ (e2 _ D.i1z.symm _ Z1)))
  have K5 : Rest z TO i1 i2 s.heap g5 := fun c o c1 c2 c3 c4 q => kp_but e5 c2 _ (e4 _ c4 _ (kp_but e3 c2 _ (e2 _ c3 _ (kp_but e1 c1 _ q))))
  have I5 : Itr b1 g5 i1 l1 (k1 + 1) := I2.kp ((kp_but e3 D.TOi1.symm).tr ((e4 _ D.i12).tr (kp_but e5 D.TOi1.symm)))
  have J5 : Itr b2 g5 i2 l2 (k2 + 1) := J4.kp (kp_but e5 D.TOi2.symm)
  show wpAny _ _ (Builtin.SmallTypes.ownedTupleHandOut (.ref z) (.ref g5.objs.size) >>= _) _ _ _
  refine wpAny_bind ?_
  unfold Builtin.SmallTypes.ownedTupleHandOut
  have Z6 : IsZip (g5.push { cls := .type "tuple", data := .seq #[x, y] }) z TI TO .ellipsis := Heap.get?_push_of_some _ Z5
  refine wpAny_bind (wpAny_setField_rec Z6 (by simp) fun g7 Z7 e7 => ?_)
  replace Z7 : IsZip g7 z TI TO (rawInt g5.objs.size) := Z7
  refine wpAny_setField_rec Z7 (by simp) fun g8 Z8 e8 => ?_
  replace Z8 : IsZip g8 z TI TO (rawInt g5.objs.size) := Z8
  have up : ∀ c, c ≠ z → Kp g5 g8 c := fun c n o q => kp_but e8 n _ (kp_but e7 n _ (Heap.get?_push_of_some _ q))
  have nz : g5.objs.size ≠ z := Nat.ne_of_gt (Heap.lt_size Z5)
  have T8 : IsPair g8 g5.objs.size x y := kp_but e8 nz _ (kp_but e7 nz _ (Heap.get?_push_size _ rfl))
  rw [n5] at Z8 T8
  refine wpAny_pure ⟨_, rfl, ?_⟩
  show Q (.ref g5.objs.size) _
  rw [n5]
  exact hQ g8 Z8 (up _ D.TOz _ O5) (I5.kp (up _ D.i1z)) (J5.kp (up _ D.i2z)) T8 fun c o c1 c2 c3 c4 q => up c c1 _ (K5 c o c1 c2 c3 c4 q)
theorem step_end {Q : Fin → Shared → Prop} (hh : A.handled = none) (D : ZipApart z TI TO i1 i2 l1 l2) (S : At b1 b2 z TI TO i1 i2 l1 l2 k1 k2 s.heap)
    (hl1 : Sq b1 s.heap l1 xs) (hl2 : Sq b2 s.heap l2 ys) (fin : xs[k1]? = none ∨ ys[k2]? = none)
    (hE : ∀ h' e, Rest z TO i1 i2 s.heap h' → (∃ o, h'.get? e = some o ∧ o.cls = .type "StopIteration") → E (.ref e) { s with heap := h' }) :
    wpAny (model prog w) A (Builtin.«zip.__next__» ⟨[.ref z], []⟩) Q E s := by
  obtain ⟨Z0, P0, ⟨a, b, O0⟩, I0, J0⟩ := S
  show wpAny _ _ (field (.ref z) 2 >>= _) _ _ _
  refine wpAny_bind (wpAny_field Z0 rfl (x := .bool false) rfl ?_)
  show wpAny _ _ (field (.ref z) 3 >>= _) _ _ _
  refine wpAny_bind (wpAny_field Z0 rfl (x := .ref TI) rfl (wpAny_bind (wpAny_seqItems P0 rfl ?_)))
  show wpAny _ _ (Builtin.SmallTypes.ownedTupleIsFree (.ref z) >>= _) _ _ _
  refine wpAny_bind ?_
  unfold Builtin.SmallTypes.ownedTupleIsFree
  refine wpAny_bind (wpAny_field Z0 rfl (x := .none) rfl (wpAny_pure ?_))
  simp only [if_true]
  refine wpAny_bind (wpAny_rule (wpAny_bind (wpAny_field Z0 rfl (x := .ref TO) rfl (wpAny_bind (wpAny_setField_rec Z0 (by simp) fun g1 Z1 e1 => ?_)))))
  replace Z1 : IsZip g1 z TI TO .ellipsis := Z1
  refine wpAny_bind ?_
  simp only [List.zipIdx_cons, List.zipIdx_nil, List.forIn_cons, List.forIn_nil]
  refine wpAny_bind (wpAny_bind (wpAny_onRaise ?_))
  show wpAny _ _ (Builtin.SmallTypes.nextOf (.ref i1) >>= _) _ _ _
  cases hx : xs[k1]? with
  | none =>
    refine wpAny_bind (nx_end hh (I0.kp (kp_but e1 D.i1z)) (hl1.kp (kp_but e1 D.l1z)) hx fun g2 e e2 ⟨oe, he, ce⟩ => ?_)
    have Z2 : IsZip g2 z TI TO .ellipsis := e2 _ D.i1z.symm _ Z1
    have ez : e ≠ z := fun q => by subst q; rw [Z2] at he; cases he; simp at ce
    exact wpAny_setField_rec Z2 (by simp) fun g3 _ e3 => hE g3 e (fun c o c1 _ c3 _ q => kp_but e3 c1 _ (e2 _ c3 _ (kp_but e1 c1 _ q))) ⟨oe, kp_but e3 ez _ he, ce⟩
  | some x =>
    have hy : ys[k2]? = none := fin.resolve_left fun q => by rw [hx] at q; cases q
    refine wpAny_bind (nx_item (I0.kp (kp_but e1 D.i1z)) (hl1.kp (kp_but e1 D.l1z)) hx fun g2 I2 e2 n2 => wpAny_pure ?_)
    have O2 : IsPair g2 TO a b := e2 _ D.TOi1 _ (kp_but e1 D.TOz _ O0)
    refine wpAny_bind (wpAny_seqItems O2 rfl (wpAny_bind (wpAny_updateSeq_pair O2 fun g3 O3 e3 => ?_)))
    refine wpAny_bind (wpAny_letGo (wpAny_pure (wpAny_bind (wpAny_bind (wpAny_onRaise ?_)))))
    show wpAny _ _ (Builtin.SmallTypes.nextOf (.ref i2) >>= _) _ _ _
    have J3 : Itr b2 g3 i2 l2 k2 := J0.kp ((kp_but e1 D.i2z).tr ((e2 _ D.i12.symm).tr (kp_but e3 D.TOi2.symm)))
    have L3 : Sq b2 g3 l2 ys := hl2.kp ((kp_but e1 D.l2z).tr ((e2 _ D.l2i1).tr (kp_but e3 D.l2TO)))
    refine wpAny_bind (nx_end hh J3 L3 hy fun g4 e e4 ⟨oe, he, ce⟩ => ?_)
    have Z4 : IsZip g4 z TI TO .ellipsis := e4 _ D.i2z.symm _ (kp_but e3 D.TOz.symm _ (e2 _ D.i1z.symm _ Z1))
    have ez : e ≠ z := fun q => by subst q; rw [Z4] at he; cases he; simp at ce
    exact wpAny_setField_rec Z4 (by simp) fun g5 _ e5 => hE g5 e (fun c o c1 c2 c3 c4 q => kp_but e5 c1 _ (e4 _ c4 _ (kp_but e3 c2 _ (e2 _ c3 _ (kp_but e1 c1 _ q))))) ⟨oe, kp_but e5 ez _ he, ce⟩
theorem next_item {x y : Value} {Q : Option Value → Shared → Prop} (D : ZipApart z TI TO i1 i2 l1 l2) (S : At b1 b2 z TI TO i1 i2 l1 l2 k1 k2 s.heap)
    (hl1 : Sq b1 s.heap l1 xs) (hl2 : Sq b2 s.heap l2 ys) (hx : xs[k1]? = some x) (hy : ys[k2]? = some y)
    (hQ : ∀ h', IsZip h' z TI TO (rawInt s.heap.objs.size) → IsPair h' TO x y → Itr b1 h' i1 l1 (k1 + 1) → Itr b2 h' i2 l2 (k2 + 1) → IsPair h' s.heap.objs.size x y → Rest z TO i1 i2 s.heap h' → Q (some (.ref s.heap.objs.size)) { s with heap := h' }) :
    wpAny (model prog w) A (pyNext (.ref z)) Q E s := by
  have t : s.TypeIs (.ref z) "zip" := ⟨_, S.z, rfl⟩
  unfold pyNext
  refine wpAny_bind (wpAny_attempt (wpAny_callSpecial?_slot (name := Str.ofString "__next__") t F.slot_zip_next ?_))
  exact wpAny_call_entry F.slot_zip_next t F.entry_zip_next (step_item D S hl1 hl2 hx hy fun h' a1 a2 a3 a4 a5 a6 => wpAny_pure (hQ h' a1 a2 a3 a4 a5 a6)) (F.args_zip_next_1 _)
theorem next_end {Q : Option Value → Shared → Prop} (hh : A.handled = none) (D : ZipApart z TI TO i1 i2 l1 l2) (S : At b1 b2 z TI TO i1 i2 l1 l2 k1 k2 s.heap)
    (hl1 : Sq b1 s.heap l1 xs) (hl2 : Sq b2 s.heap l2 ys) (fin : xs[k1]? = none ∨ ys[k2]? = none) (hQ : ∀ h', Rest z TO i1 i2 s.heap h' → Q none { s with heap := h' }) :
    wpAny (model prog w) A (pyNext (.ref z)) Q E s := by
  have t : s.TypeIs (.ref z) "zip" := ⟨_, S.z, rfl⟩
  unfold pyNext
  refine wpAny_bind (wpAny_attempt (wpAny_callSpecial?_slot (name := Str.ofString "__next__") t F.slot_zip_next ?_))
  refine wpAny_call_entry F.slot_zip_next t F.entry_zip_next (step_end hh D S hl1 hl2 fin fun h' e hk ⟨o, ho, hc⟩ => ?_) (F.args_zip_next_1 _)
  exact wpAny_bind (wpAny_isInstance (T := "StopIteration") (b := true) ⟨o, ho, hc⟩ isSubtype_stop (wpAny_pure (hQ _ hk)))
end
/-! the new object -/
def itO (b : Bool) (l : Addr) : Obj := { cls := .type (if b then "tuple_iterator" else "list_iterator"), data := .fields #[.ref l, .int 0 0] }
def zH (b1 b2 : Bool) (h : Heap) (l1 l2 : Addr) : Heap :=
  ((((h.push (itO b1 l1)).push (itO b2 l2)).push { cls := .type "tuple", data := .seq #[.ref h.objs.size, .ref (h.push (itO b1 l1)).objs.size] }).push
    { cls := .type "tuple", data := .seq #[.none, .none] }).push
    { cls := .type "zip", data := .fields #[.none, .bool false, .bool false, .ref ((h.push (itO b1 l1)).push (itO b2 l2)).objs.size,
        .ref (((h.push (itO b1 l1)).push (itO b2 l2)).push { cls := .type "tuple", data := .seq #[.ref h.objs.size, .ref (h.push (itO b1 l1)).objs.size] }).objs.size] }
def zA (b1 b2 : Bool) (h : Heap) (l1 l2 : Addr) : Addr :=
  ((((h.push (itO b1 l1)).push (itO b2 l2)).push { cls := .type "tuple", data := .seq #[.ref h.objs.size, .ref (h.push (itO b1 l1)).objs.size] }).push { cls := .type "tuple", data := .seq #[.none, .none] }).objs.size
theorem zA_eq (b1 b2 : Bool) (h : Heap) (l1 l2 : Addr) : zA b1 b2 h l1 l2 = h.objs.size + 4 := by unfold zA; simp only [Heap.size_push]
theorem Sq.push {b : Bool} {h : Heap} {l : Addr} {xs : Array Value} (x : Sq b h l xs) (o : Obj) : Sq b (h.push o) l xs := x.kp fun _ e => Heap.get?_push_of_some _ e
theorem meets_new (b1 b2 : Bool) (l1 l2 : Addr) (xs ys : Array Value) :
    Meets (Builtin.«zip.__new__» ⟨[.type "zip", .ref l1, .ref l2], []⟩) (fun _ R s => Sq b1 s.heap l1 xs ∧ Sq b2 s.heap l2 ys ∧ R (.ok (.ret (.ref (zA b1 b2 s.heap l1 l2)))) { s with heap := zH b1 b2 s.heap l1 l2 }) :=
  .of_wp fun prog w A R s h => by
    obtain ⟨hp, g, d, tk, os⟩ := s
    obtain ⟨q1, q2, h⟩ := h
    have sub := sub_zip
    have p1 : Sq b1 (Shared.heap ⟨hp, g, d, tk, os⟩) l1 xs := q1
    have p2 : Sq b2 (Shared.heap ⟨hp.push { cls := .type (if b1 then "tuple_iterator" else "list_iterator"), data := .fields #[.ref l1, .int 0 0] }, g, d, tk, os⟩) l2 ys := Sq.push q2 _
    wp_walk using it_new p1, it_new p2
    exact ⟨_, rfl, h⟩
theorem call_zip {prog : Program} {w : World} {A : Around} {E : Value → Shared → Prop} {s : Shared} {b1 b2 : Bool} {l1 l2 : Addr} {xs ys : Array Value} {Q : Value → Shared → Prop} (q1 : Sq b1 s.heap l1 xs) (q2 : Sq b2 s.heap l2 ys)
    (h : ∀ h', At b1 b2 (s.heap.objs.size + 4) (s.heap.objs.size + 2) (s.heap.objs.size + 3) s.heap.objs.size (s.heap.objs.size + 1) l1 l2 0 0 h' → (∀ c o, s.heap.get? c = some o → h'.get? c = some o) → Q (.ref (s.heap.objs.size + 4)) { s with heap := h' }) :
    wpAny (model prog w) A (call (.type "zip") [.ref l1, .ref l2]) Q E s := by
  refine callType_new F.called_zip (by decide) (F.typeCall_zip_2 _ _) (F.newCall_zip_2 _ _) (fun obj => F.args_object_init_3 obj _ _) F.entry_zip_new (meets_new b1 b2 l1 l2 xs ys) ⟨q1, q2, ?_⟩
  have g5 : (zH b1 b2 s.heap l1 l2).get? (zA b1 b2 s.heap l1 l2) = some _ := Heap.get?_push_size _ rfl
  have g4 : (zH b1 b2 s.heap l1 l2).get? _ = some _ := Heap.get?_push_of_some _ (Heap.get?_push_size _ rfl)
  have g3 : (zH b1 b2 s.heap l1 l2).get? _ = some _ := Heap.get?_push_of_some _ (Heap.get?_push_of_some _ (Heap.get?_push_size _ rfl))
  have g2 : (zH b1 b2 s.heap l1 l2).get? _ = some _ := Heap.get?_push_of_some _ (Heap.get?_push_of_some _ (Heap.get?_push_of_some _ (Heap.get?_push_size (o := itO b2 l2) _ rfl)))
  have g1 : (zH b1 b2 s.heap l1 l2).get? _ = some _ := Heap.get?_push_of_some _ (Heap.get?_push_of_some _ (Heap.get?_push_of_some _ (Heap.get?_push_of_some _ (Heap.get?_push_size (o := itO b1 l1) _ rfl))))
  simp only [Heap.size_push] at g1 g2 g3 g4 g5
  rw [zA_eq] at g5
  show _ ∧ _
  rw [zA_eq]
  refine ⟨⟨_, g5, rfl⟩, h _ ⟨g5, g3, ⟨_, _, g4⟩, ?_, ?_⟩ fun c o x => ?_⟩
  · cases b1
    · exact ⟨_, g1, rfl, rfl⟩
    · exact ⟨_, g1, rfl, rfl⟩
  · cases b2
    · exact ⟨_, g2, rfl, rfl⟩
    · exact ⟨_, g2, rfl, rfl⟩
  · exact Heap.get?_push_of_some _ (Heap.get?_push_of_some _ (Heap.get?_push_of_some _ (Heap.get?_push_of_some _ (Heap.get?_push_of_some _ x))))
end ZM
namespace ZM
open PySem PySem.Spec PyProof.Rows L2
/-- a sequence that stands: a list or a tuple -/
def SqX : Bool → PySem.W.Frag → Hp → Addr → List V → Prop
  | false, K, H, a, xs => SqL K H a xs
  | true, K, H, a, xs => SqT K H a xs
theorem SqX.is {b : Bool} {X : Cx} {pins : List (Addr × Obj)} {σ : L2.St} {H : Hp} {s : Shared} {a : Addr} {xs : List V} (I : Inv X pins σ H s) (h : SqX b X.K H a xs) : ∃ its : List Value, Vals xs its ∧ Sq b s.heap a its.toArray := by
  cases b with
  | false => obtain ⟨its, r, p, _⟩ := I.list h; exact ⟨its, r, p.isList⟩
  | true => obtain ⟨its, r, p, _⟩ := I.tuple h; exact ⟨its, r, p⟩
theorem SqX.inj {b : Bool} {X : Cx} {pins : List (Addr × Obj)} {σ : L2.St} {H : Hp} {s : Shared} {a : Addr} {xs ys : List V} (I : Inv X pins σ H s) (h : SqX b X.K H a xs) (h' : SqX b X.K H a ys) : xs = ys := by
  cases b with
  | false => exact I.list_inj h h'
  | true => exact I.tuple_inj h h'
theorem Sq.lt {b : Bool} {h : Heap} {l : Addr} {xs : Array Value} (x : Sq b h l xs) : l < h.objs.size := match b, x with
  | false, ⟨_, e, _⟩ => Heap.lt_size e
  | true, ⟨_, e, _⟩ => Heap.lt_size e
/-- what a zip yields -/
def ItX (b1 b2 : Bool) (K : PySem.W.Frag) (a b : Addr) : L2.It :=
  ⟨fun i H => ∃ (xs ys : List V) (x y : V), (SqX b1 K H a xs ∧ xs[i]? = some x) ∧ SqX b2 K H b ys ∧ ys[i]? = some y,
    fun i H v H' => ∃ T x y, v = .ref T ∧ H T = none ∧ H' = upd H T (.tup [x, y]) ∧ (∀ xs, SqX b1 K H a xs → xs[i]? = some x) ∧ ∀ ys, SqX b2 K H b ys → ys[i]? = some y,
    fun i H => ∃ xs ys : List V, (SqX b1 K H a xs ∧ SqX b2 K H b ys) ∧ (xs.length ≤ i ∨ ys.length ≤ i)⟩
theorem five {z TI TO i1 i2 c : Addr} {p : Addr → Prop} (hc : c ∈ [z, TI, TO, i1, i2]) (h1 : p z) (h2 : p TI) (h3 : p TO) (h4 : p i1) (h5 : p i2) : p c := by
  simp only [List.mem_cons, List.not_mem_nil, or_false] at hc
  rcases hc with rfl | rfl | rfl | rfl | rfl <;> assumption
theorem turnX {b1 b2 : Bool} {P : Program} {w : World} {K : PySem.W.Frag} {es : List Expr} {kk : Nat} {tp : Pos} {a b z TI TO i1 i2 : Addr} (D : ZipApart z TI TO i1 i2 a b) :
    Turn P w K (.Tuple es kk tp) (ItX b1 b2 K a b) [z, TI, TO, i1, i2] z (fun i h => At b1 b2 z TI TO i1 i2 a b i i h) where
  mem := List.mem_cons_self ..
  obj := fun i h S c hc => five (p := fun c => ∃ o, h.get? c = some o ∧ ∀ v, o.data ≠ .cell v) hc ⟨_, S.z, fun v q => nomatch q⟩ ⟨_, S.ti, fun v q => nomatch q⟩ (let ⟨_, _, q⟩ := S.to_; ⟨_, q, fun v q => nomatch q⟩) S.i1.obj S.i2.obj
  keep := fun i h h' S k => ⟨k z (by simp) _ S.z, k TI (by simp) _ S.ti, let ⟨x, y, q⟩ := S.to_; ⟨x, y, k TO (by simp) _ q⟩, S.i1.kp fun o q => k i1 (by simp) o q, S.i2.kp fun o q => k i2 (by simp) o q⟩
  item := by
    intro X hP hw hK hc i pins s σ H E I hf S hg
    subst hP hw hK
    obtain ⟨xs, ys, x, y, ⟨qx, hx⟩, qy, hy⟩ := hg
    obtain ⟨us, ru, pu⟩ := qx.is I
    obtain ⟨vs, rv, pv⟩ := qy.is I
    obtain ⟨u, hu, rx⟩ := ru.get hx
    obtain ⟨v, hv, ry⟩ := rv.get hy
    have zl : z < s.heap.objs.size := Heap.lt_size S.z
    have nz : s.heap.objs.size ≠ z := Nat.ne_of_gt zl
    refine next_item D S pu pv (x := u) (y := v) (by simpa using hu) (by simpa using hv) fun g Zg Og Ig Jg Tg rest => ?_
    refine ⟨_, rfl, wpAny_letOwnedTupleGo_zip (s := { s with heap := g }) Zg fun g2 Z2 sb => ?_⟩
    have T2 : g2.get? s.heap.objs.size = some { cls := .type "tuple", data := .seq #[u, v] } := (sb.2 _ nz).trans Tg
    have new : ObjOk X.prog X.w (upd H s.heap.objs.size (.tup [x, y])) g2 s.heap.objs.size (.tup [x, y]) := ⟨(by decide : 2 ≤ sizeLine), [u, v], .cons rx (.cons ry .nil), ⟨_, T2, rfl, _, rfl⟩⟩
    have out : ∀ c o, ¬ c ∈ [z, TI, TO, i1, i2] → s.heap.get? c = some o → g2.get? c = some o := fun c o n q => by
      simp only [List.mem_cons, List.not_mem_nil, or_false, not_or] at n
      exact (sb.2 c n.1).trans (rest c o n.1 n.2.2.1 n.2.2.2.1 n.2.2.2.2 q)
    have I1 : Inv X pins σ (upd H s.heap.objs.size (.tup [x, y])) { s with heap := g2 } := I.turnedNew (t' := s.toks) (ch := [z, TI, TO, i1, i2]) out hf (Nat.le_refl _) new
    refine ⟨.ref s.heap.objs.size, _, I1, rfl, ⟨_, x, y, rfl, I.hok.fresh (Nat.le_refl _), rfl, fun l hl => by rw [SqX.inj I hl qx]; exact hx, fun l hl => by rw [SqX.inj I hl qy]; exact hy⟩, ⟨Z2, ?_, ⟨u, v, ?_⟩, ?_, ?_⟩, fun c hcm => ?_⟩
    · exact (sb.2 _ D.TIz).trans (rest _ _ D.TIz D.TITO D.TIi1 D.TIi2 S.ti)
    · exact (sb.2 _ D.TOz).trans Og
    · exact Ig.kp fun o q => (sb.2 _ D.i1z).trans q
    · exact Jg.kp fun o q => (sb.2 _ D.i2z).trans q
    · have lt : c < s.heap.objs.size := five (p := fun c => c < s.heap.objs.size) hcm zl (Heap.lt_size S.ti) (let ⟨_, _, q⟩ := S.to_; Heap.lt_size q) S.i1.lt S.i2.lt
      rw [upd_ne (Nat.ne_of_lt lt)]
      exact (hf c hcm).1
  done := by
    intro X hP hw hK hc i pins s σ H E I hf S hg
    subst hP hw hK
    obtain ⟨xs, ys, ⟨qx, qy⟩, fin⟩ := hg
    obtain ⟨us, ru, pu⟩ := qx.is I
    obtain ⟨vs, rv, pv⟩ := qy.is I
    have l1 := ru.length
    have l2 := rv.length
    have he : us.toArray[i]? = none ∨ vs.toArray[i]? = none := fin.imp (fun q => by simp; omega) fun q => by simp; omega
    exact next_end (I.ok.hd hc) D S pu pv he fun g rest => ⟨rfl, I.turnedL (t' := s.toks) (ch := [z, TI, TO, i1, i2]) (fun c o n q => by
      simp only [List.mem_cons, List.not_mem_nil, or_false, not_or] at n
      exact rest c o n.1 n.2.2.1 n.2.2.2.1 n.2.2.2.2 q) hf⟩
  self := fun A i s Q E S h => wpAny_pyIter_zip S.z h
def iZipX (K : PySem.W.Frag) (ta : TA) : TI := fun σ H R => ta σ H fun vs H1 => ∃ b1 b2 a b xs ys, vs = [.ref a, .ref b] ∧ SqX b1 K H1 a xs ∧ SqX b2 K H1 b ys ∧ R (ItX b1 b2 K a b) H1
theorem pi_zipX {X : Cx} {e e2 : Expr} {ta : TA} {p pos tpos : Pos} {es : List Expr} {kk : Nat} (hg : Gl X "zip") (hm : X.mg "zip" = none) (ha : PA X [e, e2] ta)
    (hs : starEach [e, e2] X.env = (false, eval e X.env) :: starEach [e2] X.env) (hp : (backTo pos (starEach [e2] X.env)).any (·.1) = false) : PI X (.Tuple es kk tpos) (.Call (.Name "zip" p) [e, e2] [] pos) (iZipX X.K ta) := by
  refine ⟨fun pins s σ H R I h => Call_ (ld_blt I hg hm PyProof.Rows.boot_zip (PyProof.Rows.callWith_type1 (thn (ha.run pos pins s σ H _ I h) fun us s1 ⟨vs, H1, I1, r1, q1⟩ => ?_) hs hp))⟩
  obtain ⟨b1, b2, a, b, xs, ys, rfl, qx, qy, q⟩ := q1
  cases r1 with
  | cons r rr => cases rr with
    | cons r' rr =>
      cases rr
      cases r
      cases r'
      obtain ⟨us, _, p1⟩ := qx.is I1
      obtain ⟨vs, _, p2⟩ := qy.is I1
      have ge : ∀ c, s1.heap.objs.size ≤ c → FpOk X pins H1 c := fun c l => I1.fpOk l (I1.hok.fresh l)
      refine call_zip p1 p2 fun g S hk => wpAny_pyIter_zip S.z ?_
      exact ⟨_, [s1.heap.objs.size + 4, s1.heap.objs.size + 2, s1.heap.objs.size + 3, s1.heap.objs.size, s1.heap.objs.size + 1], _, _, H1, rfl, I1.kept (t' := s1.toks) hk, turnX (PySem.W.ktu_apart s1.heap.objs.size a b p1.lt p2.lt), S,
        fun c hc => five (p := FpOk X pins H1) hc (ge _ (Nat.le_add_right _ _)) (ge _ (Nat.le_add_right _ _)) (ge _ (Nat.le_add_right _ _)) (ge _ (Nat.le_refl _)) (ge _ (Nat.le_add_right _ _)), q⟩
theorem walkX {b1 b2 : Bool} {K : PySem.W.Frag} {a b : Addr} {xs ys : List V} {n : Nat} (hn : n = min xs.length ys.length) : Walk (ItX b1 b2 K a b) n (fun H => SqX b1 K H a xs ∧ SqX b2 K H b ys) (YPair (fun i => xs[i]?) (fun i => ys[i]?)) := by
  subst hn
  refine ⟨fun i _ hi q => ⟨xs, ys, xs[i]'(by omega), ys[i]'(by omega), ⟨q.1, by simp⟩, q.2, by simp⟩, fun _ q => ⟨xs, ys, q, by omega⟩, fun i H v H' _ q y => ?_⟩
  obtain ⟨T, x, u, h1, h2, h3, h4, h5⟩ := y
  exact ⟨T, x, u, h1, h2, h3, h4 xs q.1, h5 ys q.2⟩
end ZM

set_option linter.all false
set_option autoImplicit false
set_option maxRecDepth 20000
/-! Walks. -/
namespace Z
open PySem PySem.Spec PyProof.Rows L2
/-- what a walk over ds gives, from the world w and the frame Fr on -/
structure Wlk (X : Cx) (w : Wd) (Fr : Hp) (J : L2.It) (ds : List D) : Prop where
  go : ∀ i κ w' Fr' σ H s, i < ds.length → w.le w' → (∀ a o, Fr a = some o → Fr' a = some o) → Here X.K X.mg κ w' Fr' σ H s → J.go i H
  stop : ∀ κ w' Fr' σ H s, w.le w' → (∀ a o, Fr a = some o → Fr' a = some o) → Here X.K X.mg κ w' Fr' σ H s → J.stop ds.length H
  yld : ∀ i d κ w' Fr' σ H s x H', ds[i]? = some d → w.le w' → (∀ a o, Fr a = some o → Fr' a = some o) → Here X.K X.mg κ w' Fr' σ H s → J.yld i H x H' →
    ∃ κ2 w2, w'.le w2 ∧ Here X.K X.mg κ2 w2 Fr' σ H' s ∧ Rep X.K X.mg w2 d x
def noF : Hp := fun _ => none
section
variable {X : Cx} {W : WX} {w : Wd} {Fr : Hp} {J : L2.It} {ds : List D}
theorem Wlk.frame {Fr' : Hp} (h : Wlk X w Fr J ds) (k : ∀ a o, Fr a = some o → Fr' a = some o) : Wlk X w Fr' J ds :=
  ⟨fun i κ w' F2 σ H s hi l f => h.go i κ w' F2 σ H s hi l fun a o e => f a o (k a o e), fun κ w' F2 σ H s l f => h.stop κ w' F2 σ H s l fun a o e => f a o (k a o e),
    fun i d κ w' F2 σ H s x H' e l f => h.yld i d κ w' F2 σ H s x H' e l fun a o e => f a o (k a o e)⟩
/-- items that stand already -/
theorem Wlk.of {G : Hp → Prop} {xs : List V} (wk : Walk J ds.length G (YAt xs)) (g : ∀ κ w' Fr' σ H s, w.le w' → (∀ a o, Fr a = some o → Fr' a = some o) → Here X.K X.mg κ w' Fr' σ H s → G H) (r : Reps X.K X.mg w ds xs) : Wlk X w Fr J ds := by
  refine ⟨fun i κ w' F2 σ H s hi l f hh => wk.goes i H hi (g _ _ _ _ _ _ l f hh), fun κ w' F2 σ H s l f hh => wk.stops H (g _ _ _ _ _ _ l f hh), fun i d κ w' F2 σ H s x H' e l f hh y => ?_⟩
  obtain ⟨e1, e2⟩ := wk.yields i H x H' (List.getElem?_eq_some_iff.mp e).1 (g _ _ _ _ _ _ l f hh) y
  subst e1
  obtain ⟨v, e3, rv⟩ := r.get e
  rw [e2] at e3; cases e3
  exact ⟨κ, w', .rfl, hh, Rep.mono l _ _ rv⟩
/-- items that need no heap -/
theorem Wlk.fn {G : Hp → Prop} {f : Nat → V} (wk : Walk J ds.length G (YFn f)) (g : ∀ H, G H) (r : ∀ i d, ds[i]? = some d → ∀ w, Rep X.K X.mg w d (f i)) : Wlk X w Fr J ds := by
  refine ⟨fun i κ w' F2 σ H s hi l k hh => wk.goes i H hi (g H), fun κ w' F2 σ H s l k hh => wk.stops H (g H), fun i d κ w' F2 σ H s x H' e l k hh y => ?_⟩
  obtain ⟨e1, e2⟩ := wk.yields i H x H' (List.getElem?_eq_some_iff.mp e).1 (g H) y
  subst e1; subst e2
  exact ⟨κ, w', .rfl, hh, r i d e w'⟩
/-- new pairs -/
theorem Wlk.pair {G : Hp → Prop} {xs ys : Nat → Option V} (wk : Walk J ds.length G (YPair xs ys)) (g : ∀ κ w' Fr' σ H s, w.le w' → (∀ a o, Fr a = some o → Fr' a = some o) → Here X.K X.mg κ w' Fr' σ H s → G H)
    (r : ∀ i d x y, ds[i]? = some d → xs i = some x → ys i = some y → ∃ a b, d = .tup [a, b] ∧ Rep X.K X.mg w a x ∧ Rep X.K X.mg w b y) : Wlk X w Fr J ds := by
  refine ⟨fun i κ w' F2 σ H s hi l f hh => wk.goes i H hi (g _ _ _ _ _ _ l f hh), fun κ w' F2 σ H s l f hh => wk.stops H (g _ _ _ _ _ _ l f hh), fun i d κ w' F2 σ H s x H' e l f hh y => ?_⟩
  obtain ⟨p, u, v, e1, e2, e3, e4, e5⟩ := wk.yields i H x H' (List.getElem?_eq_some_iff.mp e).1 (g _ _ _ _ _ _ l f hh) y
  obtain ⟨a, b, rfl, ra, rb⟩ := r i d u v e e4 e5
  subst e1; subst e3
  have le := Wd.add_le (w := w') (o := .tup [u, v]) (hh.g.noF e2)
  exact ⟨_, _, le, hh.add e2, p, [u, v], rfl, .of upd_same, u, [v], rfl, Rep.mono (l.trans le) _ _ ra, v, [], rfl, Rep.mono (l.trans le) _ _ rb, rfl⟩
def PostI (X : Cx) (E : WX) (w : Wd) (Fr : Hp) (σ : L2.St) (fr : (Addr → Role) → Hp → Hp) (R : L2.It → Hp → Prop) : Out (List D) → Prop
  | .ok ds s => ∀ κ' w' H' J, w.le w' → Here X.K X.mg κ' w' Fr σ H' s → Wlk X w' (fr κ' H') J ds → R J H'
  | .ex x s => ∀ κ' w' H' C dx, w.le w' → Here X.K X.mg κ' w' Fr σ H' s → ExOk X.K X.mg w' x C dx → E C dx σ H'
  | .no => False
/-- as a loop wants it -/
def rdi (X : Cx) (W : WX) (f : S → Out (List D)) : TI := fun σ H R => ∃ κ w Fr s, Here X.K X.mg κ w Fr σ H s ∧ PostI X W w Fr σ (fun _ _ => noF) R (f s)
/-- as a comprehension wants it -/
def rdc (X : Cx) (W : WX) (f : S → Out (List D)) : TI := fun σ H R => ∃ κ w Fr s, Here X.K X.mg κ w Fr σ H s ∧ PostI X W w Fr σ (fun κ H => lockF κ Fr H) R (f s)
theorem rdc_rdi {f : S → Out (List D)} {σ : L2.St} {H : Hp} {R : L2.It → Hp → Prop} (h : rdc X W f σ H R) : rdi X W f σ H R := by
  obtain ⟨κ, w, Fr, s, hh, p⟩ := h
  refine ⟨κ, w, Fr, s, hh, ?_⟩
  revert p
  cases f s with
  | ok ds s1 => exact fun p κ' w' H' J l h1 wk => p κ' w' H' J l h1 (wk.frame fun a o e => by cases e)
  | ex x s1 => exact fun p => p
  | no => exact fun p => p
theorem PI.weak {tg iter : Expr} {t t' : TI} (h : PI X tg iter t) (k : ∀ σ H R, t' σ H R → t σ H R) : PI X tg iter t' := ⟨fun pins s σ H R I q => h.run pins s σ H R I (k σ H R q)⟩
end
section
variable {T : Txt} {k : Nat} {X : Cx} {W : WX} {pos : Pos} {tg : Expr}
theorem str_items (z : Str) (i : Nat) (d : D) (e : (z.cps.toList.map fun c => D.str ⟨#[c]⟩)[i]? = some d) : ∃ c, z.cps[i]? = some c ∧ d = .str ⟨#[c]⟩ := by
  rw [List.getElem?_map] at e
  obtain ⟨c, e1, e2⟩ := of_map e
  exact ⟨c, by simpa using e1, e2.symm⟩
theorem w_seq {e : E} {x : Expr} (he : PE X x (rd X W (ev (pr T k) e))) : PI X tg x (rdi X W (evi (pr T k) (.seq e))) := by
  refine ⟨fun pins s0 σ H R I h => ?_⟩
  obtain ⟨κ, w, Fr, s, hh, p⟩ := h
  unfold evi at p
  cases q : ev (pr T k) e s with
  | no => rw [q] at p; exact p.elim
  | ex y s1 =>
    rw [q] at p
    refine (pi_list he).run pins s0 σ H R I ⟨κ, w, Fr, s, hh, ?_⟩
    rw [q]; exact p
  | ok d s1 =>
    rw [q] at p
    cases d with
    | tup ds =>
      refine (pi_tup he).run pins s0 σ H R I ⟨κ, w, Fr, s, hh, ?_⟩
      rw [q]
      intro v κ1 w1 H1 l1 h1 r1
      obtain ⟨a, xs, rfl, e1, e2⟩ := r1
      refine ⟨a, rfl, ⟨xs, SqT.mono h1.fz e1⟩, p κ1 w1 H1 _ l1 h1 (Wlk.of (by rw [← e2.length]; exact walk_tup) (fun _ w' _ _ H _ l f hh => SqT.mono (fun b o q => hh.fz _ _ (l.F _ _ q)) e1) e2)⟩
    | lst ds =>
      refine (pi_list he).run pins s0 σ H R I ⟨κ, w, Fr, s, hh, ?_⟩
      rw [q]
      intro v κ1 w1 H1 l1 h1 r1
      obtain ⟨a, xs, rfl, e1, e2⟩ := r1
      refine ⟨a, rfl, ⟨xs, .of (h1.fz _ _ e1)⟩, p κ1 w1 H1 _ l1 h1 (Wlk.of (by rw [← e2.length]; exact walk_list) (fun _ w' _ _ H _ l f hh => L2.SqL.of (hh.fz _ _ (l.F _ _ e1))) e2)⟩
    | scr is =>
      refine (pi_list he).run pins s0 σ H R I ⟨κ, w, Fr, s, hh, ?_⟩
      rw [q]
      intro v κ1 w1 H1 l1 h1 r1
      obtain ⟨a, rfl, e1⟩ := r1
      refine ⟨a, rfl, ⟨_, SqL.mono h1.fz e1⟩, p κ1 w1 H1 _ l1 h1 (Wlk.of (xs := is.map V.int) (by simpa using walk_list (K := X.K) (a := a) (xs := is.map V.int)) (fun _ w' _ _ H _ l f hh => SqL.mono (fun b o q => hh.fz _ _ (l.F _ _ q)) e1) (.ofInts is))⟩
    | str z =>
      refine (pi_str he).run pins s0 σ H R I ⟨κ, w, Fr, s, hh, ?_⟩
      rw [q]
      intro v κ1 w1 H1 l1 h1 r1
      cases r1
      have hl : (z.cps.toList.map fun c => D.str ⟨#[c]⟩).length = z.cps.size := by simp
      refine ⟨z, rfl, p κ1 w1 H1 _ l1 h1 ⟨fun i _ _ _ _ H _ hi _ _ _ => ?_, fun _ _ _ _ H _ _ _ _ => ?_, fun i d κ w' _ _ H _ x H' e l f hh y => ?_⟩⟩
      · exact walk_str.goes i H (by rw [← hl]; exact hi) trivial
      · rw [hl]; exact walk_str.stops H trivial
      · have hi : i < z.cps.size := by rw [← hl]; exact (List.getElem?_eq_some_iff.mp e).1
        obtain ⟨e1, c, e2, e3⟩ := walk_str.yields i H x H' hi trivial y
        obtain ⟨c', e4, e5⟩ := str_items z i d e
        rw [e2] at e4; cases e4
        subst e1; subst e3; subst e5
        exact ⟨κ, w', .rfl, hh, rfl⟩
    | _ => exact p.elim
theorem rangeD_len (i j : Int) : (rangeD i j).length = (j - i).toNat := by simp [rangeD]
theorem rangeD_get (i j : Int) (n : Nat) (d : D) (e : (rangeD i j)[n]? = some d) : d = .int (i + n) := by
  unfold rangeD at e
  rw [List.getElem?_map] at e
  obtain ⟨a, e1, e2⟩ := of_map e
  obtain ⟨h1, h2⟩ := List.getElem?_eq_some_iff.mp e1
  rw [List.getElem_range] at h2
  subst h2; exact e2.symm
theorem w_rngs {w : Wd} {Fr : Hp} (i j : Int) : Wlk X w Fr (Itr i (j - i).toNat) (rangeD i j) := by
  refine Wlk.fn (f := fun n => .int (i + n)) (G := fun _ => True) (by rw [rangeD_len]; exact walk_range) (fun _ => trivial) fun n d e w => ?_
  rw [rangeD_get i j n d e]; rfl
theorem szRng_of {i : Int} (h : szRng i = true) : -(2 ^ 62) ≤ i ∧ i < 2 ^ 62 := by
  unfold szRng at h
  simpa using h
theorem star1 {x : Expr} (hx : shp x = true) : starEach [x] X.env = [(false, eval x X.env)] := star_ne hx
/-- behind one part -/
theorem fromI {f : S → Out D} {h : D → S → Out (List D)} {fr : (Addr → Role) → Hp → Hp} {κ : Addr → Role} {w : Wd} {Fr : Hp} {σ : L2.St} {H : Hp} {s : S} {Q : L2.It → Hp → Prop} {R : VK} (hh : Here X.K X.mg κ w Fr σ H s) (p : PostI X W w Fr σ fr Q ((f s).bind h))
    (kk : ∀ v κ1 w1 H1 s1 d, w.le w1 → Here X.K X.mg κ1 w1 Fr σ H1 s1 → Rep X.K X.mg w1 d v → PostI X W w1 Fr σ fr Q (h d s1) → R v H1) : rd X W f σ H R := by
  refine ⟨κ, w, Fr, s, hh, ?_⟩
  revert p
  cases f s with
  | ok d s1 =>
    intro p v κ1 w1 H1 l1 h1 r1
    refine kk v κ1 w1 H1 s1 d l1 h1 r1 ?_
    have p : PostI X W w Fr σ fr Q (h d s1) := p
    revert p
    cases h d s1 with
    | ok ds s2 => exact fun p κ2 w2 H2 J l2 => p κ2 w2 H2 J (l1.trans l2)
    | ex x s2 => exact fun p κ2 w2 H2 C dx l2 => p κ2 w2 H2 C dx (l1.trans l2)
    | no => exact fun p => p
  | ex x s1 => exact fun p => p
  | no => exact fun p => p
theorem w_rng {e : E} {x : Expr} {f : Str} {p2 : Pos} (C : Ctx T k X W) (hf : nameIs X.env.scope "range" f = true) (hx : shp x = true) (he : PE X x (rd X W (ev (pr T k) e))) : PI X tg (.Call (.Name f p2) [x] [] pos) (rdi X W (evi (pr T k) (.rng e))) := by
  obtain ⟨rfl, h2, h3⟩ := nameIs_of hf
  refine PI.weak (pi_range1 (gl_of h2) (C.bt "range" (by simp [bNames])) (pa_cons he pa_nil (star_ne hx)) (star1 hx)) fun σ H R ⟨κ, w, Fr, s, hh, p⟩ => ?_
  unfold evi at p
  refine fromI hh p fun v κ1 w1 H1 s1 d l1 h1 r1 p1 => ?_
  split at p1
  · rename_i n
    split at p1
    · rename_i hz
      cases r1
      obtain ⟨z1, z2⟩ := szRng_of hz
      refine ⟨n, rfl, z1, z2, p1 κ1 w1 H1 _ .rfl h1 ?_⟩
      have := w_rngs (X := X) (w := w1) (Fr := noF) 0 n
      rw [show (n - 0) = n by omega] at this
      exact this
    · exact p1.elim
  · exact p1.elim
theorem w_rng2 {a b : E} {x y : Expr} {f : Str} {p2 : Pos} (C : Ctx T k X W) (hf : nameIs X.env.scope "range" f = true) (hx : shp x = true) (hy : shp y = true) (ha : PE X x (rd X W (ev (pr T k) a))) (hb : PE X y (rd X W (ev (pr T k) b))) :
    PI X tg (.Call (.Name f p2) [x, y] [] pos) (rdi X W (evi (pr T k) (.rng2 a b))) := by
  obtain ⟨rfl, h2, h3⟩ := nameIs_of hf
  have s2 : starEach [x, y] X.env = [(false, eval x X.env), (false, eval y X.env)] := by rw [star_ne hx, star1 hy]
  refine PI.weak (pi_range2 (gl_of h2) (C.bt "range" (by simp [bNames])) (pa_cons ha (pa_cons hb pa_nil (star_ne hy)) (star_ne hx)) s2 (star1 hy)) fun σ H R ⟨κ, w, Fr, s, hh, p⟩ => ?_
  unfold evi at p
  refine fromI hh p fun v κ1 w1 H1 s1 d l1 h1 r1 p1 => fromI h1 p1 fun u κ2 w2 H2 s2 e l2 h2 r2 p2 => ?_
  split at p2
  · rename_i i j
    split at p2
    · rename_i hz
      simp only [Bool.and_eq_true] at hz
      cases r1; cases r2
      obtain ⟨z1, z2⟩ := szRng_of hz.1
      obtain ⟨z3, z4⟩ := szRng_of hz.2
      exact ⟨i, j, rfl, ⟨z1, z2, z3, z4⟩, p2 κ2 w2 H2 _ .rfl h2 (w_rngs i j)⟩
    · exact p2.elim
  · exact p2.elim
theorem enumF_get : ∀ (ds : List D) (j i : Nat) (d : D), (enumF j ds)[i]? = some d → ∃ x, ds[i]? = some x ∧ d = .tup [.int ((j + i : Nat) : Int), x]
  | [], _, _, _, h => by simp [enumF] at h
  | x :: ds, j, 0, d, h => by
    simp [enumF] at h
    exact ⟨x, rfl, h.symm⟩
  | x :: ds, j, i + 1, d, h => by
    obtain ⟨y, h1, h2⟩ := enumF_get ds (j + 1) i d (by simpa [enumF] using h)
    exact ⟨y, by simpa using h1, by rw [h2]; congr 3; omega⟩
theorem enumF_len : ∀ (ds : List D) (j : Nat), (enumF j ds).length = ds.length
  | [], _ => rfl
  | _ :: ds, j => by simp [enumF, enumF_len ds]
theorem w_enum {e : E} {x : Expr} {f : Str} {p2 : Pos} (C : Ctx T k X W) (ht : isTupX tg = true) (hf : nameIs X.env.scope "enumerate" f = true) (hx : shp x = true) (he : PE X x (rd X W (ev (pr T k) e))) : PI X tg (.Call (.Name f p2) [x] [] pos) (rdi X W (evi (pr T k) (.enum e))) := by
  obtain ⟨rfl, h2, h3⟩ := nameIs_of hf
  cases tg with
  | Tuple elts kk tpos =>
    refine PI.weak (pi_enum (gl_of h2) (C.bt "enumerate" (by simp [bNames])) (pa_cons he pa_nil (star_ne hx)) (star1 hx)) fun σ H R ⟨κ, w, Fr, s, hh, p⟩ => ?_
    unfold evi at p
    refine fromI hh p fun v κ1 w1 H1 s1 d l1 h1 r1 p1 => ?_
    cases d with
    | lst ds =>
      obtain ⟨a, xs, rfl, e1, e2⟩ := r1
      refine ⟨a, xs, rfl, .of (h1.fz _ _ e1), p1 κ1 w1 H1 _ .rfl h1 (Wlk.pair (by rw [enumF_len, ← e2.length]; exact walk_enum) (fun _ w' _ _ H _ l f hh => L2.SqL.of (hh.fz _ _ (l.F _ _ e1))) fun i d x y q1 q2 q3 => ?_)⟩
      obtain ⟨z, q4, q5⟩ := enumF_get ds 0 i d q1
      obtain ⟨v, q6, rv⟩ := e2.get q4
      cases q2
      rw [q3] at q6; cases q6
      exact ⟨_, _, q5, by rw [Nat.zero_add]; rfl, rv⟩
    | _ => exact p1.elim
  | _ => cases ht
theorem pairs_get : ∀ (as bs : List D) (i : Nat) (d : D), (pairs as bs)[i]? = some d → ∃ x y, as[i]? = some x ∧ bs[i]? = some y ∧ d = .tup [x, y]
  | [], _, _, _, h => by simp [pairs] at h
  | _ :: _, [], _, _, h => by simp [pairs] at h
  | a :: as, b :: bs, 0, d, h => by
    simp [pairs] at h
    exact ⟨a, b, rfl, rfl, h.symm⟩
  | a :: as, b :: bs, i + 1, d, h => by
    obtain ⟨x, y, h1, h2, h3⟩ := pairs_get as bs i d (by simpa [pairs] using h)
    exact ⟨x, y, by simpa using h1, by simpa using h2, h3⟩
theorem pairs_len : ∀ (as bs : List D), (pairs as bs).length = min as.length bs.length
  | [], _ => by simp [pairs]
  | _ :: _, [] => by simp [pairs]
  | a :: as, b :: bs => by simp [pairs, pairs_len as bs]
def sqB : D → Bool
  | .tup _ => true
  | _ => false
def sqL : D → Option (List D)
  | .tup ds => some ds
  | .lst ds => some ds
  | _ => none
theorem zipD_of {d e : D} {r : List D} (h : zipD d e = some r) : ∃ ds es, sqL d = some ds ∧ sqL e = some es ∧ r = pairs ds es := by
  cases d <;> cases e <;> cases h <;> exact ⟨_, _, rfl, rfl, rfl⟩
theorem sqX_of {K : PySem.W.Frag} {mg : Str → Option Value} {w : Wd} {d : D} {v : V} {ds : List D} (h : sqL d = some ds) (r : Rep K mg w d v) : ∃ a xs, v = .ref a ∧ ZM.SqX (sqB d) K w.F a xs ∧ Reps K mg w ds xs := by
  cases d <;> cases h
  · obtain ⟨a, xs, e, h, r⟩ := r; exact ⟨a, xs, e, h, r⟩
  · obtain ⟨a, xs, e, h, r⟩ := r; exact ⟨a, xs, e, L2.SqL.of h, r⟩
theorem sqX_mono {b : Bool} {K : PySem.W.Frag} {H H' : Hp} {a : Addr} {xs : List V} (m : ∀ b o, H b = some o → H' b = some o) (h : ZM.SqX b K H a xs) : ZM.SqX b K H' a xs := by
  cases b with
  | false => exact SqL.mono m h
  | true => exact SqT.mono m h
theorem w_zip {a b : E} {x y : Expr} {f : Str} {p2 : Pos} (C : Ctx T k X W) (ht : isTupX tg = true) (hf : nameIs X.env.scope "zip" f = true) (hx : shp x = true) (hy : shp y = true) (ha : PE X x (rd X W (ev (pr T k) a))) (hb : PE X y (rd X W (ev (pr T k) b))) :
    PI X tg (.Call (.Name f p2) [x, y] [] pos) (rdi X W (evi (pr T k) (.zip a b))) := by
  obtain ⟨rfl, h2, h3⟩ := nameIs_of hf
  cases tg with
  | Tuple elts kk tpos =>
    refine PI.weak (ZM.pi_zipX (gl_of h2) (C.bt "zip" (by simp [bNames])) (pa_cons ha (pa_cons hb pa_nil (star_ne hy)) (star_ne hx)) (star_ne hx) (star_all fun z hz => by
      have hz : z = y := by simpa using hz
      rw [hz]; exact hy)) fun σ H R ⟨κ, w, Fr, s, hh, p⟩ => ?_
    unfold evi at p
    refine fromI hh p fun v κ1 w1 H1 s1 d l1 h1 r1 p1 => fromI h1 p1 fun u κ2 w2 H2 s2 e l2 h2 r2 p2 => ?_
    cases q : zipD d e with
    | none => rw [q] at p2; exact p2.elim
    | some r =>
      rw [q] at p2
      obtain ⟨ds, es, g1, g2, rfl⟩ := zipD_of q
      obtain ⟨a1, xs, rfl, e1, e2⟩ := sqX_of g1 r1
      obtain ⟨a2, ys, rfl, e3, e4⟩ := sqX_of g2 r2
      refine ⟨sqB d, sqB e, a1, a2, xs, ys, rfl, sqX_mono (fun b o q => h2.fz _ _ (l2.F _ _ q)) e1, sqX_mono h2.fz e3, p2 κ2 w2 H2 _ .rfl h2 (Wlk.pair (ZM.walkX (by rw [pairs_len, e2.length, e4.length])) (fun _ w' _ _ H _ l f hh => ⟨sqX_mono (fun b o q => hh.fz _ _ (l.F _ _ (l2.F _ _ q))) e1, sqX_mono (fun b o q => hh.fz _ _ (l.F _ _ q)) e3⟩) fun i d x y q1 q2 q3 => ?_)⟩
      obtain ⟨u, v, f1, f2, f3⟩ := pairs_get _ _ i d q1
      obtain ⟨v1, f4, f5⟩ := e2.get f1
      obtain ⟨v2, f6, f7⟩ := e4.get f2
      rw [q2] at f4; cases f4
      rw [q3] at f6; cases f6
      exact ⟨u, v, f3, Rep.mono l2 _ _ f5, f7⟩
  | _ => cases ht
/-- a slot's own list, in a comprehension -/
theorem w_mv {i : Nat} {y : Str} (h : nm X.N X.env.scope i y = true) : PI X tg (.Name y pos) (rdc X W (evi (pr T k) (.mv i))) := by
  refine PI.weak (pi_list (pvi h)) fun σ H R ⟨κ, w, Fr, s, hh, p⟩ => ?_
  unfold evi at p
  split at p
  · rename_i ds e
    obtain ⟨a, u, h1, h4, xs, rfl, h5⟩ := obj_at hh e
    have f1 : Rd (lockF κ Fr H) a (.lst xs) := by
      have one : ∀ {u'}, Rd (lockF κ Fr H) a u' → Rd H a u' → (∃ ys, u' = .lst ys) → Rd (lockF κ Fr H) a (.lst xs) := fun {u'} r1 e1 ⟨ys, gz⟩ => by
        subst gz
        have : HO.lst ys = .lst xs := by
          rcases e1 with e1 | ⟨o, e1⟩ <;> rcases h4 with h4 | ⟨o', h4⟩ <;> rw [e1] at h4 <;> cases h4 <;> rfl
        rw [← this]; exact r1
      unfold S.obj at e
      split at e
      · cases e
        rename_i q
        obtain ⟨a', u', g1, g2, g3, _⟩ := hh.sl i _ q
        rw [h1] at g1; cases g1
        rcases h4 with h4 | ⟨o, h4⟩
        · exact .inl (by unfold lockF; rw [g2]; exact h4)
        · exact .inr ⟨o, by unfold lockF; rw [g2]; exact h4⟩
      · cases e
        rename_i q
        obtain ⟨a', u', g1, g2, ys, gz, _⟩ := hh.sl i _ q
        rw [h1] at g1; cases g1
        refine one ?_ ?_ ⟨ys, gz⟩
        · rcases g2 with g | ⟨o, g⟩
          · exact .inl (by unfold lockF; rw [(hh.g.fr a _ g).1]; exact g)
          · exact .inr ⟨o, by unfold lockF; rw [(hh.g.fr a _ g).1]; exact g⟩
        · rcases g2 with g | ⟨o, g⟩
          · exact .inl (hh.g.fr _ _ g).2
          · exact .inr ⟨o, (hh.g.fr _ _ g).2⟩
      · cases e
        rename_i q
        obtain ⟨a', od, u', g1, g, ys, gz, _⟩ := hh.sl i _ q
        rw [h1] at g1; cases g1
        exact one (.inr ⟨od, by unfold lockF; rw [(hh.g.fr a _ g).1]; exact g⟩) (.inr ⟨od, (hh.g.fr _ _ g).2⟩) ⟨ys, gz⟩
      · cases e
    refine ⟨.ref a, h1, a, rfl, ⟨xs, .inl h4⟩, p κ w H _ .rfl hh (Wlk.of (by rw [← h5.length]; exact walk_list) (fun _ w' F2 _ H2 _ l f h2 => ?_) h5)⟩
    rcases f1 with f1 | ⟨o, f1⟩
    · exact .inl (.inl (h2.g.fr _ _ (f _ _ f1)).2)
    · exact .inl (.inr ⟨o, (h2.g.fr _ _ (f _ _ f1)).2⟩)
  · exact p.elim
/-! ### the keys of a locked dict -/
end
theorem Inv.frzD {X : Cx} {pins : List (Addr × Obj)} {σ : L2.St} {H : Hp} {s : Shared} {d : Addr} {od : Obj} {xs : List (List Int × Addr × Value)} (I : L2.Inv X pins σ H s) (h : H d = some (.frz od (dicO d xs))) :
    s.heap.get? d = some od ∧ od.ExactDict ∧ ∃ es ep, od.data = .dict es ep ∧ es.toList = xs.map entI := by
  obtain ⟨hd, ⟨o, es, ep, ho, hx, hdt, he⟩, _⟩ := I.hok d _ h
  rw [hd] at ho
  cases ho
  exact ⟨hd, hx, es, ep, hdt, he⟩
def Jd (d : Addr) (od : Obj) (xs : List (List Int × Addr × Value)) : L2.It :=
  ⟨fun i H => H d = some (.frz od (dicO d xs)) ∧ i < xs.length, fun i H x H' => H' = H ∧ ∃ q, xs[i]? = some q ∧ x = .ref q.2.1, fun i H => H d = some (.frz od (dicO d xs)) ∧ xs.length ≤ i⟩
theorem ent_at {es : Array DictEntry} {xs : List (List Int × Addr × Value)} (he : es.toList = xs.map entI) (i : Nat) : es[i]? = (xs[i]?).map entI := by
  rw [← Array.getElem?_toList, he, List.getElem?_map]
theorem ent_size {es : Array DictEntry} {xs : List (List Int × Addr × Value)} (he : es.toList = xs.map entI) : es.size = xs.length := by
  rw [← Array.length_toList, he, List.length_map]
theorem turn_dic {P : Program} {w : World} {K : PySem.W.Frag} {tg : Expr} {d : Addr} {od : Obj} {xs : List (List Int × Addr × Value)} {es : Array DictEntry} {ep : Nat} (it : Addr) (hod : od.data = .dict es ep) : Turn P w K tg (Jd d od xs) [it] it (fun i h => h.IsKeyIter it d i xs.length ep) where
  mem := by simp
  obj := fun i h st b hb => by
    have e : b = it := by simpa using hb
    subst e
    obtain ⟨oi, e, c, dd⟩ := st
    exact ⟨oi, e, fun v z => by rw [dd] at z; cases z⟩
  keep := fun i h h' st k => st.at fun oi e => k it (by simp) oi e
  item := by
    intro X hP hw hK hc i pins s σ H E I hf st hg
    subst hP hw hK
    obtain ⟨hd, hi⟩ := hg
    obtain ⟨f0, f1, f2, f3, f4, f5⟩ := hf it (by simp)
    obtain ⟨hgd, hx, es', ep', hdt, he⟩ := Inv.frzD I hd
    obtain ⟨rfl, rfl⟩ := dict_ep hod hdt
    obtain ⟨q, hq⟩ : ∃ p, xs[i]? = some p := ⟨xs[i], List.getElem?_eq_getElem hi⟩
    have hen := ent_at he i
    rw [hq] at hen
    refine next_key_item st hgd hdt (ent_size he) hen fun h' st' sb => ?_
    have I1 : L2.Inv X pins σ H { s with heap := h' } := I.turned (t' := s.toks) (fun b ob hb e => (sb.2 b hb).trans e) f0 f1 f3 f4 f5
    obtain ⟨oi, e, c, dd⟩ := id st'
    exact ⟨_, rfl, go_of (s := { s with heap := h' }) e c dd (by decide) ⟨.ref q.2.1, H, I1, rfl, ⟨rfl, q, hq, rfl⟩, st', fun b hb => (hf b hb).1⟩⟩
  done := by
    intro X hP hw hK hc i pins s σ H E I hf st hg
    subst hP hw hK
    obtain ⟨hd, hi⟩ := hg
    obtain ⟨f0, f1, f2, f3, f4, f5⟩ := hf it (by simp)
    obtain ⟨hgd, hx, es', ep', hdt, he⟩ := Inv.frzD I hd
    obtain ⟨rfl, rfl⟩ := dict_ep hod hdt
    exact next_key_end (I.ok.hd hc) st hgd hdt (ent_size he) hi fun h' eb => ⟨rfl, I.turned (t' := s.toks) (fun b ob hb e => eb b ob hb e) f0 f1 f3 f4 f5⟩
  self := fun A i s Q E st h => wpAny_pyIter_keyiter st h
def iDic (td : TE) : TI := fun σ H R => td σ H fun x H1 => ∃ d od xs, x = .ref d ∧ (d == sysModules) = false ∧ H1 d = some (.frz od (dicO d xs)) ∧ R (Jd d od xs) H1
theorem pi_dic {X : Cx} {tg e : Expr} {td : TE} (he : PE X e td) : PI X tg e (iDic td) := by
  refine ⟨fun pins s σ H R I h => ?_⟩
  refine thn (he.run pins s σ H _ I h) fun u s1 ⟨x, H1, I1, rx, d, od, xs, ex, hs, hd, q⟩ => ?_
  subst ex
  obtain rfl : u = Value.ref d := rx
  obtain ⟨hgd, hx, es, ep, hdt, hes⟩ := Inv.frzD I1 hd
  refine iter_keys hs hgd hx hdt (pi_one (tk := s1.toks) I1 _ (turn_dic _ hdt) ⟨_, Heap.get?_push_size _ rfl, rfl, ?_⟩ q)
  rw [ent_size hes] <;> rfl
section
variable {T : Txt} {k : Nat} {X : Cx} {W : WX} {pos : Pos} {tg : Expr}
theorem RepKs.get {w : Wd} : ∀ {kvs : List (List Int × D)} {xs : List (List Int × Addr × Value)} {i : Nat} {d : D} {q : List Int × Addr × Value}, RepKs X.K X.mg w kvs xs → (kvs.map fun p => keyOf p.1)[i]? = some d → xs[i]? = some q → Rep X.K X.mg w d (.ref q.2.1)
  | [], _, i, d, q, h, e, f => by simp at e
  | p :: kvs, _, 0, d, q, h, e, f => by
    obtain ⟨b, z, v, r, rfl, h1, _⟩ := h
    simp at e f
    subst e; subst f
    exact ⟨b, p.1.map V.int, rfl, h1, Reps.ofInts _⟩
  | p :: kvs, _, i + 1, d, q, h, e, f => by
    obtain ⟨b, z, v, r, rfl, _, _, _, h2⟩ := h
    exact RepKs.get (i := i) h2 (by simpa using e) (by simpa using f)
theorem w_mk {i : Nat} {y : Str} (h : nm X.N X.env.scope i y = true) : PI X tg (.Name y pos) (rdc X W (evi (pr T k) (.mk i))) := by
  refine PI.weak (pi_dic (pvi h)) fun σ H R ⟨κ, w, Fr, s, hh, p⟩ => ?_
  unfold evi at p
  split at p
  · rename_i kvs q
    obtain ⟨a, od, u, g1, g, xs, rfl, hs, nd, hl, r⟩ := hh.sl i _ q
    have g' : lockF κ Fr H a = some (.frz od (dicO a xs)) := by unfold lockF; rw [(hh.g.fr a _ g).1]; exact g
    have el : (kvs.map fun p => keyOf p.1).length = xs.length := by rw [List.length_map, r.len]
    refine ⟨.ref a, g1, a, od, xs, rfl, hs, (hh.g.fr _ _ g).2, p κ w H _ .rfl hh ⟨fun j κ' w' F2 σ2 H2 s2 hj l f h2 => ⟨(h2.g.fr _ _ (f _ _ g')).2, by rw [← el]; exact hj⟩, fun κ' w' F2 σ2 H2 s2 l f h2 => ⟨(h2.g.fr _ _ (f _ _ g')).2, by rw [el]; exact Nat.le_refl _⟩, fun j d κ' w' F2 σ2 H2 s2 x H' e l f h2 y => ?_⟩⟩
    obtain ⟨e1, q2, e2, e3⟩ := y
    subst e1; subst e3
    exact ⟨κ', w', .rfl, h2, Rep.mono l _ _ (r.get e e2)⟩
  · exact p.elim
end
end Z

set_option linter.all false
set_option autoImplicit false
set_option maxRecDepth 20000
/-! Comprehensions. -/
namespace Z
open PySem PySem.Spec PyProof.Rows L2
/-! ### targets -/
def lenT : Tgs → Nat
  | .nil => 0
  | .cons _ r => lenT r + 1
mutual
def gT (K : PySem.W.Frag) : Tg → TG
  | .v i => gName i
  | .o i => gName i
  | .tup ts => gTup K (lenT ts) (gTs K ts)
def gTs (K : PySem.W.Frag) : Tgs → TGs
  | .nil => gNil
  | .cons t r => gCons (gT K t) (gTs K r)
end
section
variable {X : Cx} {sc : Scope} {own : List Nat}
theorem assign_ne {N : List Str} {t : Tg} {x : Expr} {xs : List Expr} {env : Env} (h : okT N sc own t x = true) : assignEach (x :: xs) env = (false, assign x env) :: assignEach xs env := by
  cases t <;> cases x <;> first | rfl | (simp [okT] at h)
theorem assign_all {N : List Str} {env : Env} : ∀ {ts : Tgs} {xs : List Expr}, okTs N sc own ts xs = true → (assignEach xs env).length = lenT ts ∧ (assignEach xs env).findIdx? (·.1) = none
  | .nil, [], _ => ⟨rfl, rfl⟩
  | .nil, _ :: _, h => by simp [okTs] at h
  | .cons t r, [], h => by simp [okTs] at h
  | .cons t r, x :: xs, h => by
    have h : okT N sc own t x = true ∧ okTs N sc own r xs = true := by simpa [okTs] using h
    obtain ⟨h1, h2⟩ := assign_all (env := env) h.2
    rw [assign_ne h.1]
    exact ⟨by simp [h1, lenT], by simp [List.findIdx?_cons, h2]⟩
/-- names that may be bound here -/
structure Bd (X : Cx) (sc : Scope) : Prop where
  b : ∀ y, (locB sc y || cellB sc y) = true → Loc X.env.scope y ∧ (X.fn y = true ∨ X.env.scope.names.lookup y = some .local)
mutual
theorem pg_of (hc : X.calm = true) (hn : X.N.Nodup) (B : Bd X sc) : ∀ (t : Tg) (x : Expr), okT X.N sc own t x = true → PG X x (gT X.K t)
  | .v i, x, h => by
    cases x <;> simp [okT] at h
    obtain ⟨h1, h2, _⟩ := h
    obtain ⟨h3, h4⟩ := B.b _ (by simpa using h2)
    exact pg_name hn h1 h3 h4
  | .o i, x, h => by cases x <;> simp [okT] at h
  | .tup ts, x, h => by
    cases x <;> simp [okT] at h
    obtain ⟨h1, h2⟩ := assign_all (env := X.env) h
    exact pg_tup hc (pgs_of hc hn B ts _ h) h1 h2
theorem pgs_of (hc : X.calm = true) (hn : X.N.Nodup) (B : Bd X sc) : ∀ (t : Tgs) (x : List Expr), okTs X.N sc own t x = true → PGs X x (gTs X.K t)
  | .nil, [], _ => pgs_nil
  | .nil, _ :: _, h => by simp [okTs] at h
  | .cons t r, [], h => by simp [okTs] at h
  | .cons t r, x :: xs, h => by
    have h : okT X.N sc own t x = true ∧ okTs X.N sc own r xs = true := by simpa [okTs] using h
    exact pgs_cons (pg_of hc hn B t x h.1) (pgs_of hc hn B r xs h.2) (by rw [assign_ne h.1]; rfl)
end
end
theorem asgs_len : ∀ {ts : Tgs} {ds : List D} {s s2 : S}, asgs ts ds s = some s2 → ds.length = lenT ts
  | .nil, [], _, _, _ => rfl
  | .nil, _ :: _, _, _, h => by simp [asgs] at h
  | .cons _ _, [], _, _, h => by simp [asgs] at h
  | .cons t r, d :: ds, s, s2, h => by
    unfold asgs at h
    cases e1 : asg t d s with
    | none => rw [e1] at h; cases h
    | some s1 =>
      rw [e1] at h
      simp [lenT, asgs_len (ts := r) (ds := ds) h]
def offs (own : List Nat) (σ σ2 : L2.St) : Prop := σ2.length = σ.length ∧ (own.isEmpty = false → ∀ j, j ∉ own → σ2[j]? = σ[j]?)
theorem offs.rfl {own : List Nat} {σ : L2.St} : offs own σ σ := ⟨Eq.refl _, fun _ _ _ => Eq.refl _⟩
theorem offs.trans {own : List Nat} {σ σ2 σ3 : L2.St} (h : offs own σ σ2) (k : offs own σ2 σ3) : offs own σ σ3 := ⟨k.1.trans h.1, fun e j hj => (k.2 e j hj).trans (h.2 e j hj)⟩
section
variable {K : PySem.W.Frag} {mg : Str → Option Value} {κ : Addr → Role} {w : Wd} {Fr H : Hp} {N : List Str} {sc : Scope} {own : List Nat}
mutual
theorem g_ok : ∀ (t : Tg) (x : Expr) (d : D) (s s2 : S) (σ : L2.St) (v : V) (Q : L2.St → Hp → Prop), okT N sc own t x = true → asg t d s = some s2 → Here K mg κ w Fr σ H s → Rep K mg w d v → (∀ σ2, offs own σ σ2 → Here K mg κ w Fr σ2 H s2 → Q σ2 H) → gT K t v σ H Q
  | .v i, x, d, s, s2, σ, v, Q, h, e, hh, r, q => by
    cases x <;> simp [okT] at h
    obtain ⟨h1, h2, h3⟩ := h
    unfold asg at e
    split at e
    · cases e
      refine q _ ⟨by simp, fun z j hj => ?_⟩ (hh.put r)
      rcases h3 with h3 | h3
      · rw [h3] at z; cases z
      · rw [List.getElem?_set_ne fun z => by subst z; exact hj h3]
    · cases e
  | .o i, x, _, _, _, _, _, _, h, _, _, _, _ => by cases x <;> simp [okT] at h
  | .tup ts, x, d, s, s2, σ, v, Q, h, e, hh, r, q => by
    cases x <;> simp [okT] at h
    cases d with
    | tup ds =>
      have e : asgs ts ds s = some s2 := by simpa [asg] using e
      obtain ⟨a, xs, rfl, h1, h2⟩ := r
      exact ⟨a, xs, rfl, SqT.mono hh.fz h1, by rw [h2.length, asgs_len e], gs_ok ts _ ds s s2 σ xs Q h e hh h2 q⟩
    | _ => simp [asg] at e
theorem gs_ok : ∀ (t : Tgs) (x : List Expr) (d : List D) (s s2 : S) (σ : L2.St) (v : List V) (Q : L2.St → Hp → Prop), okTs N sc own t x = true → asgs t d s = some s2 → Here K mg κ w Fr σ H s → Reps K mg w d v → (∀ σ2, offs own σ σ2 → Here K mg κ w Fr σ2 H s2 → Q σ2 H) → gTs K t v σ H Q
  | .nil, [], [], s, s2, σ, v, Q, h, e, hh, r, q => by
    cases e; cases r
    exact ⟨rfl, q _ .rfl hh⟩
  | .nil, _ :: _, _, _, _, _, _, _, h, _, _, _, _ => by simp [okTs] at h
  | .nil, [], _ :: _, _, _, _, _, _, _, e, _, _, _ => by simp [asgs] at e
  | .cons t r, [], _, _, _, _, _, _, h, _, _, _, _ => by simp [okTs] at h
  | .cons t r, _ :: _, [], _, _, _, _, _, _, e, _, _, _ => by simp [asgs] at e
  | .cons t r, x :: xs, d :: ds, s, s2, σ, v, Q, h, e, hh, rr, q => by
    have h : okT N sc own t x = true ∧ okTs N sc own r xs = true := by simpa [okTs] using h
    obtain ⟨v1, vs, rfl, r1, r2⟩ := rr
    unfold asgs at e
    cases e1 : asg t d s with
    | none => rw [e1] at e; cases e
    | some s1 =>
      rw [e1] at e
      have e : asgs r ds s1 = some s2 := e
      exact ⟨v1, vs, rfl, g_ok t x d s s1 σ v1 _ h.1 e1 hh r1 fun σ1 o1 h1 => gs_ok r xs ds s1 s2 σ1 vs Q h.2 e h1 r2 fun σ2 o2 h2 => q σ2 (o1.trans o2) h2⟩
end
end
end Z

set_option linter.all false
set_option autoImplicit false
set_option maxRecDepth 20000
/-! Comprehensions. -/
namespace Z
open PySem PySem.Spec PyProof.Rows L2
theorem wipe_at (σ : L2.St) : ∀ (vs : List Nat) (i : Nat), (wipe σ vs)[i]? = if i ∈ vs then (σ[i]?).map (fun _ => none) else σ[i]?
  | [], i => by simp [wipe]
  | v :: vs, i => by
    unfold wipe
    by_cases h : v = i
    · subst h
      rw [if_pos List.mem_cons_self]
      by_cases hv : v < σ.length
      · rw [List.getElem?_set_self (by rw [wipe_length]; exact hv), List.getElem?_eq_getElem hv]; rfl
      · rw [List.getElem?_eq_none (by simpa [wipe_length] using hv), List.getElem?_eq_none (by simpa using hv)]; rfl
    · rw [List.getElem?_set_ne h, wipe_at σ vs i]
      by_cases hi : i ∈ vs
      · rw [if_pos hi, if_pos (List.mem_cons_of_mem _ hi)]
      · rw [if_neg hi, if_neg fun z => (List.mem_cons.mp z).elim (fun z => h z.symm) hi]
theorem wipeE_len (σ : List Sl) : ∀ vs : List Nat, (wipeE σ vs).length = σ.length
  | [] => rfl
  | v :: vs => by unfold wipeE; rw [List.length_set, wipeE_len σ vs]
theorem wipeE_at (σ : List Sl) : ∀ (vs : List Nat) (i : Nat), (wipeE σ vs)[i]? = if i ∈ vs then (σ[i]?).map (fun _ => .no) else σ[i]?
  | [], i => by simp [wipeE]
  | v :: vs, i => by
    unfold wipeE
    by_cases h : v = i
    · subst h
      rw [if_pos List.mem_cons_self]
      by_cases hv : v < σ.length
      · rw [List.getElem?_set_self (by rw [wipeE_len]; exact hv), List.getElem?_eq_getElem hv]; rfl
      · rw [List.getElem?_eq_none (by simpa [wipeE_len] using hv), List.getElem?_eq_none (by simpa using hv)]; rfl
    · rw [List.getElem?_set_ne h, wipeE_at σ vs i]
      by_cases hi : i ∈ vs
      · rw [if_pos hi, if_pos (List.mem_cons_of_mem _ hi)]
      · rw [if_neg hi, if_neg fun z => (List.mem_cons.mp z).elim (fun z => h z.symm) hi]
theorem wipe_offs {vs : List Nat} {σ σ2 : L2.St} (ne : vs.isEmpty = false) (h : offs vs (wipe σ vs) σ2) : wipe σ2 vs = wipe σ vs := by
  refine List.ext_getElem? fun i => ?_
  have hl : σ2.length = σ.length := by rw [h.1, wipe_length]
  rw [wipe_at σ2, wipe_at σ]
  by_cases hi : i ∈ vs
  · rw [if_pos hi, if_pos hi]
    by_cases hv : i < σ.length
    · rw [List.getElem?_eq_getElem hv, List.getElem?_eq_getElem (by rw [hl]; exact hv)]; rfl
    · rw [List.getElem?_eq_none (l := σ) (by simpa using hv), List.getElem?_eq_none (l := σ2) (by rw [hl]; simpa using hv)]
  · rw [if_neg hi, if_neg hi, h.2 ne i hi, wipe_at, if_neg hi]
section
variable {K : PySem.W.Frag} {mg : Str → Option Value} {κ κ' : Addr → Role} {w w' : Wd} {Fr F' H H' : Hp} {σ : L2.St} {s : S} {t : List Ob} {p : Addr} {o : HO} {a b : List V}
def Sl.locked : Sl → Prop
  | .own _ => False
  | _ => True
theorem locked_of (x : Sl) : x.lock.locked := by cases x <;> exact trivial
theorem SlOk.loose {i : Nat} {x : Option (Option V)} (l : w.le w') (f : ∀ a o, Fr a = some o → F' a = some o) : ∀ {sl : Sl}, sl.locked → SlOk K mg κ w Fr H i x sl → SlOk K mg κ' w' F' H' i x sl
  | .no, _, _ => True.intro
  | .val d, _, ⟨v, e, r⟩ => ⟨v, e, Rep.mono l _ _ r⟩
  | .own o, h, _ => h.elim
  | .rd o, _, ⟨a, u, e, h, r⟩ => ⟨a, u, e, h.imp (f _ _) fun ⟨o, z⟩ => ⟨o, f _ _ z⟩, r.mono l⟩
  | .lk o, _, ⟨a, od, u, e, h, r⟩ => ⟨a, od, u, e, f _ _ h, r.mono l⟩
theorem Here.within (h : Here K mg κ w Fr σ H s) (hl : ∀ x ∈ s.env, x.locked) (g : Gl_ K mg κ' w' F' H' t) (l : w.le w') (f : ∀ a o, Fr a = some o → F' a = some o) (vs : List Nat) : Here K mg κ' w' F' (wipe σ vs) H' ⟨wipeE s.env vs, t⟩ := by
  refine ⟨g, by rw [wipeE_len, wipe_length]; exact h.len, fun i x e => ?_⟩
  have e : (wipeE s.env vs)[i]? = some x := e
  rw [wipeE_at] at e
  by_cases hi : i ∈ vs
  · rw [if_pos hi] at e
    obtain ⟨y, _, rfl⟩ := of_map e
    exact True.intro
  · rw [if_neg hi] at e
    rw [wipe_at, if_neg hi]
    exact (h.sl i x e).loose l f (hl x (List.mem_of_getElem? e))
/-- a new thing, framed -/
theorem Gl_.grow (g : Gl_ K mg κ w Fr H t) (n : H p = none) (ht : ∀ xs, o ≠ .tup xs) : Gl_ K mg (upR κ p .fr) w (upd Fr p o) (upd H p o) t := by
  have ne : ∀ {a : Addr} {u : HO}, H a = some u → a ≠ p := fun e => ne_of_none e n
  refine ⟨fun a u e => ?_, fun a u e => ?_, fun a e => ?_, g.len, fun a xs e => ?_, fun m a e => ?_⟩
  · have h := g.fz a u e
    rw [upR_ne (ne h.2), upd_ne (ne h.2)]; exact h
  · by_cases q : a = p
    · subst q
      rw [upd_same] at e; cases e
      exact ⟨upR_same, upd_same⟩
    · rw [upd_ne q] at e
      rw [upR_ne q, upd_ne q]; exact g.fr a u e
  · by_cases q : a = p
    · subst q; rw [upd_same]; intro z; cases z
    · rw [upR_ne q] at e
      rw [upd_ne q]; exact g.nf a e
  · by_cases q : a = p
    · subst q
      rw [upd_same] at e
      exact absurd (Option.some.inj e) (ht xs)
    · rw [upd_ne q] at e
      rw [upR_ne q]; exact g.nt a xs e
  · obtain ⟨h1, ob, u, h2, h3, h4⟩ := g.st m a e
    rw [upR_ne (ne h3)]
    exact ⟨h1, ob, u, h2, by rw [upd_ne (ne h3)]; exact h3, h4⟩
/-- a framed thing is changed -/
theorem Gl_.bump (g : Gl_ K mg κ w (upd Fr p o) H t) {o' : HO} (ht : ∀ xs, o' ≠ .tup xs) : Gl_ K mg κ w (upd Fr p o') (upd H p o') t := by
  have hk := (g.fr p o upd_same).1
  have ne : ∀ {b : Addr}, κ b ≠ .fr → b ≠ p := fun h z => h (by rw [z]; exact hk)
  refine ⟨fun a u e => ?_, fun a u e => ?_, fun a e => ?_, g.len, fun a xs e => ?_, fun m a e => ?_⟩
  · have h := g.fz a u e
    exact ⟨h.1, by rw [upd_ne (ne (by rw [h.1]; intro z; cases z))]; exact h.2⟩
  · by_cases q : a = p
    · subst q
      rw [upd_same] at e; cases e
      exact ⟨hk, upd_same⟩
    · rw [upd_ne q] at e
      rw [upd_ne q]; exact g.fr a u (by rw [upd_ne q]; exact e)
  · by_cases q : a = p
    · subst q; rw [upd_same]; intro z; cases z
    · rw [upd_ne q]; exact g.nf a e
  · by_cases q : a = p
    · subst q
      rw [upd_same] at e
      exact absurd (Option.some.inj e) (ht xs)
    · rw [upd_ne q] at e; exact g.nt a xs e
  · obtain ⟨h1, ob, u, h2, h3, h4⟩ := g.st m a e
    exact ⟨h1, ob, u, h2, by rw [upd_ne (ne (by rw [h1]; intro z; cases z))]; exact h3, h4⟩
def era (H : Hp) (p : Addr) : Hp := fun b => if b = p then none else H b
theorem era_same {H : Hp} {p : Addr} : era H p p = none := if_pos rfl
theorem era_ne {H : Hp} {p b : Addr} (h : b ≠ p) : era H p b = H b := if_neg h
theorem upd_era {H : Hp} {p : Addr} {o : HO} (h : H p = some o) : upd (era H p) p o = H := by
  funext b
  by_cases q : b = p
  · subst q; rw [upd_same, h]
  · rw [upd_ne q, era_ne q]
/-- a framed thing is let go -/
theorem Gl_.drop (g : Gl_ K mg κ w (upd Fr p o) H t) (n : Fr p = none) : Gl_ K mg (upR κ p .free) w Fr (era H p) t := by
  have hk := (g.fr p o upd_same).1
  have ne : ∀ {b : Addr}, κ b ≠ .fr → b ≠ p := fun h z => h (by rw [z]; exact hk)
  refine ⟨fun a u e => ?_, fun a u e => ?_, fun a e => ?_, g.len, fun a xs e => ?_, fun m a e => ?_⟩
  · have h := g.fz a u e
    have q := ne (b := a) (by rw [h.1]; intro z; cases z)
    rw [upR_ne q, era_ne q]; exact h
  · have q : a ≠ p := ne_of_none e n
    rw [upR_ne q, era_ne q]; exact g.fr a u (by rw [upd_ne q]; exact e)
  · by_cases q : a = p
    · subst q; exact absurd upR_same e
    · rw [upR_ne q] at e; rw [era_ne q]; exact g.nf a e
  · by_cases q : a = p
    · subst q; exact .inl upR_same
    · rw [era_ne q] at e; rw [upR_ne q]; exact g.nt a xs e
  · obtain ⟨h1, ob, u, h2, h3, h4⟩ := g.st m a e
    have q := ne (b := a) (by rw [h1]; intro z; cases z)
    rw [upR_ne q]
    exact ⟨h1, ob, u, h2, by rw [era_ne q]; exact h3, h4⟩
theorem lockF_none (g : Gl_ K mg κ w Fr H t) (n : H p = none) : lockF κ Fr H p = none := by
  unfold lockF
  rw [g.free n]
  cases e : Fr p with
  | none => rfl
  | some o => have := (g.fr p o e).2; rw [n] at this; cases this
end
/-! ### fresh lists -/
def PostF (K : PySem.W.Frag) (mg : Str → Option Value) (E : WX) (w : Wd) (Fr : Hp) (σ : L2.St) (Q : VK) : Out D → Prop
  | .ok (.lst ds) s => ∀ p xs κ' w' H', w.le w' → Here K mg κ' w' Fr σ H' s → H' p = none → Reps K mg w' ds xs → Q (.ref p) (upd H' p (.lst xs))
  | .ok _ _ => False
  | .ex x s => ∀ κ' w' H' C dx, w.le w' → Here K mg κ' w' Fr σ H' s → ExOk K mg w' x C dx → E C dx σ H'
  | .no => False
def rdF (X : Cx) (W : WX) (f : S → Out D) : TE := fun σ H Q => ∃ κ w Fr s, Here X.K X.mg κ w Fr σ H s ∧ PostF X.K X.mg W w Fr σ Q (f s)
section
variable {X : Cx} {W : WX}
theorem PostF.of {w : Wd} {Fr : Hp} {σ : L2.St} {Q : VK} {o : Out D} (h : Post X.K X.mg W w Fr σ Q o) (hl : ∀ d s, o = .ok d s → ∃ ds, d = .lst ds) : PostF X.K X.mg W w Fr σ Q o := by
  cases o with
  | ok d s =>
    obtain ⟨ds, rfl⟩ := hl d s rfl
    intro p xs κ' w' H' l hh n r
    have le := Wd.add_le (w := w') (o := .lst xs) (hh.g.noF n)
    exact h _ _ _ _ (l.trans le) (hh.add n) ⟨p, xs, rfl, upd_same, Reps.mono le _ _ r⟩
  | ex x s => exact h
  | no => exact h
theorem rdF_rd {f : S → Out D} {e : Expr} (hl : ∀ s0 d s, f s0 = .ok d s → ∃ ds, d = .lst ds) (h : PE X e (rdF X W f)) : PE X e (rd X W f) :=
  PE.weak h fun σ H Q ⟨κ, w, Fr, s, hh, p⟩ => ⟨κ, w, Fr, s, hh, PostF.of p fun d s1 e => hl s d s1 e⟩
end
/-! ### the turns -/
def W0 : WX := fun _ _ _ _ => False
theorem Ctx.blk {T : Txt} {k : Nat} {X : Cx} {W : WX} (C : Ctx T k X W) (s : Shared) (H : Hp) (scope : Scope) (ce : Env) (fp : List Addr) (hk : ce.scope.kind = .function) : Ctx T k (X.blk s H scope ce fp) W0 :=
  ⟨C.calm, hk, C.nd, takes0, C.room, C.tab, C.bt, C.gl, C.gcd, C.exn, C.rai, C.exm⟩
theorem Bd.blk {X : Cx} {s : Shared} {H : Hp} {scope : Scope} {cl : List (Str × Addr)} {Ca : Addr} {fp : List Addr} : Bd (X.blk s H scope (compEnvC scope cl Ca X.env) fp) scope := by
  refine ⟨fun y h => ?_⟩
  show Loc (relS scope X.env.scope) y ∧ ((scope.names.lookup y == some .cell) = true ∨ (relS scope X.env.scope).names.lookup y = some .local)
  rcases (Bool.or_eq_true _ _).mp h with h | h
  · unfold locB at h
    split at h
    · rename_i q
      have := lookup_relS_keep (sc := X.env.scope) (by intro z; cases z) q
      exact ⟨.inl this, .inr this⟩
    · cases h
  · unfold cellB at h
    split at h
    · rename_i q
      have := lookup_relS_keep (sc := X.env.scope) (by intro z; cases z) q
      exact ⟨.inr this, .inl (by rw [q]; rfl)⟩
    · cases h
section
variable {T : Txt} {k : Nat} {X : Cx} {W : WX} {pos : Pos}
theorem compL_len {f : D → List Ob → Option (Option D × List Ob)} : ∀ {ds : List D} {t : List Ob} {rs : List D} {t' : List Ob}, compL f ds t = some (rs, t') → rs.length ≤ ds.length
  | [], t, rs, t', h => by cases h; simp
  | d :: ds, t, rs, t', h => by
    unfold compL at h
    cases e1 : f d t with
    | none => rw [e1] at h; cases h
    | some r =>
      rw [e1] at h
      have h : (compL f ds r.2).bind (fun q => some (match r.1 with | some x => x :: q.1 | none => q.1, q.2)) = some (rs, t') := h
      cases e2 : compL f ds r.2 with
      | none => rw [e2] at h; cases h
      | some q =>
        rw [e2] at h
        have ih := compL_len (rs := q.1) (t' := q.2) e2
        have h := Option.some.inj h
        cases h
        cases r.1 <;> simp <;> omega
theorem comp_core {κ1 : Addr → Role} {w1 : Wd} {Fr : Hp} {σ : L2.St} {H1 : Hp} {s1 : S} {ds rs : List D} {J : L2.It} {Q : VK} {tE : List Ob} {tg : Tg} {t : Expr} {own : List Nat} {N : List Str} {sc : Scope} {c elt : S → Out D} {tt : TT} {te : TE}
    (h1 : Here X.K X.mg κ1 w1 Fr σ H1 s1) (wk : Wlk X w1 (lockF κ1 Fr H1) J ds) (ne : own.isEmpty = false) (ht : okT N sc own tg t = true)
    (it : ∀ σ H Q, tB (rdE X.K X.mg W0 c) σ H Q → tt σ H Q) (ie : ∀ σ H Q, rdE X.K X.mg W0 elt σ H Q → te σ H Q)
    (hc : compL (fun d t => (asg tg d ⟨wipeE (s1.env.map Sl.lock) own, t⟩).bind fun s => testE (c s) fun s => turnE (elt s)) ds s1.sto = some (rs, tE)) (hl : rs.length ≤ lenLine)
    (q : ∀ p xs κ' w' H', w1.le w' → Here X.K X.mg κ' w' Fr σ H' { s1 with sto := tE } → H' p = none → Reps X.K X.mg w' rs xs → Q (.ref p) (upd H' p (.lst xs))) :
    ∀ D, H1 D = none → ∃ W : Nat → Nat → Hp → Prop, (∃ m, W 0 m (upd H1 D (.lst []))) ∧ ∀ i m H, W i m H →
      (J.stop i H ∧ Q (.ref D) H) ∨ (J.go i H ∧ ∃ Nx : Hp → Prop, (∀ H', Nx H' → ∃ m', m' < m ∧ W (i + 1) m' H') ∧ ∀ x H', J.yld i H x H' → gT X.K tg x (wipe σ own) H' fun σ2 H2 => wipe σ2 own = wipe σ own ∧ tt σ2 H2 fun b H3 =>
        if b = true then te σ2 H3 fun y H4 => ∃ acc, H4 D = some (.lst acc) ∧ acc.length < sizeLine ∧ Nx (upd H4 D (.lst (acc ++ [y]))) else Nx H3) := by
  intro D nD
  have hL := h1.lock
  have lk : ∀ x ∈ s1.env.map Sl.lock, x.locked := fun x hx => by
    obtain ⟨y, _, rfl⟩ := List.mem_map.mp hx
    exact locked_of y
  have nF := lockF_none h1.g nD
  generalize hf : (fun d t => (asg tg d ⟨wipeE (s1.env.map Sl.lock) own, t⟩).bind fun s => testE (c s) fun s => turnE (elt s)) = f at hc
  let Pv : Nat → Hp → Prop := fun i H => ∃ κ' w' t acc accV rest, w1.le w' ∧ Gl_ X.K X.mg κ' w' (upd (lockF κ1 Fr H1) D (.lst accV)) H t ∧ Reps X.K X.mg w' acc accV ∧ compL f (ds.drop i) t = some (rest, tE) ∧ acc ++ rest = rs
  refine ⟨fun i m H => m = ds.length - i ∧ i ≤ ds.length ∧ Pv i H, ⟨_, rfl, Nat.zero_le _, _, w1, s1.sto, [], [], rs, .rfl, hL.g.grow nD (fun _ z => by cases z), rfl, hc, rfl⟩, ?_⟩
  rintro i m H ⟨rfl, hi, κ2, w2, t2, acc, accV, rest, l2, g2, ra, hr, e⟩
  have fr : ∀ a o, lockF κ1 Fr H1 a = some o → upd (lockF κ1 Fr H1) D (.lst accV) a = some o := fun a o z => by rw [upd_ne (ne_of_none z nF)]; exact z
  have hh : Here X.K X.mg κ2 w2 (upd (lockF κ1 Fr H1) D (.lst accV)) (wipe σ own) H ⟨wipeE (s1.env.map Sl.lock) own, t2⟩ := Here.within hL lk g2 l2 fr own
  by_cases hlt : i < ds.length
  · refine .inr ⟨wk.go i κ2 w2 _ _ H _ hlt l2 fr hh, fun H' => Pv (i + 1) H', fun H' p => ⟨_, by omega, rfl, hlt, p⟩, fun x H' y => ?_⟩
    rw [List.drop_eq_getElem_cons hlt] at hr
    unfold compL at hr
    obtain ⟨κ3, w3, l3, h3, r3⟩ := wk.yld i ds[i] κ2 w2 _ _ H _ x H' (by simp [hlt]) l2 fr hh y
    cases e1 : f ds[i] t2 with
    | none => rw [e1] at hr; cases hr
    | some r =>
      rw [e1] at hr
      have hr : (compL f (ds.drop (i + 1)) r.2).bind (fun q => some (match r.1 with | some x => x :: q.1 | none => q.1, q.2)) = some (rest, tE) := hr
      rw [← hf] at e1
      have e1 : (asg tg ds[i] ⟨wipeE (s1.env.map Sl.lock) own, t2⟩).bind (fun s => testE (c s) fun s => turnE (elt s)) = some r := e1
      cases e2 : asg tg ds[i] ⟨wipeE (s1.env.map Sl.lock) own, t2⟩ with
      | none => rw [e2] at e1; cases e1
      | some s3 =>
        rw [e2] at e1
        have e1 : testE (c s3) (fun s => turnE (elt s)) = some r := e1
        refine g_ok tg t ds[i] _ s3 (wipe σ own) x _ ht e2 h3 r3 fun σ2 o2 h4 => ⟨wipe_offs ne o2, it _ _ _ ⟨κ3, w3, _, s3, h4, ?_⟩⟩
        cases e3 : c s3 with
        | ex x' s4 => rw [e3] at e1; cases e1
        | no => rw [e3] at e1; cases e1
        | ok d s4 =>
          rw [e3] at e1
          intro v κ5 w5 H5 l5 h5 r5
          cases d with
          | bl b =>
            refine ⟨b, r5, ?_⟩
            cases b with
            | true =>
              have e1 : turnE (elt s4) = some r := e1
              rw [if_pos rfl]
              refine ie _ _ _ ⟨κ5, w5, _, s4, h5, ?_⟩
              cases e4 : elt s4 with
              | ex x' s5 => rw [e4] at e1; cases e1
              | no => rw [e4] at e1; cases e1
              | ok d s5 =>
                rw [e4] at e1
                have e1 := Option.some.inj e1
                subst e1
                intro v κ6 w6 H6 l6 h6 r6
                cases e5 : compL f (ds.drop (i + 1)) s5.sto with
                | none => rw [e5] at hr; cases hr
                | some q' =>
                  rw [e5] at hr
                  have hr := Option.some.inj hr
                  have e7 : rest = d :: q'.1 := (congrArg Prod.fst hr).symm
                  have e8 : q'.2 = tE := congrArg Prod.snd hr
                  have lw : w2.le w6 := (l3.trans l5).trans l6
                  have hlen : accV.length < rs.length := by rw [ra.length, ← e, e7]; simp
                  refine ⟨accV, (h6.g.fr D _ upd_same).2, Nat.lt_of_lt_of_le hlen (len_le hl), _, w6, s5.sto, acc ++ [d], accV ++ [v], q'.1, l2.trans lw, h6.g.bump (fun _ z => by cases z), (Reps.mono lw _ _ ra).app (.one r6), by rw [e5, ← e8], by rw [← e, e7]; simp⟩
            | false =>
              have e1 : some (none, s4.sto) = some r := e1
              have e1 := Option.some.inj e1
              subst e1
              rw [if_neg Bool.false_ne_true]
              cases e5 : compL f (ds.drop (i + 1)) s4.sto with
              | none => rw [e5] at hr; cases hr
              | some q' =>
                rw [e5] at hr
                have hr := Option.some.inj hr
                have e7 : rest = q'.1 := (congrArg Prod.fst hr).symm
                have e8 : q'.2 = tE := congrArg Prod.snd hr
                exact ⟨_, w5, s4.sto, acc, accV, q'.1, l2.trans (l3.trans l5), h5.g, Reps.mono (l3.trans l5) _ _ ra, by rw [e5, ← e8], by rw [← e, e7]⟩
          | _ => cases e1
  · have ei : i = ds.length := by omega
    subst ei
    rw [List.drop_length] at hr
    have hr := Option.some.inj hr
    have e7 : rest = [] := (congrArg Prod.fst hr).symm
    have e8 : t2 = tE := congrArg Prod.snd hr
    subst e7; subst e8
    rw [List.append_nil] at e
    subst e
    refine .inl ⟨wk.stop κ2 w2 _ _ H _ l2 fr hh, ?_⟩
    have hD : H D = some (.lst accV) := (g2.fr D _ upd_same).2
    rw [← upd_era hD]
    exact q D accV _ w2 (era H D) l2 (h1.unlock l2 (g2.drop nF)) era_same ra
theorem own_eq (N : List Str) (own : List Nat) : (own.map fun i => (N.getD i Str.empty, i)).map (·.2) = own := by rw [List.map_map]; exact List.map_id _
theorem compF_imp {elt c : E} {tg : Tg} {it : It} {own : List Nat} {t : Expr} {N : List Str} {scope : Scope} (ne : own.isEmpty = false) (ht : okT N scope own tg t = true) {σ : L2.St} {H : Hp} {Q : VK} (q : rdF X W (ev (pr T k) (.comp elt tg it c own)) σ H Q) :
    tLc (rdc X W (evi (pr T k) it)) (gT X.K tg) (tB (rdE X.K X.mg W0 (ev (pr T k) c))) (rdE X.K X.mg W0 (ev (pr T k) elt)) own σ H Q := by
  obtain ⟨κ, w, Fr, s, hh, p⟩ := q
  unfold ev at p
  refine ⟨κ, w, Fr, s, hh, ?_⟩
  cases e : evi (pr T k) it s with
  | no => rw [e] at p; exact p
  | ex x s1 => rw [e] at p; exact p
  | ok ds s1 =>
    rw [e] at p
    intro κ1 w1 H1 J l1 h1 wk
    cases e2 : compL (fun d t => (asg tg d ⟨wipeE (s1.env.map Sl.lock) own, t⟩).bind fun s => testE (ev (pr T k) c s) fun s => turnE (ev (pr T k) elt s)) ds s1.sto with
    | none =>
      have p : PostF X.K X.mg W w Fr σ Q (match compL (fun d t => (asg tg d ⟨wipeE (s1.env.map Sl.lock) own, t⟩).bind fun s => testE (ev (pr T k) c s) fun s => turnE (ev (pr T k) elt s)) ds s1.sto with
        | some (rs, t) => if rs.length ≤ lenLine then .ok (.lst rs) { s1 with sto := t } else .no
        | none => .no) := p
      rw [e2] at p
      exact p.elim
    | some r =>
      have p : PostF X.K X.mg W w Fr σ Q (match compL (fun d t => (asg tg d ⟨wipeE (s1.env.map Sl.lock) own, t⟩).bind fun s => testE (ev (pr T k) c s) fun s => turnE (ev (pr T k) elt s)) ds s1.sto with
        | some (rs, t) => if rs.length ≤ lenLine then .ok (.lst rs) { s1 with sto := t } else .no
        | none => .no) := p
      rw [e2] at p
      have p : PostF X.K X.mg W w Fr σ Q (if r.1.length ≤ lenLine then .ok (.lst r.1) { s1 with sto := r.2 } else .no) := p
      split at p
      · rename_i hl
        exact comp_core h1 wk ne ht (fun _ _ _ q => q) (fun _ _ _ q => q) e2 hl fun p1 xs κ' w' H' l2 => p p1 xs κ' w' H' (l1.trans l2)
      · exact p.elim
/-- a comprehension, as a value and as what a name gets -/
theorem s_compF {elt c : E} {tg : Tg} {it : It} {own : List Nat} {el t ir : Expr} {ifs : List Expr} {scope : Scope} (C : Ctx T k X W) (hir : shp ir = true) (hi : PI X t ir (rdc X W (evi (pr T k) it))) (hb : blkC X.N X.env.scope scope (own.map fun i => (X.N.getD i Str.empty, i)) = true)
    (ne : own.isEmpty = false) (ht : okT X.N scope own tg t = true)
    (he : ∀ X', Ctx T k X' W0 → X'.N = X.N → X'.K = X.K → X'.mg = X.mg → X'.env.scope = relS scope X.env.scope → PE X' el (rd X' W0 (ev (pr T k) elt)))
    (hc : ∀ X', Ctx T k X' W0 → X'.N = X.N → X'.K = X.K → X'.mg = X.mg → X'.env.scope = relS scope X.env.scope → PTs X' ifs (tB (rd X' W0 (ev (pr T k) c)))) :
    PE X (.ListComp el [⟨t, ir, ifs, 0⟩] scope pos) (rdF X W (ev (pr T k) (.comp elt tg it c own))) ∧
    ∀ (i : Nat) (y : Str) (py spos : Pos), X.N[i]? = some y → X.env.scope.names.lookup y = some .local → swapsWith (.ListComp el [⟨t, ir, ifs, 0⟩] scope pos) (some (.Name y py)) spos.line X.env = pure true →
      PS X (.Assign [.Name y py] (.ListComp el [⟨t, ir, ifs, 0⟩] scope pos) spos) (tAsg (rdF X W (ev (pr T k) (.comp elt tg it c own))) (gName i)) := by
  have hk : (relS scope X.env.scope).kind = .function := (blkOk_by hb).kind
  have hg := fun (s : Shared) (H : Hp) (Ca : Addr) (cl : List (Str × Addr)) (fp : List Addr) => pg_of (X := X.blk s H scope (compEnvC scope cl Ca X.env) fp) C.calm C.nd Bd.blk tg t ht
  have hc' := fun (s : Shared) (H : Hp) (Ca : Addr) (cl : List (Str × Addr)) (fp : List Addr) => hc (X.blk s H scope (compEnvC scope cl Ca X.env) fp) (C.blk s H scope _ fp hk) rfl rfl rfl rfl
  have he' := fun (s : Shared) (H : Hp) (Ca : Addr) (cl : List (Str × Addr)) (fp : List Addr) => he (X.blk s H scope (compEnvC scope cl Ca X.env) fp) (C.blk s H scope _ fp hk) rfl rfl rfl rfl
  refine ⟨PE.weak (pe_lc (g := gT X.K tg) (tt := tB (rdE X.K X.mg W0 (ev (pr T k) c))) (te := rdE X.K X.mg W0 (ev (pr T k) elt)) C.calm C.nd hi (blkOk_by hb) hg hc' he' (fold_of hir)) fun σ H Q q => ?_, fun i y py spos e1 e2 e3 => ?_⟩
  · rw [own_eq]; exact compF_imp ne ht q
  · refine ⟨fun pins s σ H Dn I h => (ps_setLc (g := gT X.K tg) (tt := tB (rdE X.K X.mg W0 (ev (pr T k) c))) (te := rdE X.K X.mg W0 (ev (pr T k) elt)) C.calm C.nd e1 e2 e3 hi (blkOk_by hb) hg hc' he' (fold_of hir)).run pins s σ H Dn I ?_⟩
    rw [own_eq]; exact compF_imp ne ht h
theorem comp_is {elt c : E} {tg : Tg} {it : It} {own : List Nat} (s0 : S) (d : D) (s : S) (h : ev (pr T k) (.comp elt tg it c own) s0 = .ok d s) : ∃ ds, d = .lst ds := by
  unfold ev at h
  cases e : evi (pr T k) it s0 with
  | no => rw [e] at h; cases h
  | ex x s1 => rw [e] at h; cases h
  | ok ds s1 =>
    rw [e] at h
    simp only [Out.bind] at h
    split at h
    · split at h
      · cases h; exact ⟨_, rfl⟩
      · cases h
    · cases h
end
/-! ### while a dict of one's own is locked -/
section
variable {K : PySem.W.Frag} {mg : Str → Option Value} {κ κ' : Addr → Role} {w w' : Wd} {Fr H H' : Hp} {σ : L2.St} {s s' : S} {a : Addr} {u : HO} {od : Obj} {ob : Ob} {i : Nat}
theorem Here.lk (h : Here K mg κ w Fr σ H s) (g : σ[i]? = some (some (.ref a))) (hk : κ a = .ow i) (hu : H a = some u) (r : RepO K mg w a u ob) :
    Here K mg (upR κ a .fr) w (upd Fr a (.frz od u)) σ (upd H a (.frz od u)) (s.put i (.lk ob)) := by
  have ne : ∀ {b : Addr}, (∀ j, κ b ≠ .ow j) → b ≠ a := fun h z => h i (by rw [z]; exact hk)
  have nfr : ∀ {b v}, Fr b = some v → b ≠ a := fun e => ne fun j z => by have := (h.g.fr _ _ e).1; rw [this] at z; cases z
  refine ⟨⟨fun b o q => ?_, fun b o q => ?_, fun b q => ?_, h.g.len, fun b xs q => ?_, fun n b q => ?_⟩, by simp [S.put, h.len], fun j x q => ?_⟩
  · have z := h.g.fz b o q
    have y := ne (b := b) fun j y => by rw [z.1] at y; cases y
    rw [upR_ne y, upd_ne y]; exact z
  · by_cases z : b = a
    · subst z
      rw [upd_same] at q; cases q
      exact ⟨upR_same, upd_same⟩
    · rw [upd_ne z] at q
      rw [upR_ne z, upd_ne z]; exact h.g.fr b o q
  · by_cases z : b = a
    · subst z; rw [upd_same]; intro y; cases y
    · rw [upR_ne z] at q; rw [upd_ne z]; exact h.g.nf b q
  · by_cases z : b = a
    · subst z; rw [upd_same] at q; cases q
    · rw [upd_ne z] at q; rw [upR_ne z]; exact h.g.nt b xs q
  · obtain ⟨h1, o, v, h2, h3, h4⟩ := h.g.st n b q
    have y := ne (b := b) fun j y => by rw [h1] at y; cases y
    rw [upR_ne y]
    exact ⟨h1, o, v, h2, by rw [upd_ne y]; exact h3, h4⟩
  · rcases put_at q with ⟨rfl, rfl⟩ | ⟨hj, q⟩
    · exact ⟨a, od, u, g, upd_same, r⟩
    · have z := h.sl j x q
      cases x with
      | no => exact True.intro
      | val d => exact z
      | own o =>
        obtain ⟨b, v, e1, k1, h1, r1⟩ := z
        have y : b ≠ a := fun y => by subst y; rw [hk] at k1; exact hj (Role.ow.inj k1).symm
        exact ⟨b, v, e1, by rw [upR_ne y]; exact k1, by rw [upd_ne y]; exact h1, r1⟩
      | rd o =>
        obtain ⟨b, v, e1, h1, r1⟩ := z
        refine ⟨b, v, e1, ?_, r1⟩
        rcases h1 with h1 | ⟨o, h1⟩
        · exact .inl (by rw [upd_ne (nfr h1)]; exact h1)
        · exact .inr ⟨o, by rw [upd_ne (nfr h1)]; exact h1⟩
      | lk o =>
        obtain ⟨b, od', v, e1, h1, r1⟩ := z
        exact ⟨b, od', v, e1, by rw [upd_ne (nfr h1)]; exact h1, r1⟩
theorem Here.unlk (h : Here K mg κ w Fr σ H s) (g : σ[i]? = some (some (.ref a))) (hk : κ a = .ow i) (e : s.env[i]? = some (.own ob)) (l : w.le w') (ht : ∀ xs, u ≠ .tup xs) (r : RepO K mg w a u ob)
    (h' : Here K mg κ' w' (upd Fr a (.frz od u)) σ H' s') (ee : s'.env = (s.put i (.lk ob)).env) : H' a = some (.frz od u) ∧ Here K mg (upR κ' a (.ow i)) w' Fr σ (upd H' a u) ⟨s.env, s'.sto⟩ := by
  have ka := h'.g.fr a _ upd_same
  have nFr : ∀ {b v}, Fr b = some v → b ≠ a := fun q z => by subst z; have := (h.g.fr _ _ q).1; rw [hk] at this; cases this
  have ne : ∀ {b : Addr}, κ' b ≠ .fr → b ≠ a := fun h z => h (by rw [z]; exact ka.1)
  refine ⟨ka.2, ⟨fun b o q => ?_, fun b o q => ?_, fun b q => ?_, h'.g.len, fun b xs q => ?_, fun n b q => ?_⟩, h.len, fun j x q => ?_⟩
  · have z := h'.g.fz b o q
    have y := ne (b := b) (by rw [z.1]; intro y; cases y)
    rw [upR_ne y, upd_ne y]; exact z
  · have y := nFr q
    rw [upR_ne y, upd_ne y]; exact h'.g.fr b o (by rw [upd_ne y]; exact q)
  · by_cases z : b = a
    · subst z; rw [upd_same]; intro y; cases y
    · rw [upR_ne z] at q; rw [upd_ne z]; exact h'.g.nf b q
  · by_cases z : b = a
    · subst z; rw [upd_same] at q; exact absurd (Option.some.inj q) (ht xs)
    · rw [upd_ne z] at q; rw [upR_ne z]; exact h'.g.nt b xs q
  · obtain ⟨h1, o, v, h2, h3, h4⟩ := h'.g.st n b q
    have y := ne (b := b) (by rw [h1]; intro y; cases y)
    rw [upR_ne y]
    exact ⟨h1, o, v, h2, by rw [upd_ne y]; exact h3, h4⟩
  · have q : s.env[j]? = some x := q
    by_cases hj : j = i
    · subst hj
      rw [e] at q; cases q
      exact ⟨a, u, g, upR_same, upd_same, r.mono l⟩
    · have q' : s'.env[j]? = some x := by
        rw [ee]
        show (s.env.set i (.lk ob))[j]? = some x
        rw [List.getElem?_set_ne (Ne.symm hj)]; exact q
      have z := h'.sl j x q'
      have z0 := h.sl j x q
      cases x with
      | no => exact True.intro
      | val d => exact z
      | own o =>
        obtain ⟨b, v, e1, k1, h1, r1⟩ := z
        have y := ne (b := b) (by rw [k1]; intro y; cases y)
        exact ⟨b, v, e1, by rw [upR_ne y]; exact k1, by rw [upd_ne y]; exact h1, r1⟩
      | rd o =>
        obtain ⟨b, v, e1, h1, r1⟩ := z
        obtain ⟨b0, v0, e0, h0, _⟩ := z0
        rw [e1] at e0; cases e0
        have y : b ≠ a := by
          rcases h0 with h0 | ⟨_, h0⟩
          · exact nFr h0
          · exact nFr h0
        refine ⟨b, v, e1, ?_, r1⟩
        rcases h1 with h1 | ⟨o, h1⟩
        · exact .inl (by rw [upd_ne y] at h1; exact h1)
        · exact .inr ⟨o, by rw [upd_ne y] at h1; exact h1⟩
      | lk o =>
        obtain ⟨b, od', v, e1, h1, r1⟩ := z
        obtain ⟨b0, od0, v0, e0, h0, _⟩ := z0
        rw [e1] at e0; cases e0
        exact ⟨b, od', v, e1, by rw [upd_ne (nFr h0)] at h1; exact h1, r1⟩
end
section
variable {T : Txt} {k : Nat} {X : Cx} {W : WX} {pos : Pos}
theorem s_lkd {i : Nat} {e : E} {x : Expr} (henv : ∀ s0 d s, ev (pr T k) e s0 = .ok d s → s.env = s0.env) (he : PE X x (rd X W (ev (pr T k) e))) : PE X x (rd X W (ev (pr T k) (.lkd i e))) := by
  refine PE.weak (pe_lock he) fun σ H Q ⟨κ, w, Fr, s, hh, p⟩ => ?_
  unfold ev at p
  split at p
  · rename_i kvs e0
    obtain ⟨a, xs, g1, gk, gd, D⟩ := dct_at hh e0
    have ei : s.env[i]? = some (.own (.dT kvs)) := by
      unfold S.dct at e0
      split at e0
      · cases e0; assumption
      · cases e0
    refine ⟨a, dicO a xs, gd, True.intro, fun od => ⟨_, w, _, _, hh.lk (od := od) g1 gk gd D.rep', ?_⟩⟩
    cases eo : ev (pr T k) e (s.put i (.lk (.dT kvs))) with
    | no => rw [eo] at p; exact p.elim
    | ex y s1 => rw [eo] at p; exact p.elim
    | ok d s1 =>
      rw [eo] at p
      intro v κ' w' H' l h' r'
      obtain ⟨q1, q2⟩ := Here.unlk hh g1 gk ei l (fun _ z => by cases z) D.rep' h' (henv _ _ _ eo)
      exact ⟨q1, p v _ w' _ l q2 r'⟩
  · exact p.elim
theorem over_env {i : Nat} {e : E} (h : overB i e = true) (s0 : S) (d : D) (s : S) (q : ev (pr T k) e s0 = .ok d s) : s.env = s0.env := by
  cases e <;> first | (cases h; done) | skip
  rename_i elt tg it c own
  cases it <;> first | (cases h; done) | skip
  unfold ev evi at q
  split at q
  · simp only [Out.bind] at q
    split at q
    · split at q
      · cases q; rfl
      · cases q
    · cases q
  · cases q
end
end Z

set_option linter.all false
set_option autoImplicit false
set_option maxRecDepth 20000
/-! Expressions, all together. -/
namespace Z
open PySem PySem.Spec PyProof.Rows L2
section
variable {T : Txt} {k : Nat} {X : Cx} {W : WX} {pos : Pos}
theorem not_imp {a : E} {σ : L2.St} {H : Hp} {Q : Bool → Hp → Prop} (r : tB (rd X W (ev (pr T k) (.not a))) σ H Q) : tNot (tB (rd X W (ev (pr T k) a))) σ H Q := by
  obtain ⟨κ, w, Fr, s, hh, p⟩ := r
  unfold ev at p
  refine fromP hh p fun v κ1 w1 H1 s1 d l1 h1 r1 p1 => ?_
  split at p1
  · rename_i b
    cases r1
    obtain ⟨c, e, q⟩ := p1 _ _ _ _ .rfl h1 rfl
    cases e
    exact ⟨b, rfl, q⟩
  · exact p1.elim
theorem pw_of {op : BoolOp} {xs : List Expr} {t : TT} (h : PT X (.BoolOp op xs pos) t) : PW X (.BoolOp op xs pos) t := ⟨fun _ pins s σ H Q I q => h.run pins s σ H Q I q⟩
theorem PT.pw1 {x : Expr} {t : TT} (h : PT X x t) : PW X (.BoolOp .And [x] pos) t := pw_and1 h
/-- an if expression as a test -/
theorem pt_ifExp {c a b : Expr} {tc ta tb : TT} (hc : PT X c tc) (ha : PT X a ta) (hb : PT X b tb) : PT X (.IfExp c a b pos) (fun σ H Q => tc σ H fun d H1 => if d = true then ta σ H1 Q else tb σ H1 Q) := by
  refine ⟨fun pins s σ H Q I h => ?_⟩
  refine isTrue_IfExp (thn (hc.run pins s σ H _ I h) fun d s1 ⟨H1, I1, q1⟩ => ?_)
  cases d with
  | true => exact ha.run pins s1 σ H1 Q I1 q1
  | false => exact hb.run pins s1 σ H1 Q I1 q1
theorem tite_imp {c a b : E} {σ : L2.St} {H : Hp} {Q : Bool → Hp → Prop} (r : tB (rd X W (ev (pr T k) (.ite c a b))) σ H Q) :
    tB (rd X W (ev (pr T k) c)) σ H fun d H1 => if d = true then tB (rd X W (ev (pr T k) a)) σ H1 Q else tB (rd X W (ev (pr T k) b)) σ H1 Q := ite_imp r
def PostI.mvOnly : It → Bool
  | .mv _ => true
  | .mk _ => true
  | _ => false
theorem both {x : Expr} {f : S → Out D} (p : PE X x (rd X W f)) (he : ∀ whole, isTrue x X.env whole = (do let v ← whole; standAt x.pos; holding [v] (truthy v))) : PE X x (rd X W f) ∧ PT X x (tB (rd X W f)) := ⟨p, pt_val p he⟩
theorem bothI {tg x : Expr} {f : S → Out (List D)} {P : Prop} (p : PI X tg x (rdi X W f)) : PI X tg x (rdc X W f) ∧ (P → PI X tg x (rdi X W f)) := ⟨PI.weak p fun _ _ _ => rdc_rdi, fun _ => p⟩
theorem lit_ok {d : D} {v : V} {x : Expr} (h : PE X x (tC v)) (hr : ∀ w, Rep X.K X.mg w d v) (he : ∀ whole, isTrue x X.env whole = (do let v ← whole; standAt x.pos; holding [v] (truthy v))) :
    PE X x (rd X W (fun s => .ok d s)) ∧ PT X x (tB (rd X W (fun s => .ok d s))) := by
  have p : PE X x (rd X W (fun s => .ok d s)) := PE.weak h fun σ H Q r => rd.lit hr r
  exact ⟨p, pt_val p he⟩
end
section
variable {T : Txt} {k : Nat}
theorem okEs_shp : ∀ {es : Es} {xs : List Expr} {N : List Str} {sc : Scope}, okEs N sc es xs = true → ∀ z ∈ xs, shp z = true := fun {es xs N sc} h => okEs_star (es := es) h
theorem okEs_nil {es : Es} {N : List Str} {sc : Scope} (h : okEs N sc es [] = true) : es = .nil := by
  cases es with
  | nil => rfl
  | cons e r => simp [okEs] at h
def swTrue (sc : Scope) (y : Str) (py : Pos) : Expr → Bool
  | .ListComp _ _ scope pos => locB sc y && ((py.line == pos.line) && !(scope.names.any fun (n, k) => n == y && (k == .local || k == .cell)))
  | _ => false
theorem sw_of {sc : Scope} {y : Str} {py : Pos} {l : Nat} {env : Env} {v : Expr} (hk : env.scope.kind = .function) (hs : env.scope = sc) (h : swTrue sc y py v = true) : sc.names.lookup y = some .local ∧ swapsWith v (some (.Name y py)) l env = pure true := by
  unfold swTrue at h
  split at h
  · simp only [Bool.and_eq_true, Bool.not_eq_true'] at h
    obtain ⟨h1, h2, h3⟩ := h
    unfold locB at h1
    split at h1
    · rename_i q
      exact ⟨q, sw_true hk (by rw [hs]; exact q) h2 h3⟩
    · cases h1
  · cases h
theorem comp_ok {elt c : E} {tg : Tg} {it : It} {own : List Nat} {X : Cx} {W : WX} (C : Ctx T k X W) {x : Expr} (h : okE X.N X.env.scope (.comp elt tg it c own) x = true)
    (ihi : ∀ t ir, okI X.N X.env.scope (isTupX t) it ir = true → PI X t ir (rdc X W (evi (pr T k) it)))
    (ihe : ∀ X', Ctx T k X' W0 → ∀ x, okE X'.N X'.env.scope elt x = true → PE X' x (rd X' W0 (ev (pr T k) elt)))
    (ihc : ∀ X', Ctx T k X' W0 → ∀ x, okE X'.N X'.env.scope c x = true → PT X' x (tB (rd X' W0 (ev (pr T k) c)))) :
    PE X x (rdF X W (ev (pr T k) (.comp elt tg it c own))) ∧ ∀ (i : Nat) (y : Str) (py spos : Pos), X.N[i]? = some y → swTrue X.env.scope y py x = true → PS X (.Assign [.Name y py] x spos) (tAsg (rdF X W (ev (pr T k) (.comp elt tg it c own))) (gName i)) := by
  unfold okE at h; split at h <;> first | (cases h; done) | skip
  rename_i el t ir ifs scope pos
  simp only [Bool.and_eq_true] at h
  obtain ⟨h1, h2, h3, ⟨h4, h5⟩, h6, h7⟩ := h
  have z := s_compF (pos := pos) (ifs := ifs) (c := c) C h2 (ihi t ir h1) h3 (by simpa using h4) h5 (fun X' C' e1 e2 e3 e4 => ihe X' C' el (by rw [e1, e4]; exact h6)) fun X' C' e1 e2 e3 e4 => ?_
  · exact ⟨z.1, fun i y py spos e1 e2 => let ⟨q1, q2⟩ := sw_of (l := spos.line) C.kind rfl e2; z.2 i y py spos e1 q1 q2⟩
  split at h7
  · split at h7 <;> first | (cases h7; done) | skip
    refine ⟨fun pins s σ H Q I q => pts_nil.run pins s σ H Q I ?_⟩
    obtain ⟨κ, w, Fr, s, hh, p⟩ := q
    unfold ev at p
    obtain ⟨b, e, q⟩ := p (.bl true) κ w H .rfl hh rfl
    cases e; exact q
  · exact pts_one (ihc X' C' _ (by rw [e1, e4]; exact h7))
  · cases h7
set_option maxHeartbeats 2000000 in
mutual
theorem snd_e : ∀ (e : E) (X : Cx) (W : WX) (C : Ctx T k X W) (x : Expr), okE X.N X.env.scope e x = true → PE X x (rd X W (ev (pr T k) e)) ∧ PT X x (tB (rd X W (ev (pr T k) e)))
  | .var i, X, W, C, x, h => by
    unfold okE at h; split at h <;> first | (cases h; done) | skip
    exact ⟨s_var h, pt_val (s_var h) (fun _ => rfl)⟩
  | .con c, X, W, C, x, h => by
    unfold okE at h; split at h <;> first | (cases h; done) | skip
    exact ⟨s_con C h, pt_val (s_con C h) (fun _ => rfl)⟩
  | .int i, X, W, C, x, h => by
    unfold okE at h; split at h <;> first | (cases h; done) | skip
    cases of_decide_eq_true h
    rw [show ev (pr T k) (.int i) = fun s => .ok (.int i) s from funext fun s => by unfold ev; rfl]
    exact lit_ok pe_int (fun _ => rfl) (fun _ => rfl)
  | .str z, X, W, C, x, h => by
    unfold okE at h; split at h <;> first | (cases h; done) | skip
    cases of_decide_eq_true h
    rw [show ev (pr T k) (.str z) = fun s => .ok (.str (Str.ofString z)) s from funext fun s => by unfold ev; rfl]
    exact lit_ok pe_str (fun _ => rfl) (fun _ => rfl)
  | .bl b, X, W, C, x, h => by
    unfold okE at h; split at h <;> first | (cases h; done) | skip
    cases eq_of_beq h
    rw [show ev (pr T k) (.bl b) = fun s => .ok (.bl b) s from funext fun s => by unfold ev; rfl]
    exact lit_ok pe_bl (fun _ => rfl) (fun _ => rfl)
  | .non, X, W, C, x, h => by
    unfold okE at h; split at h <;> first | (cases h; done) | skip
    rw [show ev (pr T k) .non = fun s => .ok .non s from funext fun s => by unfold ev; rfl]
    exact lit_ok pe_non (fun _ => rfl) (fun _ => rfl)
  | .tup es, X, W, C, x, h => by
    unfold okE at h; split at h <;> first | (cases h; done) | skip
    exact both (s_tup (X := X) (W := W) (snd_es es X W C _ h)) (fun _ => rfl)
  | .lst es, X, W, C, x, h => by
    unfold okE at h; split at h <;> first | (cases h; done) | skip
    exact both (s_lst (X := X) (W := W) (snd_es es X W C _ h)) (fun _ => rfl)
  | .bin o a b, X, W, C, x, h => by
    unfold okE at h; split at h <;> first | (cases h; done) | skip
    simp only [Bool.and_eq_true] at h
    exact both (s_bin (X := X) (W := W) h.1 (snd_e a X W C _ h.2.1).1 (snd_e b X W C _ h.2.2).1) (fun _ => rfl)
  | .neg a, X, W, C, x, h => by
    unfold okE at h; split at h <;> first | (cases h; done) | skip
    exact both (s_neg (X := X) (W := W) (snd_e a X W C _ h).1) (fun _ => rfl)
  | .not a, X, W, C, x, h => by
    unfold okE at h; split at h <;> first | (cases h; done) | skip
    have q := snd_e a X W C _ h
    exact ⟨s_not q.1, PT.weak (pt_not q.2) fun σ H Q => not_imp⟩
  | .cmp o a b, X, W, C, x, h => by
    unfold okE at h; split at h <;> first | (cases h; done) | skip
    simp only [Bool.and_eq_true] at h
    have q1 := (snd_e a X W C _ h.2.1).1
    have q2 := (snd_e b X W C _ h.2.2.1).1
    exact ⟨s_cmp C h.1 h.2.2.2 q1 q2, t_cmp C h.1 h.2.2.2 q1 q2⟩
  | .cmp2 o p a b c, X, W, C, x, h => by
    unfold okE at h; split at h <;> first | (cases h; done) | skip
    simp only [Bool.and_eq_true] at h
    obtain ⟨h1, h2, h3, h4, h5, h6, h7⟩ := h
    have q1 := (snd_e a X W C _ h3).1
    have q2 := (snd_e b X W C _ h4).1
    have q3 := (snd_e c X W C _ h5).1
    exact ⟨s_cmp2 C h1 h2 h7 q1 q2 q3, t_cmp2 C h1 h2 h7 q1 q2 q3⟩
  | .and a b, X, W, C, x, h => by
    unfold okE at h; split at h <;> first | (cases h; done) | skip
    rename_i y z r pos
    simp only [Bool.and_eq_true] at h
    have q1 := snd_e a X W C _ h.1
    cases r with
    | nil =>
      have q2 := snd_e b X W C _ h.2
      exact ⟨PE.weak (pe_and q1.1 (pe_one q2.1)) fun σ H Q => and_imp, PT.weak (pw_and q1.2 (pw_and1 q2.2)).pt fun σ H Q => tand_imp⟩
    | cons z2 r =>
      have q2 := snd_e b X W C _ h.2
      exact ⟨PE.weak (pe_and q1.1 q2.1) fun σ H Q => and_imp, PT.weak (pw_and q1.2 (pw_of q2.2)).pt fun σ H Q => tand_imp⟩
  | .or a b, X, W, C, x, h => by
    unfold okE at h; split at h <;> first | (cases h; done) | skip
    rename_i y z r pos
    simp only [Bool.and_eq_true] at h
    have q1 := snd_e a X W C _ h.1
    cases r with
    | nil =>
      have q2 := snd_e b X W C _ h.2
      exact ⟨PE.weak (pe_or q1.1 (pe_one q2.1)) fun σ H Q => or_imp, PT.weak (pw_or q1.2 (pw_or1 q2.2)).pt fun σ H Q => tor_imp⟩
    | cons z2 r =>
      have q2 := snd_e b X W C _ h.2
      exact ⟨PE.weak (pe_or q1.1 q2.1) fun σ H Q => or_imp, PT.weak (pw_or q1.2 (pw_of q2.2)).pt fun σ H Q => tor_imp⟩
  | .ite c a b, X, W, C, x, h => by
    unfold okE at h; split at h <;> first | (cases h; done) | skip
    simp only [Bool.and_eq_true] at h
    have q1 := snd_e c X W C _ h.1
    have q2 := snd_e a X W C _ h.2.1
    have q3 := snd_e b X W C _ h.2.2
    exact ⟨PE.weak (pe_ifExp q1.2 q2.1 q3.1) fun σ H Q => ite_imp, PT.weak (pt_ifExp q1.2 q2.2 q3.2) fun σ H Q => tite_imp⟩
  | .call f es, X, W, C, x, h => by
    unfold okE at h; split at h <;> first | (cases h; done) | skip
    simp only [Bool.and_eq_true] at h
    have q := snd_es es X W C _ h.2
    exact both (s_call C h.1 (okEs_shp h.2) q) (fun _ => rfl)
  | .callk f n nks ks es fs, X, W, C, x, h => by
    unfold okE at h; split at h <;> first | (cases h; done) | skip
    simp only [Bool.and_eq_true] at h
    obtain ⟨h1, h2, h3⟩ := h
    exact both (s_callk C h1 (okEs_shp h2) (fun e => by rw [e] at h2; exact okEs_nil h2) (kwx_of h3) (snd_es es X W C _ h2) (snd_ks fs nks X W C _ h3)) (fun _ => rfl)
  | .blt f es, X, W, C, x, h => by
    unfold okE at h; split at h <;> first | (cases h; done) | skip
    simp only [Bool.and_eq_true] at h
    have q := snd_es es X W C _ h.2.2
    exact both (s_blt C (fun t e => by have h1 := h.1; rw [e] at h1; cases h1) h.2.1 (okEs_shp h.2.2) q) (fun _ => rfl)
  | .isi t e, X, W, C, x, h => by
    unfold okE at h; split at h <;> first | (cases h; done) | skip
    simp only [Bool.and_eq_true] at h
    obtain ⟨h1, h2, h3, h4⟩ := h
    unfold isName at h4; split at h4 <;> first | (cases h4; done) | skip
    exact both (s_isi C h1 h4 h3 (snd_e e X W C _ h2).1) (fun _ => rfl)
  | .idx a i, X, W, C, x, h => by
    unfold okE at h; split at h <;> first | (cases h; done) | skip
    simp only [Bool.and_eq_true] at h
    exact both (s_idx h.2.2 (snd_e a X W C _ h.1).1 (snd_e i X W C _ h.2.1).1) (fun _ => rfl)
  | .slc a lo hi, X, W, C, x, h => by
    unfold okE at h; split at h <;> first | (cases h; done) | skip
    simp only [Bool.and_eq_true] at h
    exact both (s_slc (snd_e a X W C _ h.1).1 (snd_o lo X W C _ h.2.1) (snd_o hi X W C _ h.2.2)) (fun _ => rfl)
  | .rev a, X, W, C, x, h => by
    unfold okE at h; split at h <;> first | (cases h; done) | skip
    exact both (s_rev (snd_e a X W C _ h).1) (fun _ => rfl)
  | .comp elt tg it c own, X, W, C, x, h => by
    have hx : ∃ el sc gs pos, x = .ListComp el gs sc pos := by
      unfold okE at h; split at h <;> first | (cases h; done) | skip
      exact ⟨_, _, _, _, rfl⟩
    obtain ⟨el, sc, gs, pos, rfl⟩ := hx
    exact both (rdF_rd (fun s0 d s e => comp_is s0 d s e) (comp_ok C h (fun t ir h => (snd_i it X W C t ir h).1) (fun X' C' x h => (snd_e elt X' W0 C' x h).1) (fun X' C' x h => (snd_e c X' W0 C' x h).2)).1) (fun _ => rfl)
  | .frz i, X, W, C, x, h => by
    unfold okE at h; split at h <;> first | (cases h; done) | skip
    exact ⟨s_frz h, pt_val (s_frz h) (fun _ => rfl)⟩
  | .mlen i, X, W, C, x, h => by
    unfold okE at h; split at h <;> first | (cases h; done) | skip
    simp only [Bool.and_eq_true] at h
    exact both (s_mlen C h.1 h.2) (fun _ => rfl)
  | .midx i e, X, W, C, x, h => by
    unfold okE at h; split at h <;> first | (cases h; done) | skip
    simp only [Bool.and_eq_true] at h
    exact both (s_midx h.1 h.2.2 (snd_e e X W C _ h.2.1).1) (fun _ => rfl)
  | .mnil i b, X, W, C, x, h => by
    unfold okE at h; split at h <;> first | (cases h; done) | skip
    simp only [Bool.and_eq_true] at h
    obtain ⟨h1, h2, h3⟩ := h
    unfold isNil at h2; split at h2 <;> first | (cases h2; done) | skip
    exact s_mnil C h1 h3
  | .mtup i, X, W, C, x, h => by
    unfold okE at h; split at h <;> first | (cases h; done) | skip
    simp only [Bool.and_eq_true] at h
    exact both (s_mtup C h.1 h.2) (fun _ => rfl)
  | .mpop i, X, W, C, x, h => by
    unfold okE at h; split at h <;> first | (cases h; done) | skip
    exact both (s_mpop (X := X) (W := W) (T := T) (k := k) h) (fun _ => rfl)
  | .mget i kk d, X, W, C, x, h => by
    unfold okE at h; split at h <;> first | (cases h; done) | skip
    simp only [Bool.and_eq_true] at h
    obtain ⟨h1, h2, h3, h4, h5⟩ := h
    exact both (s_mget C h1 h4 h5 (snd_e kk X W C _ h2).1 (snd_e d X W C _ h3).1) (fun _ => rfl)
  | .mpopk i kk, X, W, C, x, h => by
    unfold okE at h; split at h <;> first | (cases h; done) | skip
    simp only [Bool.and_eq_true] at h
    obtain ⟨h1, h2, h3⟩ := h
    exact both (s_mpopk C h1 h3 (snd_e kk X W C _ h2).1) (fun _ => rfl)
  | .lkd i e, X, W, C, x, h => by
    unfold okE at h
    simp only [Bool.and_eq_true] at h
    have hx : ∃ el sc gs pos, x = .ListComp el gs sc pos := by
      have h1 := h.1
      have h2 := h.2
      cases e <;> first | (cases h1; done) | skip
      unfold okE at h2; split at h2 <;> first | (cases h2; done) | skip
      exact ⟨_, _, _, _, rfl⟩
    obtain ⟨el, sc, gs, pos, rfl⟩ := hx
    exact both (s_lkd (over_env h.1) (snd_e e X W C _ h.2).1) (fun _ => rfl)
theorem snd_es : ∀ (es : Es) (X : Cx) (W : WX) (C : Ctx T k X W) (xs : List Expr), okEs X.N X.env.scope es xs = true → PA X xs (rdl X W (evs (pr T k) es))
  | .nil, X, W, C, xs, h => by
    unfold okEs at h; split at h <;> first | (cases h; done) | skip
    exact s_nil
  | .cons e r, X, W, C, xs, h => by
    unfold okEs at h; split at h <;> first | (cases h; done) | skip
    simp only [Bool.and_eq_true] at h
    exact s_cons h.2.1 (snd_e e X W C _ h.1).1 (snd_es r X W C _ h.2.2)
theorem snd_ks : ∀ (es : Es) (nks : List String) (X : Cx) (W : WX) (C : Ctx T k X W) (kws : List Keyword), okKs X.N X.env.scope es nks kws = true → PK X kws (rdl X W (evs (pr T k) es))
  | .nil, nks, X, W, C, kws, h => by
    unfold okKs at h; split at h <;> first | (cases h; done) | skip
    exact s_knil
  | .cons e r, nks, X, W, C, kws, h => by
    unfold okKs at h; split at h <;> first | (cases h; done) | skip
    simp only [Bool.and_eq_true] at h
    exact s_kcons (snd_e e X W C _ h.2.1).1 (snd_ks r _ X W C _ h.2.2)
theorem snd_o : ∀ (eo : Eo) (X : Cx) (W : WX) (C : Ctx T k X W) (xo : Option Expr), okEo X.N X.env.scope eo xo = true → PO X xo (rdo X W (evo (pr T k) eo))
  | .no, X, W, C, xo, h => by
    unfold okEo at h; split at h <;> first | (cases h; done) | skip
    exact s_ono
  | .so e, X, W, C, xo, h => by
    unfold okEo at h; split at h <;> first | (cases h; done) | skip
    exact s_oso (snd_e e X W C _ h).1
theorem snd_i : ∀ (it : It) (X : Cx) (W : WX) (C : Ctx T k X W) (tg x : Expr), okI X.N X.env.scope (isTupX tg) it x = true → PI X tg x (rdc X W (evi (pr T k) it)) ∧ (PostI.mvOnly it = false → PI X tg x (rdi X W (evi (pr T k) it)))
  | .seq e, X, W, C, tg, x, h => by
    unfold okI at h
    exact bothI (w_seq (tg := tg) (snd_e e X W C _ h).1)
  | .mv i, X, W, C, tg, x, h => by
    unfold okI at h; split at h <;> first | (cases h; done) | skip
    exact ⟨w_mv h, fun z => by cases z⟩
  | .mk i, X, W, C, tg, x, h => by
    unfold okI at h; split at h <;> first | (cases h; done) | skip
    exact ⟨w_mk h, fun z => by cases z⟩
  | .rng e, X, W, C, tg, x, h => by
    unfold okI at h; split at h <;> first | (cases h; done) | skip
    simp only [Bool.and_eq_true] at h
    exact bothI (w_rng (tg := tg) C h.1 h.2.2 (snd_e e X W C _ h.2.1).1)
  | .rng2 a b, X, W, C, tg, x, h => by
    unfold okI at h; split at h <;> first | (cases h; done) | skip
    simp only [Bool.and_eq_true] at h
    exact bothI (w_rng2 (tg := tg) C h.1 h.2.2.2.1 h.2.2.2.2 (snd_e a X W C _ h.2.1).1 (snd_e b X W C _ h.2.2.1).1)
  | .enum e, X, W, C, tg, x, h => by
    unfold okI at h; split at h <;> first | (cases h; done) | skip
    simp only [Bool.and_eq_true] at h
    exact bothI (w_enum (tg := tg) C h.1.1 h.1.2 h.2.2 (snd_e e X W C _ h.2.1).1)
  | .zip a b, X, W, C, tg, x, h => by
    unfold okI at h; split at h <;> first | (cases h; done) | skip
    simp only [Bool.and_eq_true] at h
    exact bothI (w_zip (tg := tg) C h.1.1 h.1.2 h.2.2.2.1 h.2.2.2.2 (snd_e a X W C _ h.2.1).1 (snd_e b X W C _ h.2.2.1).1)
  | .ezip a b, X, W, C, tg, x, h => by simp [okI] at h
end
theorem snd_cF (elt : E) (tg : Tg) (it : It) (c : E) (own : List Nat) (X : Cx) (W : WX) (C : Ctx T k X W) (x : Expr) (h : okE X.N X.env.scope (.comp elt tg it c own) x = true) :
    PE X x (rdF X W (ev (pr T k) (.comp elt tg it c own))) ∧ ∀ (i : Nat) (y : Str) (py spos : Pos), X.N[i]? = some y → swTrue X.env.scope y py x = true → PS X (.Assign [.Name y py] x spos) (tAsg (rdF X W (ev (pr T k) (.comp elt tg it c own))) (gName i)) :=
  comp_ok C h (fun t ir h => (snd_i it X W C t ir h).1) (fun X' C' x h => (snd_e elt X' W0 C' x h).1) (fun X' C' x h => (snd_e c X' W0 C' x h).2)
end
end Z

set_option linter.all false
set_option autoImplicit false
set_option maxRecDepth 20000
/-! Statements. -/
namespace Z
open PySem PySem.Spec PyProof.Rows L2
def PostS (K : PySem.W.Frag) (mg : Str → Option Value) (W : WX) (w : Wd) (Fr : Hp) (Dn : Ends) : OutS → Prop
  | .nx s => ∀ κ' w' H' σ', w.le w' → Here K mg κ' w' Fr σ' H' s → Dn.nx σ' H'
  | .rt d s => ∀ v κ' w' H' σ', w.le w' → Here K mg κ' w' Fr σ' H' s → Rep K mg w' d v → Dn.rt v H'
  | .bk s => ∀ κ' w' H' σ', w.le w' → Here K mg κ' w' Fr σ' H' s → Dn.bk σ' H'
  | .ct s => ∀ κ' w' H' σ', w.le w' → Here K mg κ' w' Fr σ' H' s → Dn.ct σ' H'
  | .ex x s => ∀ κ' w' H' σ' C dx, w.le w' → Here K mg κ' w' Fr σ' H' s → ExOk K mg w' x C dx → W C dx σ' H'
  | .no => False
def rdS (X : Cx) (W : WX) (f : S → OutS) : TS := fun Dn σ H => ∃ κ w Fr s, Here X.K X.mg κ w Fr σ H s ∧ PostS X.K X.mg W w Fr Dn (f s)
theorem PS.weak {X : Cx} {st : Stmt} {t t' : TS} (h : PS X st t) (k : ∀ D σ H, t' D σ H → t D σ H) : PS X st t' := ⟨fun pins s σ H D I q => h.run pins s σ H D I (k D σ H q)⟩
theorem PSs.weak {X : Cx} {st : List Stmt} {t t' : TS} (h : PSs X st t) (k : ∀ D σ H, t' D σ H → t D σ H) : PSs X st t' := ⟨fun pins s σ H D I q => h.run pins s σ H D I (k D σ H q)⟩
theorem PS.never {X : Cx} {st : Stmt} {t : TS} (h : ∀ D σ H, ¬ t D σ H) : PS X st t := ⟨fun pins s σ H D I q => (h D σ H q).elim⟩
section
variable {X : Cx} {W : WX} {w w' : Wd} {Fr : Hp} {Dn : Ends} {σ : L2.St} {H : Hp} {κ : Addr → Role} {s : S}
theorem PostS.mono (l : w.le w') : ∀ {o : OutS}, PostS X.K X.mg W w Fr Dn o → PostS X.K X.mg W w' Fr Dn o
  | .nx s, h => fun κ' w2 H' σ' l2 => h κ' w2 H' σ' (l.trans l2)
  | .rt d s, h => fun v κ' w2 H' σ' l2 => h v κ' w2 H' σ' (l.trans l2)
  | .bk s, h => fun κ' w2 H' σ' l2 => h κ' w2 H' σ' (l.trans l2)
  | .ct s, h => fun κ' w2 H' σ' l2 => h κ' w2 H' σ' (l.trans l2)
  | .ex x s, h => fun κ' w2 H' σ' C dx l2 => h κ' w2 H' σ' C dx (l.trans l2)
  | .no, h => h
theorem fromS {f : S → Out D} {h : D → S → OutS} {R : VK} (hh : Here X.K X.mg κ w Fr σ H s) (p : PostS X.K X.mg W w Fr Dn ((f s).then_ h))
    (kk : ∀ v κ1 w1 H1 s1 d, w.le w1 → Here X.K X.mg κ1 w1 Fr σ H1 s1 → Rep X.K X.mg w1 d v → PostS X.K X.mg W w1 Fr Dn (h d s1) → R v H1) : rd X W f σ H R := by
  refine ⟨κ, w, Fr, s, hh, ?_⟩
  revert p
  cases f s with
  | ok d s1 => exact fun p v κ1 w1 H1 l1 h1 r1 => kk v κ1 w1 H1 s1 d l1 h1 r1 (PostS.mono l1 p)
  | ex x s1 => exact fun p κ' w' H' C dx => p κ' w' H' σ C dx
  | no => exact fun p => p
theorem fromSL {f : S → Out (List D)} {h : List D → S → OutS} {R : List V → Hp → Prop} (hh : Here X.K X.mg κ w Fr σ H s) (p : PostS X.K X.mg W w Fr Dn ((f s).then_ h))
    (kk : ∀ v κ1 w1 H1 s1 d, w.le w1 → Here X.K X.mg κ1 w1 Fr σ H1 s1 → Reps X.K X.mg w1 d v → PostS X.K X.mg W w1 Fr Dn (h d s1) → R v H1) : rdl X W f σ H R := by
  refine ⟨κ, w, Fr, s, hh, ?_⟩
  revert p
  cases f s with
  | ok d s1 => exact fun p v κ1 w1 H1 l1 h1 r1 => kk v κ1 w1 H1 s1 d l1 h1 r1 (PostS.mono l1 p)
  | ex x s1 => exact fun p κ' w' H' C dx => p κ' w' H' σ C dx
  | no => exact fun p => p
theorem fromSF {f : S → Out D} {h : D → S → OutS} {R : VK} (hl : ∀ s0 d s, f s0 = .ok d s → ∃ ds, d = .lst ds) (hh : Here X.K X.mg κ w Fr σ H s) (p : PostS X.K X.mg W w Fr Dn ((f s).then_ h))
    (kk : ∀ q xs κ1 w1 H1 s1 ds, w.le w1 → Here X.K X.mg κ1 w1 Fr σ H1 s1 → H1 q = none → Reps X.K X.mg w1 ds xs → PostS X.K X.mg W w1 Fr Dn (h (.lst ds) s1) → R (.ref q) (upd H1 q (.lst xs))) : rdF X W f σ H R := by
  refine ⟨κ, w, Fr, s, hh, ?_⟩
  revert p
  cases e : f s with
  | ok d s1 =>
    obtain ⟨ds, rfl⟩ := hl s d s1 e
    exact fun p q xs κ1 w1 H1 l1 h1 n r => kk q xs κ1 w1 H1 s1 ds l1 h1 n r (PostS.mono l1 p)
  | ex x s1 => exact fun p κ' w' H' C dx => p κ' w' H' σ C dx
  | no => exact fun p => p
theorem OutS.of_some {r : R S} (p : PostS X.K X.mg W w Fr Dn (.of r)) : ∃ s, r = some s ∧ PostS X.K X.mg W w Fr Dn (.nx s) := by
  cases r with
  | none => exact p.elim
  | some s => exact ⟨s, rfl, p⟩
/-- a slot gets a new object of its own -/
theorem Here.ownNew {K : PySem.W.Frag} {mg : Str → Option Value} {p : Addr} {o : HO} {ob : Ob} {i : Nat} (h : Here K mg κ w Fr σ H s) (n : H p = none) (ht : ∀ xs, o ≠ .tup xs) (r : RepO K mg w p o ob) :
    Here K mg (upR κ p (.ow i)) w Fr (σ.set i (some (.ref p))) (upd H p o) (s.put i (.own ob)) := by
  have ne : ∀ {a : Addr} {u : HO}, H a = some u → a ≠ p := fun e => ne_of_none e n
  refine ⟨⟨fun a u e => ?_, fun a u e => ?_, fun a e => ?_, h.g.len, fun a xs e => ?_, fun m a e => ?_⟩, by simp [S.put, h.len], fun j x e => ?_⟩
  · have q := h.g.fz a u e
    rw [upR_ne (ne q.2), upd_ne (ne q.2)]; exact q
  · have q := h.g.fr a u e
    rw [upR_ne (ne q.2), upd_ne (ne q.2)]; exact q
  · by_cases q : a = p
    · subst q; rw [upd_same]; intro z; cases z
    · rw [upR_ne q] at e; rw [upd_ne q]; exact h.g.nf a e
  · by_cases q : a = p
    · subst q; rw [upd_same] at e; exact absurd (Option.some.inj e) (ht xs)
    · rw [upd_ne q] at e; rw [upR_ne q]; exact h.g.nt a xs e
  · obtain ⟨h1, ob', u, h2, h3, h4⟩ := h.g.st m a e
    rw [upR_ne (ne h3)]
    exact ⟨h1, ob', u, h2, by rw [upd_ne (ne h3)]; exact h3, h4⟩
  · rcases put_at e with ⟨rfl, rfl⟩ | ⟨hj, e⟩
    · have hi : j < σ.length := by
        rw [← h.len]
        have := (List.getElem?_eq_some_iff.mp e).1
        simpa [S.put] using this
      exact ⟨p, o, by rw [List.getElem?_set_self hi], upR_same, upd_same, r⟩
    · rw [List.getElem?_set_ne (Ne.symm hj)]
      refine (h.sl j x e).keep .rfl fun a u hb hv => ?_
      rw [upR_ne (ne hv), upd_ne (ne hv)]; exact ⟨hb, hv⟩
end
/-! ### where statements stand -/
structure SCtx (T : Txt) (k : Nat) (X : Cx) (W : WX) : Prop where
  c : Ctx T k X W
  own : PassesOwn (model X.prog X.w) X.A X.env X.xe
  fn : ∀ y, X.fn y = true
  stk : X.stack = X.env :: X.outer
  frm : X.env.frame = some X.env.locals
theorem SCtx.bd {T : Txt} {k : Nat} {X : Cx} {W : WX} (C : SCtx T k X W) : Bd X X.env.scope := by
  refine ⟨fun y h => ⟨?_, .inl (C.fn y)⟩⟩
  rcases (Bool.or_eq_true _ _).mp h with h | h
  · unfold locB at h
    split at h
    · exact .inl (by assumption)
    · cases h
  · unfold cellB at h
    split at h
    · exact .inr (by assumption)
    · cases h
def noComp : Expr → Bool
  | .ListComp .. => false
  | .SetComp .. => false
  | .DictComp .. => false
  | _ => true
theorem sw_none {v : Expr} {t : Option Expr} {l : Nat} {env : Env} (h : noComp v = true) : swapsWith v t l env = pure false := by
  cases v <;> first | rfl | (cases h)
theorem sw_false {sc : Scope} {y : Str} {py : Pos} {l : Nat} {env : Env} {el : Expr} {gs : List Comprehension} {scope : Scope} {pos : Pos} (hk : env.scope.kind = .function) (hs : env.scope = sc) (h : swTrue sc y py (.ListComp el gs scope pos) = false) :
    swapsWith (.ListComp el gs scope pos) (some (.Name y py)) l env = pure false := by
  have hb : env.blockKind = .function := by unfold Env.blockKind; rw [hk]; rfl
  have hl : (env.kindOf y == some .local) = locB sc y := by
    show (env.scope.names.lookup y == some .local) = locB sc y
    rw [hs]
    unfold locB
    cases sc.names.lookup y with
    | none => rfl
    | some k => cases k <;> rfl
  have e : swapsWith (.ListComp el gs scope pos) (some (.Name y py)) l env = pure (env.blockKind == .function && env.kindOf y == some .local && py.line == pos.line && !(scope.names.any fun (n, k) => n == y && (k == .local || k == .cell))) := rfl
  rw [e, hb, hl]
  unfold swTrue at h
  show pure ((true && locB sc y) && py.line == pos.line && !(scope.names.any fun (n, k) => n == y && (k == .local || k == .cell))) = pure false
  rw [Bool.true_and, Bool.and_assoc]
  exact congrArg pure h
/-! ### one after another -/
section
variable {T : Txt} {k : Nat} {X : Cx} {W : WX} {pos : Pos}
theorem p_ret {e : E} {x : Expr} (he : PE X x (rd X W (ev (pr T k) e))) : PS X (.Return (some x) pos) (rdS X W (evSt (pr T k) (.ret e))) := by
  refine PS.weak (ps_ret he) fun Dn σ H ⟨κ, w, Fr, s, hh, p⟩ => ?_
  unfold evSt at p
  exact fromS hh p fun v κ1 w1 H1 s1 d l1 h1 r1 p1 => p1 v κ1 w1 H1 σ .rfl h1 r1
theorem p_retn : PS X (.Return none pos) (rdS X W (evSt (pr T k) .retn)) := by
  refine PS.weak ps_retN fun Dn σ H ⟨κ, w, Fr, s, hh, p⟩ => ?_
  unfold evSt at p
  exact p .non κ w H σ .rfl hh rfl
/-- a new list goes out as an object of the store -/
theorem Here.toSto {K : PySem.W.Frag} {mg : Str → Option Value} {κ : Addr → Role} {w : Wd} {Fr H : Hp} {σ : L2.St} {s : S} {p : Addr} {xs : List V} {ds : List D} (h : Here K mg κ w Fr σ H s) (n : H p = none) (r : Reps K mg w ds xs) :
    w.le ⟨w.ρ ++ [p], w.F⟩ ∧ Here K mg (upR κ p (.st s.sto.length)) ⟨w.ρ ++ [p], w.F⟩ Fr σ (upd H p (.lst xs)) { s with sto := s.sto ++ [.lst ds] } := by
  have le : w.le ⟨w.ρ ++ [p], w.F⟩ := ⟨⟨[p], rfl⟩, fun _ _ e => e⟩
  have ne : ∀ {a : Addr} {u : HO}, H a = some u → a ≠ p := fun e => ne_of_none e n
  refine ⟨le, ⟨⟨fun a u e => ?_, fun a u e => ?_, fun a e => ?_, by simp [h.g.len], fun a ys e => ?_, fun m a e => ?_⟩, h.len, fun j x e => ?_⟩⟩
  · have q := h.g.fz a u e
    rw [upR_ne (ne q.2), upd_ne (ne q.2)]; exact q
  · have q := h.g.fr a u e
    rw [upR_ne (ne q.2), upd_ne (ne q.2)]; exact q
  · by_cases q : a = p
    · subst q; rw [upd_same]; intro z; cases z
    · rw [upR_ne q] at e; rw [upd_ne q]; exact h.g.nf a e
  · by_cases q : a = p
    · subst q; rw [upd_same] at e; cases e
    · rw [upd_ne q] at e; rw [upR_ne q]; exact h.g.nt a ys e
  · have e : (w.ρ ++ [p])[m]? = some a := e
    by_cases hm : m < w.ρ.length
    · rw [List.getElem?_append_left hm] at e
      obtain ⟨h1, ob, u, h2, h3, h4⟩ := h.g.st m a e
      rw [upR_ne (ne h3)]
      exact ⟨h1, ob, u, by rw [List.getElem?_append_left (by rw [← h.g.len]; exact hm)]; exact h2, by rw [upd_ne (ne h3)]; exact h3, h4.mono le⟩
    · have hm2 : m = w.ρ.length := by
        have := (List.getElem?_eq_some_iff.mp e).1
        simp at this; omega
      subst hm2
      rw [List.getElem?_append_right (Nat.le_refl _), Nat.sub_self] at e
      cases e
      exact ⟨by rw [upR_same, h.g.len], .lst ds, .lst xs, by rw [h.g.len, List.getElem?_append_right (Nat.le_refl _), Nat.sub_self]; rfl, upd_same, xs, rfl, Reps.mono le _ _ r⟩
  · refine (h.sl j x e).keep le fun a u hb hv => ?_
    rw [upR_ne (ne hv), upd_ne (ne hv)]; exact ⟨hb, hv⟩
theorem p_retS {e : E} {x : Expr} (hl : ∀ s0 d s, ev (pr T k) e s0 = .ok d s → ∃ ds, d = .lst ds) (he : PE X x (rdF X W (ev (pr T k) e))) : PS X (.Return (some x) pos) (rdS X W (evSt (pr T k) (.retS e))) := by
  refine PS.weak (ps_ret he) fun Dn σ H ⟨κ, w, Fr, s, hh, p⟩ => ?_
  unfold evSt at p
  refine fromSF hl hh p fun q xs κ1 w1 H1 s1 ds l1 h1 n r1 p1 => ?_
  obtain ⟨l2, h2⟩ := h1.toSto (ds := ds) n r1
  exact p1 _ _ _ _ σ l2 h2 ⟨q, rfl, by rw [← h1.g.len]; show (w1.ρ ++ [q])[w1.ρ.length]? = some q; rw [List.getElem?_append_right (Nat.le_refl _), Nat.sub_self]; rfl⟩
theorem p_pass : PS X (.Pass pos) (rdS X W (evSt (pr T k) .pass)) := by
  refine PS.weak ps_pass fun Dn σ H ⟨κ, w, Fr, s, hh, p⟩ => ?_
  unfold evSt at p
  exact p κ w H σ .rfl hh
theorem p_doc {x : Str} {j : Nat} {p1 : Pos} : PS X (.Expr (.Constant (.str x) j p1) pos) (rdS X W (evSt (pr T k) .pass)) := by
  refine PS.weak ps_doc fun Dn σ H ⟨κ, w, Fr, s, hh, p⟩ => ?_
  unfold evSt at p
  exact p κ w H σ .rfl hh
theorem p_exp {e : E} {x : Expr} (hx : noComp x = true) (he : PE X x (rd X W (ev (pr T k) e))) : PS X (.Expr x pos) (rdS X W (evSt (pr T k) (.exp e))) := by
  refine PS.weak (ps_expr he (sw_none hx)) fun Dn σ H ⟨κ, w, Fr, s, hh, p⟩ => ?_
  unfold evSt at p
  exact fromS hh p fun v κ1 w1 H1 s1 d l1 h1 r1 p1 => p1 κ1 w1 H1 σ .rfl h1
theorem asgv {i : Nat} {d : D} {s s2 : S} (e : asg (.v i) d s = some s2) : s2 = s.put i (.val d) := by
  unfold asg at e
  split at e
  · cases e; rfl
  · cases e
/-- what a name gets -/
theorem set_imp {e : E} {i : Nat} {Dn : Ends} {σ : L2.St} {H : Hp} (q : rdS X W (evSt (pr T k) (.set (.v i) e)) Dn σ H) : tAsg (rd X W (ev (pr T k) e)) (gName i) Dn σ H := by
  obtain ⟨κ, w, Fr, s, hh, p⟩ := q
  unfold evSt at p
  refine fromS hh p fun v κ1 w1 H1 s1 d l1 h1 r1 p1 => ?_
  obtain ⟨s2, e2, p2⟩ := OutS.of_some p1
  rw [asgv e2] at p2
  exact p2 κ1 w1 H1 _ .rfl (h1.put r1)
theorem p_set {e : E} {x : Expr} {i : Nat} {y : Str} {py : Pos} (C : SCtx T k X W) (hi : X.N[i]? = some y) (hy : (locB X.env.scope y || cellB X.env.scope y) = true) (hs : swapsWith x (some (.Name y py)) pos.line X.env = pure false) (he : PE X x (rd X W (ev (pr T k) e))) :
    PS X (.Assign [.Name y py] x pos) (rdS X W (evSt (pr T k) (.set (.v i) e))) := by
  obtain ⟨b1, b2⟩ := C.bd.b y hy
  exact PS.weak (ps_set C.c.nd hi b1 he hs b2) fun Dn σ H q => set_imp q
/-- a comprehension, stored where it is made -/
theorem p_setF {e : E} {x : Expr} {i : Nat} {y : Str} {py : Pos} (hl : ∀ s0 d s, ev (pr T k) e s0 = .ok d s → ∃ ds, d = .lst ds) (h : PS X (.Assign [.Name y py] x pos) (tAsg (rdF X W (ev (pr T k) e)) (gName i))) : PS X (.Assign [.Name y py] x pos) (rdS X W (evSt (pr T k) (.set (.v i) e))) := by
  refine PS.weak h fun Dn σ H q => ?_
  obtain ⟨κ, w, Fr, s, hh, p⟩ := set_imp q
  exact ⟨κ, w, Fr, s, hh, PostF.of p fun d s1 e => hl s d s1 e⟩
theorem asgo {i : Nat} {ds : List D} {s s2 : S} (e : asg (.o i) (.lst ds) s = some s2) : s2 = s.put i (.own (.lst ds)) := by
  unfold asg at e
  split at e
  · cases e; rfl
  · cases e
/-- a name owns what it gets -/
theorem own_imp {e : E} {i : Nat} (hl : ∀ s0 d s, ev (pr T k) e s0 = .ok d s → ∃ ds, d = .lst ds) {Dn : Ends} {σ : L2.St} {H : Hp} (q : rdS X W (evSt (pr T k) (.set (.o i) e)) Dn σ H) : tAsg (rdF X W (ev (pr T k) e)) (gName i) Dn σ H := by
  obtain ⟨κ, w, Fr, s, hh, p⟩ := q
  unfold evSt at p
  refine fromSF hl hh p fun q xs κ1 w1 H1 s1 ds l1 h1 n r1 p1 => ?_
  obtain ⟨s2, e2, p2⟩ := OutS.of_some p1
  rw [asgo e2] at p2
  exact p2 _ w1 _ _ .rfl (h1.ownNew n (fun _ z => by cases z) ⟨xs, rfl, r1⟩)
theorem p_own {e : E} {x : Expr} {i : Nat} {y : Str} {py : Pos} (C : SCtx T k X W) (hl : ∀ s0 d s, ev (pr T k) e s0 = .ok d s → ∃ ds, d = .lst ds) (hi : X.N[i]? = some y) (hy : (locB X.env.scope y || cellB X.env.scope y) = true) (hs : swapsWith x (some (.Name y py)) pos.line X.env = pure false) (he : PE X x (rdF X W (ev (pr T k) e))) :
    PS X (.Assign [.Name y py] x pos) (rdS X W (evSt (pr T k) (.set (.o i) e))) := by
  obtain ⟨b1, b2⟩ := C.bd.b y hy
  exact PS.weak (ps_set C.c.nd hi b1 he hs b2) fun Dn σ H q => own_imp hl q
theorem p_ownF {e : E} {x : Expr} {i : Nat} {y : Str} {py : Pos} (hl : ∀ s0 d s, ev (pr T k) e s0 = .ok d s → ∃ ds, d = .lst ds) (h : PS X (.Assign [.Name y py] x pos) (tAsg (rdF X W (ev (pr T k) e)) (gName i))) : PS X (.Assign [.Name y py] x pos) (rdS X W (evSt (pr T k) (.set (.o i) e))) :=
  PS.weak h fun Dn σ H q => own_imp hl q
/-- a list display, as a new object -/
theorem s_lstF {es : Es} {xs : List Expr} (ha : PA X xs (rdl X W (evs (pr T k) es))) : PE X (.List xs pos) (rdF X W (ev (pr T k) (.lst es))) := by
  refine PE.weak (pe_lst ha) fun σ H Q ⟨κ, w, Fr, s, hh, p⟩ => ?_
  unfold ev at p
  refine ⟨κ, w, Fr, s, hh, ?_⟩
  cases e : evs (pr T k) es s with
  | no => rw [e] at p; exact p
  | ex x s1 => rw [e] at p; exact p
  | ok ds s1 =>
    rw [e] at p
    intro vs κ1 w1 H1 l1 h1 r1
    have p : PostF X.K X.mg W w Fr σ Q (if ds.length ≤ lenLine then .ok (.lst ds) s1 else .no) := p
    split at p
    · rename_i hl
      exact ⟨by rw [r1.length]; exact len_le hl, fun q n => p q vs κ1 w1 H1 l1 h1 n r1⟩
    · exact p.elim
theorem lst_is {es : Es} (s0 : S) (d : D) (s : S) (h : ev (pr T k) (.lst es) s0 = .ok d s) : ∃ ds, d = .lst ds := by
  unfold ev at h
  cases e : evs (pr T k) es s0 with
  | no => rw [e] at h; cases h
  | ex x s1 => rw [e] at h; cases h
  | ok ds s1 =>
    rw [e] at h
    simp only [Out.bind] at h
    split at h
    · cases h; exact ⟨_, rfl⟩
    · cases h
/-- a, b = .., by a target -/
theorem p_setT {e : E} {x tx : Expr} {ts : Tgs} (C : SCtx T k X W) (ht : okT X.N X.env.scope [] (.tup ts) tx = true) (hs : swapsWithSole [tx] x pos.line X.env = pure false) (hw : swappedStores [tx] x X.env = pure none) (he : PE X x (rd X W (ev (pr T k) e))) :
    PS X (.Assign [tx] x pos) (rdS X W (evSt (pr T k) (.set (.tup ts) e))) := by
  refine PS.weak (ps_asg he (pg_of C.c.calm C.c.nd C.bd (.tup ts) tx ht) hs hw (by rw [assign_ne ht]; rfl)) fun Dn σ H ⟨κ, w, Fr, s, hh, p⟩ => ?_
  unfold evSt at p
  refine fromS hh p fun v κ1 w1 H1 s1 d l1 h1 r1 p1 => ?_
  obtain ⟨s2, e2, p2⟩ := OutS.of_some p1
  exact g_ok (.tup ts) tx d s1 s2 σ v _ ht e2 h1 r1 fun σ2 _ h2 => p2 κ1 w1 H1 σ2 .rfl h2
/-- an if -/
theorem p_ite {c : E} {a b : Ss} {x : Expr} {as bs : List Stmt} (hc : PT X x (tB (rd X W (ev (pr T k) c)))) (ha : PSs X as (rdS X W (evSs (pr T k) a))) (hb : PSs X bs (rdS X W (evSs (pr T k) b))) : PS X (.If x as bs pos) (rdS X W (evSt (pr T k) (.ite c a b))) := by
  refine PS.weak (ps_if hc ha hb) fun Dn σ H ⟨κ, w, Fr, s, hh, p⟩ => ?_
  unfold evSt at p
  refine fromS hh p fun v κ1 w1 H1 s1 d l1 h1 r1 p1 => ?_
  split at p1
  · cases r1
    exact ⟨true, rfl, κ1, w1, Fr, s1, h1, p1⟩
  · cases r1
    exact ⟨false, rfl, κ1, w1, Fr, s1, h1, p1⟩
  · exact p1.elim
theorem p_nil : PSs X [] (rdS X W (evSs (pr T k) .nil)) := by
  refine PSs.weak pss_nil fun Dn σ H ⟨κ, w, Fr, s, hh, p⟩ => ?_
  unfold evSs at p
  exact p κ w H σ .rfl hh
theorem seq_imp {w : Wd} {Fr : Hp} {Dn : Ends} {f : S → OutS} : ∀ {o : OutS}, PostS X.K X.mg W w Fr Dn (o.seq f) → PostS X.K X.mg W w Fr { Dn with nx := rdS X W f Dn } o
  | .nx s, p => fun κ' w' H' σ' l h => ⟨κ', w', Fr, s, h, PostS.mono l p⟩
  | .rt d s, p => p
  | .bk s, p => p
  | .ct s, p => p
  | .ex x s, p => p
  | .no, p => p
theorem p_cons {st : St} {r : Ss} {x : Stmt} {xs : List Stmt} (h1 : PS X x (rdS X W (evSt (pr T k) st))) (h2 : PSs X xs (rdS X W (evSs (pr T k) r))) : PSs X (x :: xs) (rdS X W (evSs (pr T k) (.cons st r))) := by
  refine PSs.weak (pss_cons h1 h2) fun Dn σ H ⟨κ, w, Fr, s, hh, p⟩ => ?_
  unfold evSs at p
  exact ⟨κ, w, Fr, s, hh, seq_imp p⟩
/-! ### loops -/
theorem for_imp {tg : Tg} {t : Expr} {it : It} {body : Ss} {N : List Str} {sc : Scope} (ht : okT N sc [] tg t = true) {Dn : Ends} {σ : L2.St} {H : Hp} (q : rdS X W (evSt (pr T k) (.for_ tg it body)) Dn σ H) :
    tFor (rdi X W (evi (pr T k) it)) (gT X.K tg) (rdS X W (evSs (pr T k) body)) Dn σ H := by
  obtain ⟨κ, w, Fr, s, hh, p⟩ := q
  unfold evSt at p
  refine ⟨κ, w, Fr, s, hh, ?_⟩
  cases e : evi (pr T k) it s with
  | no => rw [e] at p; exact p
  | ex x s1 => rw [e] at p; exact fun κ' w' H' C dx => p κ' w' H' σ C dx
  | ok ds s1 =>
    rw [e] at p
    intro κ1 w1 H1 J l1 h1 wk
    have p : PostS X.K X.mg W w Fr Dn (forL (fun d s => (OutS.of (asg tg d s)).seq fun s => evSs (pr T k) body s) ds s1) := p
    generalize hf : (fun d s => (OutS.of (asg tg d s)).seq fun s => evSs (pr T k) body s) = f at p
    refine ⟨fun i m σ H => m = ds.length - i ∧ i ≤ ds.length ∧ ∃ κ' w' s, w1.le w' ∧ Here X.K X.mg κ' w' Fr σ H s ∧ PostS X.K X.mg W w' Fr Dn (forL f (ds.drop i) s), ⟨_, rfl, Nat.zero_le _, κ1, w1, s1, .rfl, h1, PostS.mono l1 p⟩, ?_⟩
    rintro i m σ2 H2 ⟨rfl, hi, κ2, w2, s2, l2, h2, p2⟩
    have fr : ∀ a o, noF a = some o → Fr a = some o := fun a o z => by cases z
    by_cases hlt : i < ds.length
    · rw [List.drop_eq_getElem_cons hlt] at p2
      refine .inr ⟨wk.go i κ2 w2 Fr σ2 H2 s2 hlt l2 fr h2, fun σ' H' => i + 1 ≤ ds.length ∧ ∃ κ' w' s, w1.le w' ∧ Here X.K X.mg κ' w' Fr σ' H' s ∧ PostS X.K X.mg W w' Fr Dn (forL f (ds.drop (i + 1)) s), fun σ' H' z => ⟨_, by omega, rfl, z⟩, fun x H' y => ?_⟩
      obtain ⟨κ3, w3, l3, h3, r3⟩ := wk.yld i ds[i] κ2 w2 Fr σ2 H2 s2 x H' (by simp [hlt]) l2 fr h2 y
      unfold forL at p2
      have ef : f ds[i] s2 = (OutS.of (asg tg ds[i] s2)).seq fun s => evSs (pr T k) body s := by rw [← hf]
      rw [ef] at p2
      cases ea : asg tg ds[i] s2 with
      | none => rw [ea] at p2; exact p2.elim
      | some s3 =>
        rw [ea] at p2
        refine g_ok tg t ds[i] s2 s3 σ2 x _ ht ea h3 r3 fun σ3 _ h4 => ⟨κ3, w3, Fr, s3, h4, ?_⟩
        have p2 : PostS X.K X.mg W w2 Fr Dn (match evSs (pr T k) body s3 with | .nx s => forL f (ds.drop (i + 1)) s | .ct s => forL f (ds.drop (i + 1)) s | .bk s => .nx s | o => o) := p2
        have l13 := l2.trans l3
        cases eb : evSs (pr T k) body s3 with
        | nx s4 => rw [eb] at p2; exact fun κ' w' H' σ' l h => ⟨hlt, κ', w', s4, l13.trans l, h, PostS.mono (l3.trans l) p2⟩
        | ct s4 => rw [eb] at p2; exact fun κ' w' H' σ' l h => ⟨hlt, κ', w', s4, l13.trans l, h, PostS.mono (l3.trans l) p2⟩
        | bk s4 => rw [eb] at p2; exact fun κ' w' H' σ' l h => p2 κ' w' H' σ' (l3.trans l) h
        | rt d s4 => rw [eb] at p2; exact PostS.mono (o := .rt d s4) l3 p2
        | ex x s4 => rw [eb] at p2; exact PostS.mono (o := .ex x s4) l3 p2
        | no => rw [eb] at p2; exact p2
    · have ei : i = ds.length := by omega
      subst ei
      rw [List.drop_length] at p2
      exact .inl ⟨wk.stop κ2 w2 Fr σ2 H2 s2 l2 fr h2, p2 κ2 w2 H2 σ2 .rfl h2⟩
theorem p_for {tg : Tg} {it : It} {body : Ss} {t x : Expr} {bs : List Stmt} (C : SCtx T k X W) (ht : okT X.N X.env.scope [] tg t = true) (hx : shp x = true) (hi : PI X t x (rdi X W (evi (pr T k) it))) (hb : PSs X bs (rdS X W (evSs (pr T k) body))) :
    PS X (.For t x bs [] pos) (rdS X W (evSt (pr T k) (.for_ tg it body))) :=
  PS.weak (ps_for C.own C.c.calm hi (pg_of C.c.calm C.c.nd C.bd tg t ht) hb (fold_of hx)) fun Dn σ H q => for_imp ht q
theorem p_while {c : E} {body : Ss} {x : Expr} {bs : List Stmt} (C : SCtx T k X W) (hc : PT X x (tB (rd X W (ev (pr T k) c)))) (hb : PSs X bs (rdS X W (evSs (pr T k) body))) : PS X (.While x bs [] pos) (rdS X W (evSt (pr T k) (.while_ c body))) := by
  refine PS.weak (ps_while C.own hc hb) fun Dn σ H ⟨κ, w, Fr, s, hh, p⟩ => ?_
  unfold evSt at p
  refine ⟨fun m σ H => ∃ κ' w' s, w.le w' ∧ Here X.K X.mg κ' w' Fr σ H s ∧ PostS X.K X.mg W w' Fr Dn (whileL (ev (pr T k) c) (evSs (pr T k) body) m s), ⟨_, κ, w, s, .rfl, hh, p⟩, ?_⟩
  rintro m σ2 H2 ⟨κ2, w2, s2, l2, h2, p2⟩
  cases m with
  | zero => exact p2.elim
  | succ m =>
    unfold whileL at p2
    refine fromS h2 p2 fun v κ3 w3 H3 s3 d l3 h3 r3 p3 => ?_
    split at p3
    · cases r3
      refine ⟨true, rfl, iteT ?_⟩
      refine ⟨fun σ' H' => ∃ κ' w' s, w.le w' ∧ Here X.K X.mg κ' w' Fr σ' H' s ∧ PostS X.K X.mg W w' Fr Dn (whileL (ev (pr T k) c) (evSs (pr T k) body) m s), fun σ' H' z => ⟨m, Nat.lt_succ_self m, z⟩, κ3, w3, Fr, s3, h3, ?_⟩
      have l13 := l2.trans l3
      cases eb : evSs (pr T k) body s3 with
      | nx s4 => rw [eb] at p3; exact fun κ' w' H' σ' l h => ⟨κ', w', s4, l13.trans l, h, PostS.mono l p3⟩
      | ct s4 => rw [eb] at p3; exact fun κ' w' H' σ' l h => ⟨κ', w', s4, l13.trans l, h, PostS.mono l p3⟩
      | bk s4 => rw [eb] at p3; exact fun κ' w' H' σ' l h => p3 κ' w' H' σ' l h
      | rt d s4 => rw [eb] at p3; exact p3
      | ex x s4 => rw [eb] at p3; exact p3
      | no => rw [eb] at p3; exact p3
    · cases r3
      refine ⟨false, rfl, iteF ?_⟩
      exact p3 κ3 w3 H3 σ2 .rfl h3
    · exact p3.elim
end
end Z

set_option linter.all false
set_option autoImplicit false
set_option maxRecDepth 20000
/-! Statements: own lists, several names at once. -/
namespace Z
open PySem PySem.Spec PyProof.Rows L2
section
variable {K : PySem.W.Frag} {mg : Str → Option Value} {κ : Addr → Role} {w : Wd} {Fr H : Hp} {σ : L2.St} {s : S} {a : Addr} {n : Nat}
/-- an object of the store is changed -/
theorem Here.mutSt {u u' : HO} {o' : Ob} (hh : Here K mg κ w Fr σ H s) (e : w.ρ[n]? = some a) (hu : H a = some u) (ht : ∀ xs, u' ≠ .tup xs) (r : RepO K mg w a u' o') :
    Here K mg κ w Fr σ (upd H a u') { s with sto := s.sto.set n o' } := by
  have hk := (hh.g.st n a e).1
  have hn : n < s.sto.length := by rw [← hh.g.len]; exact (List.getElem?_eq_some_iff.mp e).1
  have ne : ∀ {b : Addr}, κ b ≠ .st n → b ≠ a := fun h z => h (by rw [z]; exact hk)
  refine ⟨⟨fun b o q => ?_, fun b o q => ?_, fun b q => ?_, by simpa using hh.g.len, fun b xs q => ?_, fun m b q => ?_⟩, hh.len, fun j x q => ?_⟩
  · obtain ⟨h1, h2⟩ := hh.g.fz b o q
    exact ⟨h1, by rw [upd_ne (ne (by rw [h1]; intro z; cases z))]; exact h2⟩
  · obtain ⟨h1, h2⟩ := hh.g.fr b o q
    exact ⟨h1, by rw [upd_ne (ne (by rw [h1]; intro z; cases z))]; exact h2⟩
  · by_cases z : b = a
    · subst z; rw [upd_same]; intro z; cases z
    · rw [upd_ne z]; exact hh.g.nf b q
  · by_cases z : b = a
    · subst z; rw [upd_same] at q; exact absurd (Option.some.inj q) (ht xs)
    · rw [upd_ne z] at q; exact hh.g.nt b xs q
  · obtain ⟨h1, ob, v, h2, h3, h4⟩ := hh.g.st m b q
    by_cases z : m = n
    · subst z
      rw [e] at q; cases q
      exact ⟨h1, o', u', by simp [hn], upd_same, r⟩
    · refine ⟨h1, ob, v, by rw [List.getElem?_set_ne (Ne.symm z)]; exact h2, ?_, h4⟩
      rw [upd_ne fun y => by subst y; rw [hk] at h1; exact z (Role.st.inj h1).symm]
      exact h3
  · refine (hh.sl j x q).keep .rfl fun b v hb hv => ⟨hb, ?_⟩
    rw [upd_ne (ne (by rw [hb]; intro z; cases z))]; exact hv
end
section
variable {T : Txt} {k : Nat} {X : Cx} {W : WX} {pos cpos : Pos} {i : Nat}
theorem few1 {x : Expr} (hx : shp x = true) : ((backTo cpos (starEach [x] X.env)).all (fun x => !x.1) && (backToKw cpos (keywordEach [] X.env)).all (fun x => x.1.isSome) && decide ([x].length + ([] : List Keyword).length + (if ([] : List Keyword).isEmpty then 0 else 1) < 30)) = true := by
  rw [star1 hx]; rfl
theorem few2 {x y : Expr} (hx : shp x = true) (hy : shp y = true) : ((backTo cpos (starEach [x, y] X.env)).all (fun x => !x.1) && (backToKw cpos (keywordEach [] X.env)).all (fun x => x.1.isSome) && decide ([x, y].length + ([] : List Keyword).length + (if ([] : List Keyword).isEmpty then 0 else 1) < 30)) = true := by
  rw [star_ne hx, star1 hy]; rfl
theorem pl0 : (backTo cpos (starEach [] X.env)).any (·.1) = false := rfl
theorem pl1 {y : Expr} (hy : shp y = true) : (backTo cpos (starEach [y] X.env)).any (·.1) = false := by rw [star1 hy]; rfl
theorem own_fix {κ κ2 : Addr → Role} {w w2 : Wd} {Fr H H2 : Hp} {σ : L2.St} {s s2 : S} {ds es : List D} {a : Addr} (e : σ[i]? = some (some (.ref a))) (hh : Here X.K X.mg κ2 w2 Fr σ H2 s2) (q : s2.own i = some es) :
    ∃ xs, κ2 a = .ow i ∧ H2 a = some (.lst xs) ∧ Reps X.K X.mg w2 es xs := by
  obtain ⟨a', xs, h1, h2, h3, h4⟩ := own_at hh q
  rw [e] at h1; cases h1
  exact ⟨xs, h2, h3, h4⟩
theorem p_app {e : E} {o x : Expr} (h : mtB "append" i X.N X.env.scope o cpos = true) (hx : shp x = true) (he : PE X x (rd X W (ev (pr T k) e))) : PS X (.Expr (.Call o [x] [] cpos) pos) (rdS X W (evSt (pr T k) (.mapp i e))) := by
  obtain ⟨y, p1, apos, rfl, h1, h2⟩ := mtB_of h
  refine PS.weak (ps_expr (pe_bm PySem.F.plainAttrs_list PySem.F.slot_list_append PySem.F.type_list_append mt_append (pvi h1) (pa_cons he pa_nil (star_ne hx)) rfl (few1 hx) h2 (star_ne hx) pl0) (sw_none rfl)) fun Dn σ H ⟨κ, w, Fr, s, hh, p⟩ => ?_
  unfold evSt at p
  split at p
  · rename_i h0
    obtain ⟨ds, h0⟩ := Option.isSome_iff_exists.mp h0
    obtain ⟨a, xs, g1, g2, g3, g4⟩ := own_at hh h0
    refine ⟨_, g1, .inl ⟨rfl, xs, .of g3⟩, fromS hh p fun v κ1 w1 H1 s1 d l1 h1 r1 p1 => ?_⟩
    split at p1
    · rename_i es q
      split at p1
      · rename_i hl
        obtain ⟨ys, q1, q2, q3⟩ := own_fix (ds := ds) (κ := κ) (w := w) (H := H) (s := s) g1 h1 q
        exact ⟨a, ys, v, rfl, rfl, q2, by rw [q3.length]; exact len_lt hl, p1 _ _ _ _ .rfl (h1.mut g1 q1 q2 (fun _ z => by cases z) ⟨_, rfl, q3.app (.one r1)⟩)⟩
      · exact p1.elim
    · exact p1.elim
  · exact p.elim
theorem p_ext {e : E} {o x : Expr} (h : mtB "extend" i X.N X.env.scope o cpos = true) (hx : shp x = true) (he : PE X x (rd X W (ev (pr T k) e))) : PS X (.Expr (.Call o [x] [] cpos) pos) (rdS X W (evSt (pr T k) (.mext i e))) := by
  obtain ⟨y, p1, apos, rfl, h1, h2⟩ := mtB_of h
  refine PS.weak (ps_expr (pe_bm PySem.F.plainAttrs_list PySem.F.slot_list_extend PySem.F.type_list_extend mt_extend (pvi h1) (pa_cons he pa_nil (star_ne hx)) rfl (few1 hx) h2 (star_ne hx) pl0) (sw_none rfl)) fun Dn σ H ⟨κ, w, Fr, s, hh, p⟩ => ?_
  unfold evSt at p
  split at p
  · rename_i h0
    obtain ⟨ds, h0⟩ := Option.isSome_iff_exists.mp h0
    obtain ⟨a, xs, g1, g2, g3, g4⟩ := own_at hh h0
    refine ⟨_, g1, .inl ⟨rfl, xs, .of g3⟩, fromS hh p fun v κ1 w1 H1 s1 d l1 h1 r1 p1 => ?_⟩
    split at p1
    · rename_i zs es q
      split at p1
      · rename_i hl
        obtain ⟨ys, q1, q2, q3⟩ := own_fix (ds := ds) (κ := κ) (w := w) (H := H) (s := s) g1 h1 q
        obtain ⟨b, us, rfl, r2, r3⟩ := r1
        exact ⟨a, b, ys, us, rfl, rfl, q2, h1.fz _ _ r2, by rw [q3.length, r3.length]; exact len_le hl, p1 _ _ _ _ .rfl (h1.mut g1 q1 q2 (fun _ z => by cases z) ⟨_, rfl, q3.app r3⟩)⟩
      · exact p1.elim
    · exact p1.elim
  · exact p.elim
theorem p_ins {a e : E} {o x z : Expr} (h : mtB "insert" i X.N X.env.scope o cpos = true) (hz : shp z = true) (hx : shp x = true) (ha : PE X z (rd X W (ev (pr T k) a))) (he : PE X x (rd X W (ev (pr T k) e))) :
    PS X (.Expr (.Call o [z, x] [] cpos) pos) (rdS X W (evSt (pr T k) (.mins i a e))) := by
  obtain ⟨y, p1, apos, rfl, h1, h2⟩ := mtB_of h
  refine PS.weak (ps_expr (pe_bm PySem.F.plainAttrs_list PySem.F.slot_list_insert PySem.F.type_list_insert mt_insert (pvi h1) (pa_cons ha (pa_cons he pa_nil (star_ne hx)) (star_ne hz)) rfl (few2 hz hx) h2 (star_ne hz) (pl1 hx)) (sw_none rfl)) fun Dn σ H ⟨κ, w, Fr, s, hh, p⟩ => ?_
  unfold evSt at p
  split at p
  · rename_i h0
    obtain ⟨ds, h0⟩ := Option.isSome_iff_exists.mp h0
    obtain ⟨a, xs, g1, g2, g3, g4⟩ := own_at hh h0
    refine ⟨_, g1, .inl ⟨rfl, xs, .of g3⟩, fromS hh p fun u κ0 w0 H0 s0 c l0 h0' r0 p0 => fromS h0' p0 fun v κ1 w1 H1 s1 d l1 h1 r1 p1 => ?_⟩
    split at p1
    · rename_i m es q
      split at p1
      · rename_i hl
        obtain ⟨hl, hm0, hm1⟩ := hl
        obtain ⟨ys, q1, q2, q3⟩ := own_fix (ds := ds) (κ := κ) (w := w) (H := H) (s := s) g1 h1 q
        cases r0
        exact ⟨a, ys, m, v, rfl, rfl, q2, by rw [q3.length]; exact len_lt hl, hm0, by omega, p1 _ _ _ _ .rfl (h1.mut g1 q1 q2 (fun _ z => by cases z) ⟨_, rfl, ((q3.take _).app (.one r1)).app (q3.drop _)⟩)⟩
      · exact p1.elim
    · exact p1.elim
  · exact p.elim
theorem sole {t v : Expr} {l : Nat} {env : Env} (h : noComp v = true) : swapsWithSole [t] v l env = pure false := sw_none h
theorem sub_asg {o j : Expr} {p1 : Pos} (hj : shp j = true) (v : Value) : assign (.Subscript o j p1) X.env v = (do
      let ov ← holding [v] (eval o X.env)
      let iv ← holding [v, ov] (eval j X.env)
      standAt p1
      holding [v, ov, iv] (setItem ov iv v)
      release [v, ov, iv] []) := by
  cases j <;> first | rfl | (cases hj)
theorem p_mset {a e : E} {y : Str} {p1 p2 : Pos} {j x : Expr} (h : nm X.N X.env.scope i y = true) (hj : shp j = true) (hx : noComp x = true) (ha : PE X j (rd X W (ev (pr T k) a))) (he : PE X x (rd X W (ev (pr T k) e))) :
    PS X (.Assign [.Subscript (.Name y p1) j p2] x pos) (rdS X W (evSt (pr T k) (.mset i a e))) := by
  refine PS.weak (ps_asg he (pg_sub (pvi h) ha set_list (sub_asg hj)) (sole hx) rfl rfl) fun Dn σ H ⟨κ, w, Fr, s, hh, p⟩ => ?_
  unfold evSt at p
  refine fromS hh p fun v κ1 w1 H1 s1 d l1 h1 r1 p1 => ?_
  split at p1
  · rename_i h0
    obtain ⟨ds, h0⟩ := Option.isSome_iff_exists.mp h0
    obtain ⟨a, xs, g1, g2, g3, g4⟩ := own_at h1 h0
    refine ⟨_, g1, fromS h1 p1 fun u κ2 w2 H2 s2 c l2 h2 r2 p2 => ?_⟩
    split at p2
    · rename_i m es q
      split at p2
      · rename_i j' hj'
        obtain ⟨ys, q1, q2, q3⟩ := own_fix (ds := ds) (κ := κ) (w := w) (H := H) (s := s) g1 h2 q
        cases r2
        exact ⟨a, ys, m, j', rfl, rfl, q2, by rw [q3.length]; exact hj', p2 _ _ _ _ .rfl (h2.mut g1 q1 q2 (fun _ z => by cases z) ⟨_, rfl, q3.set (Rep.mono l2 _ _ r1) j'⟩)⟩
      · exact p2.elim
    · exact p2.elim
  · exact p1.elim
/-- an object of the store -/
theorem p_sset {o a e : E} {ox : Expr} {p2 : Pos} {j x : Expr} (hj : shp j = true) (hx : noComp x = true) (ho : PE X ox (rd X W (ev (pr T k) o))) (ha : PE X j (rd X W (ev (pr T k) a))) (he : PE X x (rd X W (ev (pr T k) e))) :
    PS X (.Assign [.Subscript ox j p2] x pos) (rdS X W (evSt (pr T k) (.sset o a e))) := by
  refine PS.weak (ps_asg he (pg_sub ho ha set_list (sub_asg hj)) (sole hx) rfl rfl) fun Dn σ H ⟨κ, w, Fr, s, hh, p⟩ => ?_
  unfold evSt at p
  refine fromS hh p fun v κ1 w1 H1 s1 d l1 h1 r1 p1 => fromS h1 p1 fun b κ2 w2 H2 s2 f l2 h2 r2 p2 => fromS h2 p2 fun u κ3 w3 H3 s3 c l3 h3 r3 p3 => ?_
  split at p3
  · rename_i n m
    split at p3
    · rename_i ds q
      split at p3
      · rename_i j' hj'
        obtain ⟨b', rfl, r2⟩ := r2
        have r2 : w3.ρ[n]? = some b' := by
          obtain ⟨z, hz⟩ := l3.ρ
          rw [← hz, List.getElem?_append_left (List.getElem?_eq_some_iff.mp r2).1]
          exact r2
        obtain ⟨_, ob, u', g1, g2, g3⟩ := h3.g.st n b' r2
        rw [q] at g1; cases g1
        obtain ⟨ys, rfl, q3⟩ := g3
        cases r3
        exact ⟨b', ys, m, j', rfl, rfl, g2, by rw [q3.length]; exact hj', p3 _ _ _ _ .rfl (h3.mutSt r2 g2 (fun _ z => by cases z) ⟨_, rfl, q3.set (Rep.mono (l2.trans l3) _ _ r1) j'⟩)⟩
      · exact p3.elim
    · exact p3.elim
  · exact p3.elim
/-! ### dicts -/
def tDicN : TE := fun _ H Q => ∀ p, H p = none → (p == sysModules) = false → Q (.ref p) (upd H p (dicO p []))
theorem pe_dicN : PE X (.Dict [] [] pos) tDicN := ⟨fun pins s σ H Q I h => by
  have hs : (s.heap.objs.size == sysModules) = false := beq_eq_false_iff_ne.mpr (Ne.symm (Nat.ne_of_lt I.big))
  refine wpAny_Dict_empty ⟨.ref s.heap.objs.size, _, I.laid (a := s.heap.objs.size) (o := dicO s.heap.objs.size []) (t' := s.toks) (fun _ _ q => Heap.get?_push_of_some _ q) (Nat.le_refl _) ?_, rfl, h _ (I.hok.fresh (Nat.le_refl _)) hs⟩
  exact ⟨⟨_, #[], 0, Heap.get?_push_size _ rfl, ⟨rfl, rfl, rfl⟩, rfl, rfl⟩, ⟨_, Heap.get?_push_size _ rfl⟩, fun h1 h2 ⟨o, es, ep, ho, r⟩ k => ⟨o, es, ep, k o ho, r⟩⟩⟩
theorem p_dict {y : Str} {py p2 : Pos} (C : SCtx T k X W) (hi : X.N[i]? = some y) (hy : (locB X.env.scope y || cellB X.env.scope y) = true) : PS X (.Assign [.Name y py] (.Dict [] [] p2) pos) (rdS X W (evSt (pr T k) (.dict i))) := by
  obtain ⟨b1, b2⟩ := C.bd.b y hy
  refine PS.weak (ps_set C.c.nd hi b1 pe_dicN (sw_none rfl) b2) fun Dn σ H ⟨κ, w, Fr, s, hh, p⟩ => ?_
  unfold evSt at p
  intro q n hs
  split at p
  · exact p _ w _ _ .rfl (hh.ownNew (ob := .dT []) n (fun _ z => by cases z) ⟨[], rfl, hs, List.nodup_nil, Nat.zero_le _, rfl⟩)
  · exact p.elim
def rSetDic (X : Cx) : V → V → V → Hp → (Hp → Prop) → Prop := fun o i v H Q => ∃ d b w kvs xs k, o = .ref d ∧ i = .ref b ∧ IsDic X w H d kvs xs ∧ H d = some (dicO d xs) ∧ SqT X.K H b (k.map V.int) ∧
  ∀ u, RelV v u → ((storedH xs k b u).map (·.1)).Nodup → Q (upd H d (dicO d (storedH xs k b u)))
theorem set_dic (hu : X.A.units + 1 < cLine) : PSet X (rSetDic X) := by
  intro pins s σ H o i v ov iv u Q I ro ri rv h
  obtain ⟨d, b, w, kvs, xs, k, rfl, rfl, D, hd, hb, q⟩ := h
  cases ro; cases ri
  exact dic_set (dd := .non) hu I D hd hb rv fun nd => q u rv nd
theorem p_mput {a e : E} {y : Str} {p1 p2 : Pos} {j x : Expr} (C : SCtx T k X W) (h : nm X.N X.env.scope i y = true) (hj : shp j = true) (hx : noComp x = true) (ha : PE X j (rd X W (ev (pr T k) a))) (he : PE X x (rd X W (ev (pr T k) e))) :
    PS X (.Assign [.Subscript (.Name y p1) j p2] x pos) (rdS X W (evSt (pr T k) (.mput i a e))) := by
  refine PS.weak (ps_asg he (pg_sub (pvi h) ha (set_dic (dic_hu C.c)) (sub_asg hj)) (sole hx) rfl rfl) fun Dn σ H ⟨κ, w, Fr, s, hh, p⟩ => ?_
  unfold evSt at p
  refine fromS hh p fun v κ1 w1 H1 s1 d l1 h1 r1 p1 => ?_
  split at p1
  · rename_i h0
    obtain ⟨kvs0, h0⟩ := Option.isSome_iff_exists.mp h0
    obtain ⟨a, xs0, g1, _, _, _⟩ := dct_at h1 h0
    refine ⟨_, g1, fromS h1 p1 fun u κ2 w2 H2 s2 c l2 h2 r2 p2 => ?_⟩
    split at p2
    · rename_i kx kvs e1 e2
      split at p2
      · rename_i hl
        obtain ⟨a', xs, g2, gk, gd, D⟩ := dct_at h2 e2
        rw [g1] at g2; cases g2
        have ek := keyD_of e1
        subst ek
        obtain ⟨b, rfl, hb, hb'⟩ := rep_key h2.fz r2
        refine ⟨a, b, w2, kvs, xs, kx, rfl, rfl, D, gd, hb, fun z rz nd => ?_⟩
        exact p2 _ w2 _ _ .rfl (h2.mut g1 gk gd (fun _ z => by cases z) ⟨_, rfl, D.sys, nd, Nat.le_trans put_len hl, D.rep.put hb' rz (Rep.mono l2 _ _ r1) D.nd⟩)
      · exact p2.elim
    · exact p2.elim
  · exact p1.elim
/-! ### several names at once -/
def isStar : Expr → Bool
  | .Starred _ _ => true
  | _ => false
theorem isStar_of {a : Expr} (h : shp a = true) : isStar a = false := by cases a <;> first | rfl | (cases h)
def nmF (env : Env) (line : Nat) : Expr → Option Str
  | .Name id pos => if env.kindOf id == some .local && pos.line == line then some id else none
  | _ => none
theorem sw_unf (ts vs : List Expr) (kt k2 : Nat) (pt pt2 : Pos) (env : Env) : swappedStores [.Tuple ts kt pt] (.Tuple vs k2 pt2) env = (do
  if !(ts.length == 2 || ts.length == 3) || vs.length != ts.length || env.blockKind != .function then return none
  if vs.any isStar then return none
  let line := (ts.head?.map (·.pos.line)).getD 0
  let names := ts.filterMap (nmF env line)
  if names.length != ts.length || names.eraseDups.length != names.length then return none
  if vs.all (foldedForSure 8) then return none
  if vs.all (constantsAlone 8) then unsupported "assign.tuple-of-constant-expressions:order-of-the-stores"
  return some names) := rfl
theorem swapped2 {x y : Str} {px py pt : Pos} {kt k2 : Nat} {pt2 : Pos} {a b : Expr} {env : Env} (hk : env.scope.kind = .function) (hx : env.scope.names.lookup x = some .local) (hy : env.scope.names.lookup y = some .local) (hl : (py.line == px.line) = true) (hxy : x ≠ y)
    (ha : shp a = true) (hb : shp b = true) (hf : (foldedForSure 8 a && foldedForSure 8 b) = false) (hc : (constantsAlone 8 a && constantsAlone 8 b) = false) :
    swappedStores [.Tuple [.Name x px, .Name y py] kt pt] (.Tuple [a, b] k2 pt2) env = pure (some [x, y]) := by
  have hbk : env.blockKind = .function := by unfold Env.blockKind; rw [hk]; rfl
  have kx : (env.kindOf x == some .local) = true := by show (env.scope.names.lookup x == some .local) = true; rw [hx]; rfl
  have ky : (env.kindOf y == some .local) = true := by show (env.scope.names.lookup y == some .local) = true; rw [hy]; rfl
  have nd : ([x, y].eraseDups.length != 2) = false := by
    simp [List.eraseDups_cons, hxy, Ne.symm hxy]
  rw [sw_unf]
  simp only [List.length_cons, List.length_nil, hbk, List.any_cons, List.any_nil, isStar_of ha, isStar_of hb]
  simp only [nmF, List.filterMap_cons, List.filterMap_nil, kx, ky, List.head?_cons, Option.map_some, Option.getD_some, Expr.pos, hl, Bool.and_true, BEq.rfl, if_true, List.length_cons, List.length_nil]
  simp only [List.all_cons, List.all_nil, Bool.and_true, hf, hc]
  simp [nd]
end
end Z

set_option linter.all false
set_option autoImplicit false
set_option maxRecDepth 20000
/-! Several names at once. -/
namespace Z
open PySem PySem.Spec PyProof.Rows L2
/-! ### readings that leave the slots -/
mutual
def still : E → Bool
  | .var _ => true | .con _ => true | .int _ => true | .str _ => true | .bl _ => true | .non => true
  | .tup es => stills es
  | .bin _ a b => still a && still b
  | .neg a => still a
  | .call _ es => stills es
  | .idx a i => still a && still i
  | .blt _ es => stills es
  | .lst es => stills es
  | _ => false
def stills : Es → Bool
  | .nil => true
  | .cons e r => still e && stills r
end
def Out.envIs {α : Type} (env : List Sl) : Out α → Prop
  | .ok _ s => s.env = env
  | .ex _ s => s.env = env
  | .no => True
theorem envIs_bind {α β : Type} {env : List Sl} {f : α → S → Out β} : ∀ {o : Out α}, o.envIs env → (∀ a s, s.env = env → (f a s).envIs env) → (o.bind f).envIs env
  | .ok a s, h, k => k a s h
  | .ex _ _, h, _ => h
  | .no, _, _ => trivial
theorem envIs_of {α : Type} {env : List Sl} {r : R α} {s : S} (h : s.env = env) : (Out.of r s).envIs env := by
  cases r with
  | none => trivial
  | some a => exact h
theorem envIs_out {env : List Sl} {o : OutC} {s : S} (h : s.env = env) : (o.out s).envIs env := by
  cases o <;> first | exact h | trivial
mutual
theorem still_env (P : Prm) : ∀ (e : E) (s : S), still e = true → (ev P e s).envIs s.env
  | .var i, s, _ => by
    unfold ev; split <;> first | rfl | trivial
  | .con x, s, _ => by unfold ev; exact envIs_of rfl
  | .int _, s, _ => by unfold ev; rfl
  | .str _, s, _ => by unfold ev; rfl
  | .bl _, s, _ => by unfold ev; rfl
  | .non, s, _ => by unfold ev; rfl
  | .tup es, s, h => by
    unfold ev
    refine envIs_bind (stills_env P es s h) fun ds s1 e => ?_
    split
    · exact e
    · trivial
  | .lst es, s, h => by
    unfold ev
    refine envIs_bind (stills_env P es s h) fun ds s1 e => ?_
    split
    · exact e
    · trivial
  | .bin o a b, s, h => by
    unfold ev
    have h : still a = true ∧ still b = true := by simpa [still] using h
    refine envIs_bind (still_env P a s h.1) fun x s1 e => ?_
    rw [← e]
    exact envIs_bind (still_env P b s1 h.2) fun y s2 e => envIs_of e
  | .neg a, s, h => by
    unfold ev
    refine envIs_bind (still_env P a s h) fun x s1 e => ?_
    split
    · exact e
    · trivial
  | .call f es, s, h => by
    unfold ev
    split
    · exact envIs_bind (stills_env P es s h) fun ds s1 e => envIs_out e
    · trivial
  | .idx a i, s, h => by
    unfold ev
    have h : still a = true ∧ still i = true := by simpa [still] using h
    refine envIs_bind (still_env P a s h.1) fun x s1 e => ?_
    rw [← e]
    exact envIs_bind (still_env P i s1 h.2) fun y s2 e => envIs_of e
  | .blt f es, s, h => by
    unfold ev
    exact envIs_bind (stills_env P es s h) fun ds s1 e => envIs_of e
  | .not _, _, h | .cmp _ _ _, _, h | .cmp2 _ _ _ _ _, _, h | .and _ _, _, h | .or _ _, _, h | .ite _ _ _, _, h | .callk _ _ _ _ _ _, _, h | .isi _ _, _, h | .slc _ _ _, _, h | .rev _, _, h | .comp _ _ _ _ _, _, h
  | .frz _, _, h | .mlen _, _, h | .midx _ _, _, h | .mnil _ _, _, h | .mtup _, _, h | .mpop _, _, h | .mget _ _ _, _, h | .mpopk _ _, _, h | .lkd _ _, _, h => by simp [still] at h
theorem stills_env (P : Prm) : ∀ (es : Es) (s : S), stills es = true → (evs P es s).envIs s.env
  | .nil, s, _ => by unfold evs; rfl
  | .cons e r, s, h => by
    unfold evs
    have h : still e = true ∧ stills r = true := by simpa [stills] using h
    refine envIs_bind (still_env P e s h.1) fun x s1 e => ?_
    rw [← e]
    exact envIs_bind (stills_env P r s1 h.2) fun y s2 e => e
end
theorem then_bind {α β : Type} {f : α → S → Out β} {g : β → S → OutS} : ∀ {o : Out α}, (o.bind f).then_ g = o.then_ fun a s => (f a s).then_ g
  | .ok _ _ => rfl
  | .ex _ _ => rfl
  | .no => rfl
section
variable {K : PySem.W.Frag} {mg : Str → Option Value} {κ κ2 : Addr → Role} {w w2 : Wd} {Fr H H2 : Hp} {σ : L2.St} {s s2 : S} {p : Addr} {o : HO} {i : Nat}
theorem Here.grow (h : Here K mg κ w Fr σ H s) (n : H p = none) (ht : ∀ xs, o ≠ .tup xs) : Here K mg (upR κ p .fr) w (upd Fr p o) σ (upd H p o) s := by
  refine ⟨h.g.grow n ht, h.len, fun j x e => ?_⟩
  have q := h.sl j x e
  cases x with
  | no => exact True.intro
  | val d => exact q
  | own ob =>
    obtain ⟨a, u, e1, k1, h1, r1⟩ := q
    have ne := ne_of_none h1 n
    exact ⟨a, u, e1, by rw [upR_ne ne]; exact k1, by rw [upd_ne ne]; exact h1, r1⟩
  | rd ob =>
    obtain ⟨a, u, e1, h1, r1⟩ := q
    have hH : ∀ a v, Fr a = some v → a ≠ p := fun a v e => ne_of_none (h.g.fr a v e).2 n
    refine ⟨a, u, e1, ?_, r1⟩
    rcases h1 with h1 | ⟨v, h1⟩
    · exact .inl (by rw [upd_ne (hH _ _ h1)]; exact h1)
    · exact .inr ⟨v, by rw [upd_ne (hH _ _ h1)]; exact h1⟩
  | lk ob =>
    obtain ⟨a, od, u, e1, h1, r1⟩ := q
    exact ⟨a, od, u, e1, by rw [upd_ne (ne_of_none (h.g.fr a _ h1).2 n)]; exact h1, r1⟩
/-- the frame let go: the slots as they were ahead -/
theorem Gl_.less (g : Gl_ K mg κ2 w2 (upd Fr p o) H2 s2.sto) (n : Fr p = none) : Gl_ K mg κ2 w2 Fr H2 s2.sto :=
  ⟨g.fz, fun a u e => g.fr a u (by rw [upd_ne (ne_of_none e n)]; exact e), g.nf, g.len, g.nt, g.st⟩
theorem slots_less (h : Here K mg κ w Fr σ H s) (n : H p = none) (h2 : Here K mg κ2 w2 (upd Fr p o) σ H2 s2) (e : s2.env = s.env) (j : Nat) (x : Sl) (ex : s2.env[j]? = some x) : SlOk K mg κ2 w2 Fr H2 j σ[j]? x := by
  have q := h2.sl j x ex
  cases x with
  | no => exact True.intro
  | val d => exact q
  | own ob => exact q
  | rd ob =>
    rw [e] at ex
    obtain ⟨a, u, e1, h1, r1⟩ := h.sl j _ ex
    obtain ⟨a', u', e1', h1', r1'⟩ := q
    rw [e1] at e1'; cases e1'
    have ne : a ≠ p := by
      rcases h1 with h1 | ⟨v, h1⟩
      · exact ne_of_none (h.g.fr _ _ h1).2 n
      · exact ne_of_none (h.g.fr _ _ h1).2 n
    refine ⟨a, u', e1, ?_, r1'⟩
    rcases h1' with h1' | ⟨v, h1'⟩
    · exact .inl (by rw [upd_ne ne] at h1'; exact h1')
    · exact .inr ⟨v, by rw [upd_ne ne] at h1'; exact h1'⟩
  | lk ob =>
    rw [e] at ex
    obtain ⟨a, od, u, e1, h1, r1⟩ := h.sl j _ ex
    obtain ⟨a', od', u', e1', h1', r1'⟩ := q
    rw [e1] at e1'; cases e1'
    have ne : a ≠ p := ne_of_none (h.g.fr _ _ h1).2 n
    exact ⟨a, od', u', e1, by rw [upd_ne ne] at h1'; exact h1', r1'⟩
theorem Here.less (h : Here K mg κ w Fr σ H s) (n : H p = none) (h2 : Here K mg κ2 w2 (upd Fr p o) σ H2 s2) (e : s2.env = s.env) : Here K mg κ2 w2 Fr σ H2 s2 :=
  ⟨Gl_.less h2.g (by
    cases q : Fr p with
    | none => rfl
    | some v => have := (h.g.fr p v q).2; rw [n] at this; cases this), h2.len, fun j x ex => slots_less h n h2 e j x ex⟩
/-- the framed thing becomes a slot's own -/
theorem Here.claim {ob : Ob} (h : Here K mg κ w Fr σ H s) (n : H p = none) (h2 : Here K mg κ2 w2 (upd Fr p o) σ H2 s2) (e : s2.env = s.env) (r : RepO K mg w2 p o ob) :
    Here K mg (upR κ2 p (.ow i)) w2 Fr (σ.set i (some (.ref p))) H2 (s2.put i (.own ob)) := by
  have hF : Fr p = none := by
    cases q : Fr p with
    | none => rfl
    | some v => have := (h.g.fr p v q).2; rw [n] at this; cases this
  have hk := h2.g.fr p o upd_same
  have ne : ∀ {b : Addr}, κ2 b ≠ .fr → b ≠ p := fun h z => h (by rw [z]; exact hk.1)
  refine ⟨⟨fun a u q => ?_, fun a u q => ?_, fun a q => ?_, h2.g.len, fun a xs q => ?_, fun m a q => ?_⟩, by simp [S.put, h2.len], fun j x ex => ?_⟩
  · have z := h2.g.fz a u q
    rw [upR_ne (ne (by rw [z.1]; intro y; cases y))]; exact z
  · have q' := ne_of_none q hF
    rw [upR_ne q']; exact h2.g.fr a u (by rw [upd_ne q']; exact q)
  · by_cases z : a = p
    · subst z; rw [hk.2]; intro y; cases y
    · rw [upR_ne z] at q; exact h2.g.nf a q
  · rcases h2.g.nt a xs q with z | z
    · by_cases y : a = p
      · subst y; rw [hk.1] at z; cases z
      · exact .inl (by rw [upR_ne y]; exact z)
    · exact .inr z
  · obtain ⟨h1, r1⟩ := h2.g.st m a q
    rw [upR_ne (ne (by rw [h1]; intro y; cases y))]
    exact ⟨h1, r1⟩
  · rcases put_at ex with ⟨rfl, rfl⟩ | ⟨hj, ex⟩
    · have hi : j < σ.length := by
        rw [← h2.len]
        have := (List.getElem?_eq_some_iff.mp ex).1
        simpa [S.put] using this
      exact ⟨p, o, by rw [List.getElem?_set_self hi], upR_same, hk.2, r⟩
    · rw [List.getElem?_set_ne (Ne.symm hj)]
      refine (slots_less h n h2 e j x ex).keep .rfl fun a u hb hv => ?_
      rw [upR_ne (ne (by rw [hb]; intro y; cases y))]; exact ⟨hb, hv⟩
end
section
variable {T : Txt} {k : Nat} {X : Cx} {W : WX} {pos : Pos}
/-- what a two-name statement asks of the syntax -/
def par2 (N : List Str) (sc : Scope) (i j : Nat) (x y : Str) (px py : Pos) (a b : Expr) : Bool :=
  decide (N[i]? = some x) && (decide (N[j]? = some y) && (locB sc x && (locB sc y && ((py.line == px.line) && (decide (x ≠ y) && (decide (i ≠ j) && (shp a && (shp b && (!(foldedForSure 8 a && foldedForSure 8 b) && !(constantsAlone 8 a && constantsAlone 8 b))))))))))
theorem loc_of {sc : Scope} {x : Str} (h : locB sc x = true) : sc.names.lookup x = some .local := by
  unfold locB at h
  split at h
  · assumption
  · cases h
theorem ps_par' {i j : Nat} {x y : Str} {px py pt pt2 : Pos} {kt k2 : Nat} {a b : Expr} {ta : TA} (C : SCtx T k X W) (h : par2 X.N X.env.scope i j x y px py a b = true) (ha : PA X [a, b] ta) :
    PS X (.Assign [.Tuple [.Name x px, .Name y py] kt pt] (.Tuple [a, b] k2 pt2) pos) (tPar i j ta) := by
  unfold par2 at h
  simp only [Bool.and_eq_true, decide_eq_true_eq, Bool.not_eq_true'] at h
  obtain ⟨h1, h2, h3, h4, h5, h6, h7, h8, h9, h10, h11⟩ := h
  exact ps_par C.c.calm C.c.nd h1 h2 h7 (loc_of h3) (loc_of h4) ha (swapped2 C.c.kind (loc_of h3) (loc_of h4) h5 h6 h8 h9 h10 h11) (sole rfl)
theorem evs2 {P : Prm} {a b : E} {g : List D → S → OutS} (s : S) : (evs P (.cons a (.cons b .nil)) s).then_ g = (ev P a s).then_ fun x s => (ev P b s).then_ fun y s => g [x, y] s := by
  unfold evs
  rw [then_bind]
  congr
  funext x s1
  rw [then_bind]
  unfold evs
  rw [then_bind]
  congr
theorem asgs2 {t u : Tg} {x y : D} {s s3 : S} (e : asgs (.cons t (.cons u .nil)) [x, y] s = some s3) : ∃ s2, asg t x s = some s2 ∧ asg u y s2 = some s3 := by
  unfold asgs at e
  cases e1 : asg t x s with
  | none => rw [e1] at e; cases e
  | some s2 =>
    rw [e1] at e
    have e : asgs (.cons u .nil) [y] s2 = some s3 := e
    unfold asgs at e
    cases e2 : asg u y s2 with
    | none => rw [e2] at e; cases e
    | some s4 =>
      rw [e2] at e
      have e : asgs .nil [] s4 = some s3 := e
      unfold asgs at e
      cases e
      exact ⟨s2, rfl, e2⟩
theorem p_par {i j : Nat} {x y : Str} {px py pt pt2 : Pos} {kt k2 : Nat} {a b : Expr} {ea eb : E} (C : SCtx T k X W) (h : par2 X.N X.env.scope i j x y px py a b = true) (ha : PE X a (rd X W (ev (pr T k) ea))) (hb : PE X b (rd X W (ev (pr T k) eb))) (s1 : shp a = true) (s2 : shp b = true) :
    PS X (.Assign [.Tuple [.Name x px, .Name y py] kt pt] (.Tuple [a, b] k2 pt2) pos) (rdS X W (evSt (pr T k) (.par (.cons (.v i) (.cons (.v j) .nil)) (.cons ea (.cons eb .nil))))) := by
  refine PS.weak (ps_par' C h (pa_cons ha (pa_cons hb pa_nil (star_ne s2)) (star_ne s1))) fun Dn σ H ⟨κ, w, Fr, s, hh, p⟩ => ?_
  unfold evSt at p
  rw [evs2] at p
  refine fromS hh p fun v κ1 w1 H1 s1 d l1 h1 r1 p1 => fromS h1 p1 fun u κ2 w2 H2 s2 e l2 h2 r2 p2 => ?_
  obtain ⟨s3, e3, p3⟩ := OutS.of_some p2
  obtain ⟨s4, e4, e5⟩ := asgs2 e3
  rw [asgv e4] at e5
  rw [asgv e5] at p3
  exact ⟨v, u, rfl, p3 κ2 w2 H2 _ .rfl ((h2.put (Rep.mono l2 _ _ r1)).put r2)⟩
/-- the first name owns what it gets -/
theorem p_parO1 {i j : Nat} {x y : Str} {px py pt pt2 : Pos} {kt k2 : Nat} {a b : Expr} {ea eb : E} (C : SCtx T k X W) (hl : ∀ s0 d s, ev (pr T k) ea s0 = .ok d s → ∃ ds, d = .lst ds) (hst : still eb = true) (h : par2 X.N X.env.scope i j x y px py a b = true) (ha : PE X a (rdF X W (ev (pr T k) ea)))
    (hb : PE X b (rd X W (ev (pr T k) eb))) (s1 : shp a = true) (s2 : shp b = true) :
    PS X (.Assign [.Tuple [.Name x px, .Name y py] kt pt] (.Tuple [a, b] k2 pt2) pos) (rdS X W (evSt (pr T k) (.par (.cons (.o i) (.cons (.v j) .nil)) (.cons ea (.cons eb .nil))))) := by
  refine PS.weak (ps_par' C h (pa_cons ha (pa_cons hb pa_nil (star_ne s2)) (star_ne s1))) fun Dn σ H ⟨κ, w, Fr, s, hh, p⟩ => ?_
  unfold evSt at p
  rw [evs2] at p
  refine fromSF hl hh p fun q xs κ1 w1 H1 s1 ds l1 h1 n r1 p1 => ?_
  refine ⟨_, w1, _, s1, h1.grow n (fun _ z => by cases z), ?_⟩
  have se := still_env (pr T k) eb s1 hst
  cases eo : ev (pr T k) eb s1 with
  | no => rw [eo] at p1; exact p1.elim
  | ex x s2 =>
    rw [eo] at p1 se
    exact fun κ' w' H' Cc dx l h' ee => p1 κ' w' H' σ Cc dx l (Here.less h1 n h' se) ee
  | ok e s2 =>
    rw [eo] at p1 se
    intro u κ2 w2 H2 l2 h2 r2
    obtain ⟨s3, e3, p3⟩ := OutS.of_some p1
    obtain ⟨s4, e4, e5⟩ := asgs2 e3
    rw [asgo e4] at e5
    rw [asgv e5] at p3
    exact ⟨.ref q, u, rfl, p3 _ w2 H2 _ l2 ((Here.claim (ob := .lst ds) h1 n h2 se ⟨xs, rfl, Reps.mono l2 _ _ r1⟩).put r2)⟩
/-- the second name owns what it gets -/
theorem p_parO2 {i j : Nat} {x y : Str} {px py pt pt2 : Pos} {kt k2 : Nat} {a b : Expr} {ea eb : E} (C : SCtx T k X W) (hl : ∀ s0 d s, ev (pr T k) eb s0 = .ok d s → ∃ ds, d = .lst ds) (h : par2 X.N X.env.scope i j x y px py a b = true) (ha : PE X a (rd X W (ev (pr T k) ea)))
    (hb : PE X b (rdF X W (ev (pr T k) eb))) (s1 : shp a = true) (s2 : shp b = true) :
    PS X (.Assign [.Tuple [.Name x px, .Name y py] kt pt] (.Tuple [a, b] k2 pt2) pos) (rdS X W (evSt (pr T k) (.par (.cons (.v i) (.cons (.o j) .nil)) (.cons ea (.cons eb .nil))))) := by
  refine PS.weak (ps_par' C h (pa_cons ha (pa_cons hb pa_nil (star_ne s2)) (star_ne s1))) fun Dn σ H ⟨κ, w, Fr, s, hh, p⟩ => ?_
  unfold evSt at p
  rw [evs2] at p
  refine fromS hh p fun v κ1 w1 H1 s1 d l1 h1 r1 p1 => fromSF hl h1 p1 fun q xs κ2 w2 H2 s2 ds l2 h2 n r2 p2 => ?_
  obtain ⟨s3, e3, p3⟩ := OutS.of_some p2
  obtain ⟨s4, e4, e5⟩ := asgs2 e3
  rw [asgv e4] at e5
  rw [asgo e5] at p3
  exact ⟨v, .ref q, rfl, p3 _ w2 _ _ .rfl ((h2.put (Rep.mono l2 _ _ r1)).ownNew (ob := .lst ds) n (fun _ z => by cases z) ⟨xs, rfl, r2⟩)⟩
/-! ### raise -/
theorem pmk_own0 {C : Addr} {bmB : List Value} {B newId initId : String} {x : Str} {p : Pos} (F : ExcBaseFacts B newId initId bmB) (q : PySem.W.excIn X.K C bmB newId = true) (gC : X.mg x = some (.ref C)) (kC : PySem.W.keepIn X.K (.ref C) = true) (r : Raises X (.ref C)) (hg : L2.Gl X x)
    (hdb : (x == ("__debug__" : Str)) = false) : L2.PMk X (.Call (.Name x p) [] [] pos) (fun _ H Q => Q (.ref C) none H) := by
  intro pins s σ H Q I h
  refine wpAny_Call_Name_kw (ld_glob I hg gC ?_ hdb)
  refine PySem.W.callWith_K0 I.kIn kC ?_
  show wpAny _ _ (PySem.call (.ref C) []) _ _ _
  obtain ⟨bm, N, nm, qn, bs, hdct, sn, sub, ab, col, dd, k0, k1, k2, k3, k5, mN, hC, hN, hni, T⟩ := exc_obj I.kIn q
  refine wpAny_call_exc_subT F T hC hN hni (fun h' e hm => ?_) (by show 0 ≤ sizeLine; exact Nat.zero_le _)
  exact mk_of I hm r h (I.hok.gone hm.new)
theorem p_raise {c : String} {y : Str} {p p2 : Pos} (C : Ctx T k X W) (h : nameIs X.env.scope c y = true) : PS X (.Raise (some (.Call (.Name y p) [] [] p2)) none pos) (rdS X W (evSt (pr T k) (.raise_ c))) := by
  obtain ⟨rfl, h2, h3⟩ := nameIs_of h
  by_cases hr : T.rai c = true
  · obtain ⟨Ca, bmB, newId, initId, F, e1, e2, e3, e4, e5⟩ := C.rai c hr
    refine PS.weak (L2.ps_raise C.calm C.tk (pmk_own0 F e2 e1 e3 (raises_own e4 e5) (gl_of h2) h3)) fun Dn σ H ⟨κ, w, Fr, s, hh, p⟩ => ?_
    unfold evSt at p
    rw [if_pos (show (pr T k).rai c = true from hr)] at p
    exact p κ w H σ (.ref Ca) none .rfl hh ⟨Ca, e1, rfl, trivial⟩
  · refine PS.never fun Dn σ H ⟨κ, w, Fr, s, hh, p⟩ => ?_
    unfold evSt at p
    rw [if_neg (show ¬ (pr T k).rai c = true from hr)] at p
    exact p
end
/-! ### try -/
mutual
def litE : E → Bool
  | .int _ => true | .str _ => true | .bl _ => true | .non => true
  | .lst es => litEs es
  | .tup es => litEs es
  | _ => false
def litEs : Es → Bool
  | .nil => true
  | .cons e r => litE e && litEs r
end
def okHs (N : List Str) (sc : Scope) : Hs → List ExceptHandler → Bool
  | .nil, hs => (match hs with | [] => true | _ => false)
  | .cons c b r, hs => (match b, hs with
    | .cons (.ret e) .nil, (.ExceptHandler (some (.Name y _)) none [.Return (some x) _] _) :: hs => nameIs sc c y && (litE e && (okE N sc e x && okHs N sc r hs))
    | _, _ => false)
section
variable {T : Txt} {k : Nat}
mutual
theorem lit_pe : ∀ (e : E) (X : Cx) (W : WX) (x : Expr), litE e = true → okE X.N X.env.scope e x = true → PE X x (rd X W (ev (pr T k) e))
  | .int i, X, W, x, _, h => by
    unfold okE at h; split at h <;> first | (cases h; done) | skip
    cases of_decide_eq_true h
    rw [show ev (pr T k) (.int i) = fun s => .ok (.int i) s from funext fun s => by unfold ev; rfl]
    exact (lit_ok (W := W) (d := .int i) pe_int (fun _ => rfl) (fun _ => rfl)).1
  | .str z, X, W, x, _, h => by
    unfold okE at h; split at h <;> first | (cases h; done) | skip
    cases of_decide_eq_true h
    rw [show ev (pr T k) (.str z) = fun s => .ok (.str (Str.ofString z)) s from funext fun s => by unfold ev; rfl]
    exact (lit_ok (W := W) (d := .str (Str.ofString z)) pe_str (fun _ => rfl) (fun _ => rfl)).1
  | .bl b, X, W, x, _, h => by
    unfold okE at h; split at h <;> first | (cases h; done) | skip
    cases eq_of_beq h
    rw [show ev (pr T k) (.bl b) = fun s => .ok (.bl b) s from funext fun s => by unfold ev; rfl]
    exact (lit_ok (W := W) (d := .bl b) pe_bl (fun _ => rfl) (fun _ => rfl)).1
  | .non, X, W, x, _, h => by
    unfold okE at h; split at h <;> first | (cases h; done) | skip
    rw [show ev (pr T k) .non = fun s => .ok .non s from funext fun s => by unfold ev; rfl]
    exact (lit_ok (W := W) (d := .non) pe_non (fun _ => rfl) (fun _ => rfl)).1
  | .lst es, X, W, x, l, h => by
    unfold okE at h; split at h <;> first | (cases h; done) | skip
    exact s_lst (lit_pes es X W _ l h)
  | .tup es, X, W, x, l, h => by
    unfold okE at h; split at h <;> first | (cases h; done) | skip
    exact s_tup (lit_pes es X W _ l h)
  | .var _, _, _, _, h, _ | .con _, _, _, _, h, _ | .bin _ _ _, _, _, _, h, _ | .neg _, _, _, _, h, _ | .not _, _, _, _, h, _ | .cmp _ _ _, _, _, _, h, _ | .cmp2 _ _ _ _ _, _, _, _, h, _ | .and _ _, _, _, _, h, _ | .or _ _, _, _, _, h, _ | .ite _ _ _, _, _, _, h, _
  | .call _ _, _, _, _, h, _ | .callk _ _ _ _ _ _, _, _, _, h, _ | .blt _ _, _, _, _, h, _ | .isi _ _, _, _, _, h, _ | .idx _ _, _, _, _, h, _ | .slc _ _ _, _, _, _, h, _ | .rev _, _, _, _, h, _ | .comp _ _ _ _ _, _, _, _, h, _
  | .frz _, _, _, _, h, _ | .mlen _, _, _, _, h, _ | .midx _ _, _, _, _, h, _ | .mnil _ _, _, _, _, h, _ | .mtup _, _, _, _, h, _ | .mpop _, _, _, _, h, _ | .mget _ _ _, _, _, _, h, _ | .mpopk _ _, _, _, _, h, _ | .lkd _ _, _, _, _, h, _ => by simp [litE] at h
theorem lit_pes : ∀ (es : Es) (X : Cx) (W : WX) (xs : List Expr), litEs es = true → okEs X.N X.env.scope es xs = true → PA X xs (rdl X W (evs (pr T k) es))
  | .nil, X, W, xs, _, h => by
    unfold okEs at h; split at h <;> first | (cases h; done) | skip
    exact s_nil
  | .cons e r, X, W, xs, l, h => by
    unfold okEs at h; split at h <;> first | (cases h; done) | skip
    simp only [Bool.and_eq_true] at h
    have l : litE e = true ∧ litEs r = true := by simpa [litEs] using l
    exact s_cons h.2.1 (lit_pe e X W _ l.1 h.1) (lit_pes r X W _ l.2 h.2.2)
end
def Out.noex {α : Type} : Out α → Prop
  | .ex _ _ => False
  | _ => True
theorem noex_bind {α β : Type} {f : α → S → Out β} : ∀ {o : Out α}, o.noex → (∀ a s, (f a s).noex) → (o.bind f).noex
  | .ok a s, _, k => k a s
  | .ex _ _, h, _ => h
  | .no, _, _ => trivial
mutual
theorem lit_noex (P : Prm) : ∀ (e : E) (s : S), litE e = true → (ev P e s).noex
  | .int _, s, _ => by unfold ev; exact trivial
  | .str _, s, _ => by unfold ev; exact trivial
  | .bl _, s, _ => by unfold ev; exact trivial
  | .non, s, _ => by unfold ev; exact trivial
  | .lst es, s, h => by
    unfold ev
    exact noex_bind (lits_noex P es s h) fun ds s => by split <;> exact trivial
  | .tup es, s, h => by
    unfold ev
    exact noex_bind (lits_noex P es s h) fun ds s => by split <;> exact trivial
  | .var _, _, h | .con _, _, h | .bin _ _ _, _, h | .neg _, _, h | .not _, _, h | .cmp _ _ _, _, h | .cmp2 _ _ _ _ _, _, h | .and _ _, _, h | .or _ _, _, h | .ite _ _ _, _, h
  | .call _ _, _, h | .callk _ _ _ _ _ _, _, h | .blt _ _, _, h | .isi _ _, _, h | .idx _ _, _, h | .slc _ _ _, _, h | .rev _, _, h | .comp _ _ _ _ _, _, h
  | .frz _, _, h | .mlen _, _, h | .midx _ _, _, h | .mnil _ _, _, h | .mtup _, _, h | .mpop _, _, h | .mget _ _ _, _, h | .mpopk _ _, _, h | .lkd _ _, _, h => by simp [litE] at h
theorem lits_noex (P : Prm) : ∀ (es : Es) (s : S), litEs es = true → (evs P es s).noex
  | .nil, s, _ => by unfold evs; exact trivial
  | .cons e r, s, h => by
    unfold evs
    have h : litE e = true ∧ litEs r = true := by simpa [litEs] using h
    exact noex_bind (lit_noex P e s h.1) fun d s => noex_bind (lits_noex P r s h.2) fun ds s => trivial
end
/-- the clauses, as the kit reads them -/
def hsL (X : Cx) (T : Txt) (k : Nat) : Hs → List (Value × (Addr → Value → Option Addr → TS))
  | .nil => []
  | .cons c b r => ((X.mg (Str.ofString c)).getD .none, fun _ _ _ => rdS X W0 (evSs (pr T k) b)) :: hsL X T k r
theorem hs_ok {X : Cx} {W : WX} (C : SCtx T k X W) : ∀ (hs : Hs) (xs : List ExceptHandler), hsOk (pr T k) hs = true → okHs X.N X.env.scope hs xs = true → HdsOk X xs (hsL X T k hs)
  | .nil, xs, _, h => by
    unfold okHs at h; split at h <;> first | (cases h; done) | skip
    exact .nil
  | .cons c b r, xs, l, h => by
    unfold okHs at h; split at h <;> first | (cases h; done) | skip
    simp only [Bool.and_eq_true] at h
    obtain ⟨h1, h2, h3, h4⟩ := h
    have l : (pr T k).exc c = true ∧ hsOk (pr T k) r = true := by simpa [hsOk] using l
    obtain ⟨rfl, n2, n3⟩ := nameIs_of h1
    obtain ⟨Da, e1⟩ := C.c.exn c l.1
    refine .cons ⟨gl_of n2, n3, .inl (by rw [e1]; rfl)⟩ (fun a oe cls d pn _ _ => ?_) (hs_ok C r _ l.2 h4)
    exact p_cons (X := X.suite a ((a, oe) :: pn)) (W := W0) (p_ret (X := X.suite a ((a, oe) :: pn)) (W := W0) (lit_pe _ (X.suite a ((a, oe) :: pn)) W0 _ h2 h3)) p_nil
theorem hs_many {X : Cx} {W : WX} (C : SCtx T k X W) {w : Wd} {Fr : Hp} {Dn : Ends} {x : Exn} {Cc : Value} {dx : Option Addr} {κ : Addr → Role} {σ : L2.St} {H : Hp} {s : S} (hh : Here X.K X.mg κ w Fr σ H s) (ee : ExOk X.K X.mg w x Cc dx) :
    ∀ (hs : Hs) (xs : List ExceptHandler), okHs X.N X.env.scope hs xs = true → PostS X.K X.mg W w Fr Dn (evHs (pr T k) hs x s) → wMany X.K W Dn (hsL X T k hs) Cc dx σ H
  | .nil, xs, _, p => by
    unfold evHs at p
    exact p κ w H σ Cc dx .rfl hh ee
  | .cons c b r, xs, h, p => by
    unfold okHs at h; split at h <;> first | (cases h; done) | skip
    rename_i e y _ rx _ _ _
    simp only [Bool.and_eq_true] at h
    obtain ⟨h1, h2, h3, h4⟩ := h
    unfold evHs at p
    split at p
    · rename_i hb
      have hb : (pr T k).rai x.cls = true ∧ (pr T k).exc c = true := by simpa using hb
      obtain ⟨Ca, Db, e1, e2, e3⟩ := C.c.exm x.cls c hb.1 hb.2
      obtain ⟨Ca', e4, rfl, _⟩ := ee
      rw [e1] at e4
      have e5 : Ca = Ca' := by injection e4 with q; injection q
      subst e5
      refine ⟨T.sub x.cls c, by rw [e2]; exact e3, fun hs a na => ?_, fun hs => ?_⟩
      · rw [if_pos (show (pr T k).sub x.cls c = true from hs)] at p
        refine ⟨κ, w, Fr, s, hh, ?_⟩
        unfold evSs evSt at p ⊢
        have ne := lit_noex (pr T k) e s h2
        revert p ne
        cases ev (pr T k) e s with
        | ok d s1 => exact fun p _ => p
        | ex y s1 => exact fun _ ne => ne.elim
        | no => exact fun p _ => p
      · rw [if_neg (show ¬ (pr T k).sub x.cls c = true from fun z => by rw [show (pr T k).sub x.cls c = T.sub x.cls c from rfl, hs] at z; cases z)] at p
        exact hs_many C hh ⟨Ca, e1, rfl, by assumption⟩ r _ h4 p
    · exact p.elim
theorem p_try {X : Cx} {W : WX} {body : Ss} {hs : Hs} {bs : List Stmt} {h0 : ExceptHandler} {xs : List ExceptHandler} {pos : Pos} (C : SCtx T k X W) (hh : okHs X.N X.env.scope hs (h0 :: xs) = true)
    (hb : ∀ X' W', SCtx T k X' W' → X'.N = X.N → X'.K = X.K → X'.mg = X.mg → X'.env = X.env → PSs X' bs (rdS X' W' (evSs (pr T k) body))) : PS X (.Try bs (h0 :: xs) [] [] pos) (rdS X W (evSt (pr T k) (.try_ body hs))) := by
  by_cases ho : hsOk (pr T k) hs = true
  · refine PS.weak (L2.ps_try_many (l := hsL X T k hs) (tb := fun W' => rdS X W' (evSs (pr T k) body)) C.stk C.frm C.c.tk (fun W' pn xe tk' ow => hb (X.tr pn xe) W' ⟨⟨C.c.calm, C.c.kind, C.c.nd, tk', C.c.room, C.c.tab, C.c.bt, C.c.gl, C.c.gcd, C.c.exn, C.c.rai, C.c.exm⟩, ow, C.fn, C.stk, C.frm⟩ rfl rfl rfl rfl) (hs_ok C hs _ ho hh)) fun Dn σ H ⟨κ, w, Fr, s, h1, p⟩ => ?_
    unfold evSt at p
    rw [if_pos ho] at p
    refine ⟨κ, w, Fr, s, h1, ?_⟩
    revert p
    cases evSs (pr T k) body s with
    | nx s1 => exact fun p => p
    | rt d s1 => exact fun p => p
    | bk s1 => exact fun p => p
    | ct s1 => exact fun p => p
    | ex x s1 => exact fun p κ' w' H' σ' Cc dx l h' ee => hs_many C h' ee hs _ hh (PostS.mono l p)
    | no => exact fun p => p
  · refine PS.never fun Dn σ H ⟨κ, w, Fr, s, h1, p⟩ => ?_
    unfold evSt at p
    rw [if_neg ho] at p
    exact p
end
end Z

set_option linter.all false
set_option autoImplicit false
set_option maxRecDepth 20000
/-! Statements, all together. -/
namespace Z
open PySem PySem.Spec PyProof.Rows L2
def notTup : Expr → Bool
  | .Tuple .. => false
  | _ => true
/-- a target that is no plain local name -/
def offB (sc : Scope) : Expr → Bool
  | .Name id _ => !locB sc id
  | _ => true
/-- not stored from the right -/
def swN (sc : Scope) : Expr → Expr → Bool
  | .Tuple ts _ _, .Tuple vs _ _ => ts.any (offB sc) && !vs.any isStar
  | _, .Tuple _ _ _ => false
  | _, _ => true
def isFresh : E → Bool
  | .lst _ => true
  | .comp _ _ _ _ _ => true
  | _ => false
def isComp : E → Bool
  | .comp _ _ _ _ _ => true
  | _ => false
def nameB (N : List Str) (sc : Scope) (i : Nat) (y : Str) : Bool := decide (N[i]? = some y) && (locB sc y || cellB sc y)
mutual
def okSt (N : List Str) (sc : Scope) : St → Stmt → Bool
  | .ret e, x => (match x with | .Return (some y) _ => okE N sc e y | _ => false)
  | .retn, x => (match x with | .Return none _ => true | _ => false)
  | .retS e, x => (match x with | .Return (some y) _ => isFresh e && okE N sc e y | _ => false)
  | .set t e, x => (match t, x with
    | .v i, .Assign [.Name y py] v _ => nameB N sc i y && (okE N sc e v && (if swTrue sc y py v then isComp e else (noComp v || isComp e)))
    | .o i, .Assign [.Name y py] v _ => nameB N sc i y && (isFresh e && (okE N sc e v && (if swTrue sc y py v then isComp e else (noComp v || isComp e))))
    | .tup ts, .Assign [tx] v _ => okT N sc [] (.tup ts) tx && (noComp v && (swN sc tx v && okE N sc e v))
    | _, _ => false)
  | .dict i, x => (match x with | .Assign [.Name y _] (.Dict [] [] _) _ => nameB N sc i y | _ => false)
  | .par ts es, x => (match ts, es, x with
    | .cons (.v i) (.cons (.v j) .nil), .cons ea (.cons eb .nil), .Assign [.Tuple [.Name y py, .Name z pz] _ _] (.Tuple [a, b] _ _) _ => par2 N sc i j y z py pz a b && (okE N sc ea a && (okE N sc eb b && (shp a && shp b)))
    | .cons (.o i) (.cons (.v j) .nil), .cons ea (.cons eb .nil), .Assign [.Tuple [.Name y py, .Name z pz] _ _] (.Tuple [a, b] _ _) _ => par2 N sc i j y z py pz a b && (isFresh ea && (still eb && (okE N sc ea a && (okE N sc eb b && (shp a && shp b)))))
    | .cons (.v i) (.cons (.o j) .nil), .cons ea (.cons eb .nil), .Assign [.Tuple [.Name y py, .Name z pz] _ _] (.Tuple [a, b] _ _) _ => par2 N sc i j y z py pz a b && (isFresh eb && (okE N sc ea a && (okE N sc eb b && (shp a && shp b))))
    | _, _, _ => false)
  | .exp e, x => (match x with | .Expr y _ => noComp y && okE N sc e y | _ => false)
  | .ite c a b, x => (match x with | .If y as bs _ => okE N sc c y && (okSs N sc a as && okSs N sc b bs) | _ => false)
  | .for_ tg it body, x => (match x with | .For t y bs [] _ => okT N sc [] tg t && (shp y && (!PostI.mvOnly it && (okI N sc (isTupX t) it y && okSs N sc body bs))) | _ => false)
  | .while_ c body, x => (match x with | .While y bs [] _ => okE N sc c y && okSs N sc body bs | _ => false)
  | .mapp i e, x => (match x with | .Expr (.Call o [y] [] cpos) _ => mtB "append" i N sc o cpos && (shp y && okE N sc e y) | _ => false)
  | .mext i e, x => (match x with | .Expr (.Call o [y] [] cpos) _ => mtB "extend" i N sc o cpos && (shp y && okE N sc e y) | _ => false)
  | .mins i a e, x => (match x with | .Expr (.Call o [z, y] [] cpos) _ => mtB "insert" i N sc o cpos && (shp z && (shp y && (okE N sc a z && okE N sc e y))) | _ => false)
  | .mset i a e, x => (match x with | .Assign [.Subscript (.Name y _) j _] v _ => nm N sc i y && (shp j && (noComp v && (okE N sc a j && okE N sc e v))) | _ => false)
  | .mput i a e, x => (match x with | .Assign [.Subscript (.Name y _) j _] v _ => nm N sc i y && (shp j && (noComp v && (okE N sc a j && okE N sc e v))) | _ => false)
  | .sset o i e, x => (match x with | .Assign [.Subscript ox j _] v _ => shp j && (noComp v && (okE N sc o ox && (okE N sc i j && okE N sc e v))) | _ => false)
  | .raise_ c, x => (match x with | .Raise (some (.Call (.Name y _) [] [] _)) none _ => nameIs sc c y | _ => false)
  | .pass, x => (match x with | .Pass _ => true | .Expr (.Constant (.str _) _ _) _ => true | _ => false)
  | .nev, _ => true
  | .try_ body hs, x => (match x with | .Try bs (h0 :: xs) [] [] _ => okSs N sc body bs && okHs N sc hs (h0 :: xs) | _ => false)
def okSs (N : List Str) (sc : Scope) : Ss → List Stmt → Bool
  | .nil, xs => (match xs with | [] => true | _ => false)
  | .cons st r, xs => (match xs with | x :: xs => okSt N sc st x && okSs N sc r xs | _ => false)
end
theorem fm_short {α β : Type} {f : α → Option β} : ∀ {l : List α}, (∃ x ∈ l, f x = none) → (l.filterMap f).length < l.length
  | x :: l, h => by
    rw [List.filterMap_cons]
    obtain ⟨y, hy, hn⟩ := h
    have le := List.length_filterMap_le f l
    cases e : f x with
    | none => show (l.filterMap f).length < l.length + 1; omega
    | some b =>
      rcases List.mem_cons.mp hy with rfl | hy
      · rw [hn] at e; cases e
      · have := fm_short ⟨y, hy, hn⟩
        show (l.filterMap f).length + 1 < l.length + 1
        omega
theorem swN_of {tx v : Expr} {env : Env} (h : swN env.scope tx v = true) : swappedStores [tx] v env = pure none := by
  by_cases hv : notTup v = true
  · cases v <;> first | (cases hv; done) | skip
    all_goals (cases tx <;> rfl)
  · cases v <;> first | (exact absurd rfl hv) | skip
    rename_i vs k2 pt2
    cases tx <;> first | (cases h; done) | skip
    rename_i ts kt pt
    simp only [swN, Bool.and_eq_true, Bool.not_eq_true'] at h
    obtain ⟨h1, h2⟩ := h
    rw [sw_unf, h2]
    split
    · rfl
    · simp only [Bool.false_eq_true, if_false]
      generalize hl : (ts.head?.map (·.pos.line)).getD 0 = line
      obtain ⟨t, ht, hn⟩ := List.any_eq_true.mp h1
      have hs := fm_short (f := nmF env line) ⟨t, ht, by
        cases t with
        | Name id q =>
          have hn : locB env.scope id = false := by simpa [offB] using hn
          have hk : (env.kindOf id == some .local) = false := by
            show (env.scope.names.lookup id == some .local) = false
            unfold locB at hn
            cases z : env.scope.names.lookup id with
            | none => rfl
            | some k => rw [z] at hn; cases k <;> first | rfl | cases hn
          simp [nmF, hk]
        | _ => rfl⟩
      have hb : ((ts.filterMap (nmF env line)).length != ts.length) = true := by
        simp only [bne_iff_ne]
        exact Nat.ne_of_lt hs
      rw [hb]
      rfl
theorem nameB_of {N : List Str} {sc : Scope} {i : Nat} {y : Str} (h : nameB N sc i y = true) : N[i]? = some y ∧ (locB sc y || cellB sc y) = true := by
  unfold nameB at h
  simp only [Bool.and_eq_true, decide_eq_true_eq] at h
  exact h
section
variable {T : Txt} {k : Nat}
theorem fresh_is {e : E} (h : isFresh e = true) : ∀ s0 d s, ev (pr T k) e s0 = .ok d s → ∃ ds, d = .lst ds := by
  cases e <;> first | (cases h; done) | skip
  · exact fun s0 d s => lst_is s0 d s
  · exact fun s0 d s => comp_is s0 d s
theorem snd_f {e : E} {X : Cx} {W : WX} (C : Ctx T k X W) {x : Expr} (hf : isFresh e = true) (h : okE X.N X.env.scope e x = true) : PE X x (rdF X W (ev (pr T k) e)) := by
  cases e <;> first | (cases hf; done) | skip
  · unfold okE at h; split at h <;> first | (cases h; done) | skip
    exact s_lstF (snd_es _ X W C _ h)
  · exact (snd_cF _ _ _ _ _ X W C x h).1
theorem comp_x {e : E} {N : List Str} {sc : Scope} {x : Expr} (hc : isComp e = true) (h : okE N sc e x = true) : ∃ el gs scope pos, x = .ListComp el gs scope pos := by
  cases e <;> first | (cases hc; done) | skip
  unfold okE at h; split at h <;> first | (cases h; done) | skip
  exact ⟨_, _, _, _, rfl⟩
/-- how the value is stored -/
theorem set_sw {e : E} {X : Cx} {W : WX} (C : SCtx T k X W) {x : Expr} {y : Str} {py : Pos} (h : okE X.N X.env.scope e x = true) (hs : (if swTrue X.env.scope y py x then isComp e else (noComp x || isComp e)) = true) :
    (swTrue X.env.scope y py x = true ∧ isComp e = true) ∨ ∀ l, swapsWith x (some (.Name y py)) l X.env = pure false := by
  cases q : swTrue X.env.scope y py x with
  | true => rw [q] at hs; exact .inl ⟨rfl, hs⟩
  | false =>
    rw [q] at hs
    have hs : (noComp x || isComp e) = true := hs
    refine .inr fun l => ?_
    cases z : noComp x with
    | true => exact sw_none z
    | false =>
      rw [z] at hs
      obtain ⟨el, gs, scope, pos, rfl⟩ := comp_x hs h
      exact sw_false C.c.kind rfl q
set_option maxHeartbeats 2000000 in
mutual
theorem snd_st : ∀ (st : St) (X : Cx) (W : WX) (C : SCtx T k X W) (x : Stmt), okSt X.N X.env.scope st x = true → PS X x (rdS X W (evSt (pr T k) st))
  | .ret e, X, W, C, x, h => by
    unfold okSt at h; split at h <;> first | (cases h; done) | skip
    exact p_ret (snd_e e X W C.c _ h).1
  | .retn, X, W, C, x, h => by
    unfold okSt at h; split at h <;> first | (cases h; done) | skip
    exact p_retn
  | .retS e, X, W, C, x, h => by
    unfold okSt at h; split at h <;> first | (cases h; done) | skip
    simp only [Bool.and_eq_true] at h
    exact p_retS (fresh_is h.1) (snd_f C.c h.1 h.2)
  | .set t e, X, W, C, x, h => by
    unfold okSt at h; split at h <;> first | (cases h; done) | skip
    · simp only [Bool.and_eq_true] at h
      obtain ⟨h1, h2, h3⟩ := h
      obtain ⟨n1, n2⟩ := nameB_of h1
      rcases set_sw C h2 h3 with ⟨q, c⟩ | q
      · have hf : isFresh e = true := by cases e <;> first | (cases c; done) | rfl
        refine p_setF (fresh_is hf) ?_
        cases e <;> first | (cases c; done) | skip
        exact (snd_cF _ _ _ _ _ X W C.c _ h2).2 _ _ _ _ n1 q
      · exact p_set C n1 n2 (q _) (snd_e e X W C.c _ h2).1
    · simp only [Bool.and_eq_true] at h
      obtain ⟨h1, hf, h2, h3⟩ := h
      obtain ⟨n1, n2⟩ := nameB_of h1
      rcases set_sw C h2 h3 with ⟨q, c⟩ | q
      · refine p_ownF (fresh_is hf) ?_
        cases e <;> first | (cases c; done) | skip
        exact (snd_cF _ _ _ _ _ X W C.c _ h2).2 _ _ _ _ n1 q
      · exact p_own C (fresh_is hf) n1 n2 (q _) (snd_f C.c hf h2)
    · simp only [Bool.and_eq_true] at h
      obtain ⟨h1, h2, h3, h4⟩ := h
      exact p_setT C h1 (sole h2) (swN_of h3) (snd_e e X W C.c _ h4).1
  | .dict i, X, W, C, x, h => by
    unfold okSt at h; split at h <;> first | (cases h; done) | skip
    obtain ⟨n1, n2⟩ := nameB_of h
    exact p_dict C n1 n2
  | .par ts es, X, W, C, x, h => by
    unfold okSt at h; split at h <;> first | (cases h; done) | skip
    · simp only [Bool.and_eq_true] at h
      obtain ⟨h1, h2, h3, h4, h5⟩ := h
      exact p_par C h1 (snd_e _ X W C.c _ h2).1 (snd_e _ X W C.c _ h3).1 h4 h5
    · simp only [Bool.and_eq_true] at h
      obtain ⟨h1, hf, hst, h2, h3, h4, h5⟩ := h
      exact p_parO1 C (fresh_is hf) hst h1 (snd_f C.c hf h2) (snd_e _ X W C.c _ h3).1 h4 h5
    · simp only [Bool.and_eq_true] at h
      obtain ⟨h1, hf, h2, h3, h4, h5⟩ := h
      exact p_parO2 C (fresh_is hf) h1 (snd_e _ X W C.c _ h2).1 (snd_f C.c hf h3) h4 h5
  | .exp e, X, W, C, x, h => by
    unfold okSt at h; split at h <;> first | (cases h; done) | skip
    simp only [Bool.and_eq_true] at h
    exact p_exp h.1 (snd_e e X W C.c _ h.2).1
  | .ite c a b, X, W, C, x, h => by
    unfold okSt at h; split at h <;> first | (cases h; done) | skip
    simp only [Bool.and_eq_true] at h
    exact p_ite (snd_e c X W C.c _ h.1).2 (snd_ss a X W C _ h.2.1) (snd_ss b X W C _ h.2.2)
  | .for_ tg it body, X, W, C, x, h => by
    unfold okSt at h; split at h <;> first | (cases h; done) | skip
    simp only [Bool.and_eq_true] at h
    obtain ⟨h1, h2, h3, h4, h5⟩ := h
    exact p_for C h1 h2 ((snd_i it X W C.c _ _ h4).2 (by simpa using h3)) (snd_ss body X W C _ h5)
  | .while_ c body, X, W, C, x, h => by
    unfold okSt at h; split at h <;> first | (cases h; done) | skip
    simp only [Bool.and_eq_true] at h
    exact p_while C (snd_e c X W C.c _ h.1).2 (snd_ss body X W C _ h.2)
  | .mapp i e, X, W, C, x, h => by
    unfold okSt at h; split at h <;> first | (cases h; done) | skip
    simp only [Bool.and_eq_true] at h
    exact p_app h.1 h.2.1 (snd_e e X W C.c _ h.2.2).1
  | .mext i e, X, W, C, x, h => by
    unfold okSt at h; split at h <;> first | (cases h; done) | skip
    simp only [Bool.and_eq_true] at h
    exact p_ext h.1 h.2.1 (snd_e e X W C.c _ h.2.2).1
  | .mins i a e, X, W, C, x, h => by
    unfold okSt at h; split at h <;> first | (cases h; done) | skip
    simp only [Bool.and_eq_true] at h
    exact p_ins h.1 h.2.1 h.2.2.1 (snd_e a X W C.c _ h.2.2.2.1).1 (snd_e e X W C.c _ h.2.2.2.2).1
  | .mset i a e, X, W, C, x, h => by
    unfold okSt at h; split at h <;> first | (cases h; done) | skip
    simp only [Bool.and_eq_true] at h
    exact p_mset h.1 h.2.1 h.2.2.1 (snd_e a X W C.c _ h.2.2.2.1).1 (snd_e e X W C.c _ h.2.2.2.2).1
  | .mput i a e, X, W, C, x, h => by
    unfold okSt at h; split at h <;> first | (cases h; done) | skip
    simp only [Bool.and_eq_true] at h
    exact p_mput C h.1 h.2.1 h.2.2.1 (snd_e a X W C.c _ h.2.2.2.1).1 (snd_e e X W C.c _ h.2.2.2.2).1
  | .sset o i e, X, W, C, x, h => by
    unfold okSt at h; split at h <;> first | (cases h; done) | skip
    simp only [Bool.and_eq_true] at h
    exact p_sset h.1 h.2.1 (snd_e o X W C.c _ h.2.2.1).1 (snd_e i X W C.c _ h.2.2.2.1).1 (snd_e e X W C.c _ h.2.2.2.2).1
  | .raise_ c, X, W, C, x, h => by
    unfold okSt at h; split at h <;> first | (cases h; done) | skip
    exact p_raise C.c h
  | .pass, X, W, C, x, h => by
    unfold okSt at h; split at h <;> first | (cases h; done) | skip
    · exact p_pass
    · exact p_doc
  | .nev, X, W, C, x, h => PS.never fun D σ H ⟨κ, w, Fr, s, hh, p⟩ => by
    unfold evSt at p
    exact p
  | .try_ body hs, X, W, C, x, h => by
    unfold okSt at h; split at h <;> first | (cases h; done) | skip
    simp only [Bool.and_eq_true] at h
    exact p_try C h.2 fun X' W' C' e1 e2 e3 e4 => snd_ss body X' W' C' _ (by rw [e1, e4]; exact h.1)
theorem snd_ss : ∀ (ss : Ss) (X : Cx) (W : WX) (C : SCtx T k X W) (xs : List Stmt), okSs X.N X.env.scope ss xs = true → PSs X xs (rdS X W (evSs (pr T k) ss))
  | .nil, X, W, C, xs, h => by
    unfold okSs at h; split at h <;> first | (cases h; done) | skip
    exact p_nil
  | .cons st r, X, W, C, xs, h => by
    unfold okSs at h; split at h <;> first | (cases h; done) | skip
    simp only [Bool.and_eq_true] at h
    exact p_cons (snd_st st X W C _ h.1) (snd_ss r X W C _ h.2)
end
end
end Z

set_option linter.all false
set_option autoImplicit false
set_option maxRecDepth 20000
/-! Defs. -/
namespace Z
open PySem PySem.Spec PyProof.Rows L2
structure DefF (K : PySem.W.Frag) (mg : Str → Option Value) (f : String) (fn : Fn) : Prop where
  ex : ∃ (a : Addr) (fd : FuncData) (N ps : List Str) (x qual : Str) (params : Arguments) (body : List Stmt) (scope : Scope), mg (Str.ofString f) = some (.ref a) ∧ FunD K x qual params body scope [] [] a fd ∧ FnScope N ps scope ∧ Binds K fd ps [] ∧ KwOk K fd ps fn.kws ∧
    ps.length = fn.ps ∧ N.length = fn.n ∧ okSs N scope fn.body body = true
section
variable {K : PySem.W.Frag} {mg : Str → Option Value} {κ : Addr → Role} {w : Wd} {Fr H : Hp} {t : List Ob}
theorem start_here {N : List Str} {n : Nat} {ds : List D} {vs : List V} (g : Gl_ K mg κ w Fr H t) (r : Reps K mg w ds vs) (hn : N.length = n) : Here K mg κ w Fr (L2.start N vs) H ⟨startE n ds, t⟩ := by
  have hl := r.length
  refine ⟨g, by simp [startE, L2.start, hl, hn], fun i x e => ?_⟩
  have e : (ds.map Sl.val ++ List.replicate (n - ds.length) Sl.no)[i]? = some x := e
  by_cases hi : i < ds.length
  · rw [List.getElem?_append_left (by simpa using hi), List.getElem?_map] at e
    obtain ⟨d, e1, rfl⟩ := of_map e
    obtain ⟨v, e2, rv⟩ := r.get e1
    refine ⟨v, ?_, rv⟩
    unfold L2.start
    rw [List.getElem?_append_left (by rw [List.length_map, hl]; exact hi), List.getElem?_map, e2]; rfl
  · rw [List.getElem?_append_right (by simpa using hi), List.getElem?_replicate] at e
    split at e
    · cases e; exact True.intro
    · cases e
end
theorem tab_ok {T : Txt} {P : Program} {w : World} {K : PySem.W.Frag} {mg : Str → Option Value} {base : Heap} (bt : ∀ n ∈ bNames, mg (Str.ofString n) = none)
    (gl : ∀ x d, T.gl x = some d → ∃ u v, mg (Str.ofString x) = some u ∧ RelV v u ∧ Rep K mg ⟨[], fun _ => none⟩ d v) (gcd : mg (Str.ofString "gcd") = some (.builtin "math.gcd")) (exn : ∀ d, T.exc d = true → ∃ D, mg (Str.ofString d) = some (.ref D)) (rai : ∀ c, T.rai c = true → RaiOk K mg c)
    (exm : ∀ c d, T.rai c = true → T.exc d = true → ∃ C D, mg (Str.ofString c) = some (.ref C) ∧ mg (Str.ofString d) = some (.ref D) ∧ PySem.W.exmOne K (.ref C) (.ref D) = some (T.sub c d)) (F : ∀ f fn, T.fn f = some fn → DefF K mg f fn) :
    ∀ k f fn, T.fn f = some fn → TabF T k P w K mg base f fn
  | 0, f, fn, e => by
    obtain ⟨a, fd, N, ps, x, qual, params, body, scope, h1, h2, h3, h4, h8, h5, h6, h7⟩ := (F f fn e).ex
    refine ⟨a, fd, ps, h1, h2.kp, ⟨fun vs H Q E q => ?_, fun A outer s H args us vs Q E _ _ _ _ q => ?_⟩, h4, h8⟩
    · obtain ⟨_, _, _, _, _, _, _, z⟩ := q; exact z.elim
    · obtain ⟨_, _, _, _, _, _, _, z⟩ := q; exact z.elim
  | k + 1, f, fn, e => by
    have ih := tab_ok (P := P) (w := w) (base := base) bt gl gcd exn rai exm F k
    obtain ⟨a, fd, N, ps, x, qual, params, body, scope, h1, h2, h3, h4, h8, h5, h6, h7⟩ := (F f fn e).ex
    have ce : ∀ ds t, call T (k + 1) f ds t = runF (prm T (call T k)) fn ds t := fun ds t => by
      show (match T.fn f with | some fn => runF (prm T (call T k)) fn ds t | none => .no) = _
      rw [e]
    refine ⟨a, fd, ps, h1, h2.kp, h2.ok h3 (fun vs H Q E q => ?_) (fun cdv A outer s H vs Q E hr q => ?_), h4, h8⟩
    · obtain ⟨κ, w', Fr, t, ds, _, r, z⟩ := q
      rw [ce] at z
      unfold runF at z
      by_cases hl : ds.length = fn.ps
      · rw [r.length, hl, h5]
      · rw [if_neg hl] at z; exact z.elim
    · obtain ⟨κ, w', Fr, t, ds, g, r, z⟩ := q
      rw [ce] at z
      unfold runF at z
      by_cases hl : ds.length = fn.ps
      · rw [if_pos hl] at z
        have C : SCtx T k (cxOf (L2.CX P w) P w K mg base N qual scope a cdv A outer s H E) (fun cls d _ H => E cls d H) :=
          ⟨⟨rfl, h3.kind, h3.nd, takes_of rfl rfl rfl rfl, hr, ih, bt, gl, gcd, exn, rai, exm⟩, passes_of rfl, fun _ => rfl, rfl, rfl⟩
        refine ⟨_, snd_ss fn.body _ _ C body h7, κ, w', Fr, _, start_here g r h6, ?_⟩
        show PostS K mg _ w' Fr _ (evSs (prm T (call T k)) fn.body ⟨startE fn.n ds, t⟩)
        revert z
        cases evSs (prm T (call T k)) fn.body ⟨startE fn.n ds, t⟩ with
        | nx s1 => exact fun z κ' w2 H' σ' l h => z .non κ' w2 H' l h.g rfl
        | rt d s1 => exact fun z v κ' w2 H' σ' l h r => z v κ' w2 H' l h.g r
        | bk s1 => exact fun z => z.elim
        | ct s1 => exact fun z => z.elim
        | ex x s1 => exact fun z κ' w2 H' σ' Cc dx l h ee => z κ' w2 H' Cc dx l h.g ee
        | no => exact fun z => z.elim
      · rw [if_neg hl] at z; exact z.elim
/-- a def whose callees are in the table: its function object first, then every base -/
theorem top_ok {T : Txt} {P : Program} {w : World} {K : PySem.W.Frag} {mg : Str → Option Value} (bt : ∀ n ∈ bNames, mg (Str.ofString n) = none)
    (gl : ∀ x d, T.gl x = some d → ∃ u v, mg (Str.ofString x) = some u ∧ RelV v u ∧ Rep K mg ⟨[], fun _ => none⟩ d v) (gcd : mg (Str.ofString "gcd") = some (.builtin "math.gcd")) (exn : ∀ d, T.exc d = true → ∃ D, mg (Str.ofString d) = some (.ref D)) (rai : ∀ c, T.rai c = true → RaiOk K mg c)
    (exm : ∀ c d, T.rai c = true → T.exc d = true → ∃ C D, mg (Str.ofString c) = some (.ref C) ∧ mg (Str.ofString d) = some (.ref D) ∧ PySem.W.exmOne K (.ref C) (.ref D) = some (T.sub c d)) (F : ∀ f fn, T.fn f = some fn → DefF K mg f fn)
    (k : Nat) {f : String} {fn : Fn} (e : T.fn f = some fn) {a : Addr} {fd : FuncData} {N ps : List Str} {x qual : Str} {params : Arguments} {body : List Stmt} {scope : Scope} (h2 : FunD K x qual params body scope [] [] a fd) (h3 : FnScope N ps scope)
    (h5 : ps.length = fn.ps) (h6 : N.length = fn.n) (h7 : okSs N scope fn.body body = true) (base : Heap) : FnOk P w K mg base (L2.CX P w) (k + 1) a fd ps (spOf K mg (call T (k + 1) f)) := by
  have ih := tab_ok (P := P) (w := w) (base := base) bt gl gcd exn rai exm F k
  have ce : ∀ ds t, call T (k + 1) f ds t = runF (prm T (call T k)) fn ds t := fun ds t => by
    show (match T.fn f with | some fn => runF (prm T (call T k)) fn ds t | none => .no) = _
    rw [e]
  refine h2.ok h3 (fun vs H Q E q => ?_) (fun cdv A outer s H vs Q E hr q => ?_)
  · obtain ⟨κ, w', Fr, t, ds, _, r, z⟩ := q
    rw [ce] at z
    unfold runF at z
    by_cases hl : ds.length = fn.ps
    · rw [r.length, hl, h5]
    · rw [if_neg hl] at z; exact z.elim
  · obtain ⟨κ, w', Fr, t, ds, g, r, z⟩ := q
    rw [ce] at z
    unfold runF at z
    by_cases hl : ds.length = fn.ps
    · rw [if_pos hl] at z
      have C : SCtx T k (cxOf (L2.CX P w) P w K mg base N qual scope a cdv A outer s H E) (fun cls d _ H => E cls d H) :=
        ⟨⟨rfl, h3.kind, h3.nd, takes_of rfl rfl rfl rfl, hr, ih, bt, gl, gcd, exn, rai, exm⟩, passes_of rfl, fun _ => rfl, rfl, rfl⟩
      refine ⟨_, snd_ss fn.body _ _ C body h7, κ, w', Fr, _, start_here g r h6, ?_⟩
      show PostS K mg _ w' Fr _ (evSs (prm T (call T k)) fn.body ⟨startE fn.n ds, t⟩)
      revert z
      cases evSs (prm T (call T k)) fn.body ⟨startE fn.n ds, t⟩ with
      | nx s1 => exact fun z κ' w2 H' σ' l h => z .non κ' w2 H' l h.g rfl
      | rt d s1 => exact fun z v κ' w2 H' σ' l h r => z v κ' w2 H' l h.g r
      | bk s1 => exact fun z => z.elim
      | ct s1 => exact fun z => z.elim
      | ex x s1 => exact fun z κ' w2 H' σ' Cc dx l h ee => z κ' w2 H' Cc dx l h.g ee
      | no => exact fun z => z.elim
    · rw [if_neg hl] at z; exact z.elim
/-- the law's def, at a script -/
theorem law_sp {T : Txt} {K : PySem.W.Frag} {mg : Str → Option Value} {k : Nat} {f : String} {H : Hp} {a : Addr} {ns : List Int} (hS : SqL K H a (ns.map V.int)) (h : ∃ t, call T k f [.scr ns] [] = .ok (.bl true) t) :
    spOf K mg (call T k f) [.ref a] H (fun v _ => v = .bl true) fun _ _ _ => False := by
  obtain ⟨t, h⟩ := h
  refine ⟨fun b => if b = a ∧ H a ≠ none then .fz else .free, ⟨[], fun b => if b = a then H a else none⟩, noF, [], [.scr ns], ⟨fun b o e => ?_, fun b o e => (by cases e), fun b e => ?_, rfl, fun b xs e => ?_, fun n b e => (by cases e)⟩, ⟨.ref a, [], rfl, ⟨a, rfl, ?_⟩, rfl⟩, ?_⟩
  · have e : (if b = a then H a else none) = some o := e
    split at e
    · rename_i q
      subst q
      exact ⟨if_pos ⟨rfl, by rw [e]; intro z; cases z⟩, e⟩
    · cases e
  · split at e
    · rename_i q; rw [q.1]; exact q.2
    · exact absurd rfl e
  · by_cases q : b = a
    · subst q
      exact .inr (by show (if b = b then H b else none) = _; rw [if_pos rfl]; exact e)
    · exact .inl (if_neg fun z => q z.1)
  · rcases hS with (hS | ⟨o, hS⟩) | hS
    · exact .inl (.inl (by show (if a = a then H a else none) = _; rw [if_pos rfl]; exact hS))
    · exact .inl (.inr ⟨o, by show (if a = a then H a else none) = _; rw [if_pos rfl]; exact hS⟩)
    · exact .inr hS
  · rw [h]
    exact fun v κ' w' H' l g r => r
end Z

set_option linter.all false
set_option autoImplicit false
set_option maxRecDepth 20000
/-! From the head's facts to the table of defs. -/
namespace Z
open PySem PySem.Spec PyProof.Rows L2
/-- how a def of the text binds -/
def BindB (x qual : Str) (params : Arguments) (body : List Stmt) (scope : Scope) (ps : List Str) : Prop :=
  ∀ (kV doc pm : Value) (an : Option Addr) (cdv ct : Value) (us : List Value), us.length = ps.length → bindArgs (PySem.W.fnOf x qual params body scope .none kV doc pm an cdv ct) ⟨us, []⟩ = pure (ps.zip us)
def KwB (x qual : Str) (params : Arguments) (body : List Stmt) (scope : Scope) (ps : List Str) (q : Nat × List String × List Nat) : Prop :=
  ∀ (kV doc pm : Value) (an : Option Addr) (cdv ct : Value) (us ws : List Value), us.length = q.1 → ws.length = q.2.1.length →
    bindArgs (PySem.W.fnOf x qual params body scope .none kV doc pm an cdv ct) ⟨us, (q.2.1.map Str.ofString).zip ws⟩ = pure (ps.zip (q.2.2.map fun i => (us ++ ws).getD i .none))
theorem mkDef {fa : List He.Fa} {fn : List He.DefD} {K : PySem.W.Frag} {h : Heap} {mg : Str → Option Value} (X : K.In h) (G : h.Ns mainGlobals mg) (c : He.SaysD fa fn K) (i j : Nat) {d : He.DefD} (hd : fn[i]? = some d) (hg : fa[j]? = some (.glo d.name)) (h0 : d.at_ = (d.name, none)) (h1 : d.dfl = []) (h2 : d.kwd = [])
    {f : String} {code : Fn} (hf : d.name = Str.ofString f) {N ps : List Str} (S : FnScope N ps d.scope) (b : BindB d.name d.qual d.params d.body d.scope ps) (kb : ∀ q ∈ code.kws, KwB d.name d.qual d.params d.body d.scope ps q) (l1 : ps.length = code.ps) (l2 : N.length = code.n)
    (ok : okSs N d.scope code.body d.body = true) : DefF K mg f code := by
  obtain ⟨fd, F⟩ := c.def_ i hd
  have e1 : d.dvs K = [] := by unfold He.DefD.dvs; rw [h1]; rfl
  have e2 : d.kws K = [] := by unfold He.DefD.kws; rw [h2]; rfl
  have e3 : He.fAd K d.at_ = He.ga K d.name := by rw [h0]; rfl
  rw [e1, e2, e3] at F
  have eg := He.glo_ok X G (c.fact j hg)
  refine ⟨_, fd, N, ps, d.name, d.qual, d.params, d.body, d.scope, by rw [← hf]; exact eg, F, S, F.bindsN b, fun n nks perm hm s us ws hK hl1 hl2 => ?_, l1, l2, ok⟩
  obtain ⟨oc, od, dV, kV, doc, pm, an, cdv, ct, osl, rfl, lk, hcd, hD, hK'⟩ := F.ex
  rcases hD with ⟨_, rfl⟩ | ⟨e, _⟩
  · exact .of_eq (kb _ hm kV doc pm an cdv ct us ws hl1 hl2)
  · exact absurd rfl e
end Z
namespace Z
open PySem PySem.Spec PyProof.Rows L2
section
variable {K : PySem.W.Frag} {h : Heap} {mg : Str → Option Value} (X : K.In h) (G : h.Ns mainGlobals mg)
include X G
theorem raiB_ok {c : String} (e : raiB K (Str.ofString c) = true) : RaiOk K mg c := by
  unfold raiB at e
  split at e
  · rename_i C hC
    simp only [Bool.and_eq_true, decide_eq_true_eq] at e
    exact ⟨C, _, _, _, PySem.F.excBase_ValueError, PySem.W.mg_of X G hC, e.1, e.2.1, e.2.2.1, e.2.2.2⟩
  · cases e
theorem exmB_ok {c d : String} {b : Bool} (e : exmB K (Str.ofString c) (Str.ofString d) b = true) : ∃ C D, mg (Str.ofString c) = some (.ref C) ∧ mg (Str.ofString d) = some (.ref D) ∧ PySem.W.exmOne K (.ref C) (.ref D) = some b := by
  unfold exmB at e
  split at e
  · rename_i C D hC hD
    exact ⟨C, D, PySem.W.mg_of X G hC, PySem.W.mg_of X G hD, of_decide_eq_true e⟩
  · cases e
end
end Z
namespace Z
open PySem PySem.Spec PyProof.Rows L2
theorem lookup_all {α : Type} {P : String → α → Prop} : ∀ {l : List (String × α)}, (∀ p ∈ l, P p.1 p.2) → ∀ f a, l.lookup f = some a → P f a
  | [], _, _, _, e => by cases e
  | (x, b) :: l, h, f, a, e => by
    by_cases c : f = x
    · subst c
      have : b = a := by simpa [List.lookup] using e
      subst this
      exact h (f, b) (by simp)
    · have cb : (f == x) = false := by simpa using c
      simp only [List.lookup, cb] at e
      exact lookup_all (fun p hp => h p (by simp [hp])) f a e
/-- a law's end: the way of its errors told by the world -/
theorem walk_mine {l : PySem.W.OpenLaw} {n k : Nat} {q : Program} {loose : List Str} {XP : (Str → Option Value) → Heap → Prop} {YP : World → Heap → Prop} {d : DefRec} {x : Str} (CX : World → CXT)
    (hn : l.most = some n) (hz : n ≤ sizeLine) (hd : d.params.defaults = []) (hr : Room k callerA)
    (F : ∀ (w : World) (mg : Str → Option Value) (fa : Addr) (h : Heap), YP w h → h.Ns mainGlobals mg → mg d.name = some (.ref fa) → ∃ (K : PySem.W.Frag) (fd : FuncData) (sp : Sp), K.In h ∧ (∀ (s : Shared) (u : Value), BindsTo s fd ⟨[u], []⟩ [(x, u)]) ∧
        (∀ (H : Hp) (a : Addr) (ns : List Int), ns.length ≤ n → Only H → SqL K H a (ns.map V.int) → sp [.ref a] H (fun v _ => v = .bl true) fun _ _ _ => False) ∧ ∀ base : Heap, K.In base → base.Ns mainGlobals mg → FnOk l.prog w K mg base (CX w) k fa fd [x] sp)
    (hc : ∀ (w : World) (H : Hp) (s : Shared) (e : Value) (s' : Shared), CX w [] H s (fun _ _ _ => False) e s' → False) : PySem.W.WalkO q loose XP YP l.row.toRowW d [] (fun f vs => PySem.call f vs) :=
  Att.attach_call hn hd fun w s₀ s₁ mg mb fa o pm cd doc a vs ns G Y ho hd' hcd hmg hobj hints hlen hg => by
    obtain ⟨K, fd, sp, KX, hb, hsp, hF⟩ := F w mg fa _ Y G.T.g hmg
    exact law_call KX G.T.g G.T.b G.T.builtins G.T.nolimit hg hobj hints (Nat.le_trans hlen hz) hr hF hb (fun H hO hS => hsp H a ns hlen hO hS) fun H e s' => hc w H s₁ e s'
end Z

set_option linter.all false
set_option autoImplicit false
/-! Fractions: sizes, the greatest common divisor. -/
namespace Q
/-- so many bits are enough for a fraction's two numbers -/
def sz (q : Rat) : Nat := (max q.num.natAbs q.den).log2 + 1
theorem sz_le {q : Rat} {n : Nat} : sz q ≤ n ↔ q.num.natAbs < 2 ^ n ∧ q.den < 2 ^ n := by
  unfold sz
  have h : max q.num.natAbs q.den ≠ 0 := by have := q.den_pos; omega
  rw [Nat.succ_le_iff, Nat.log2_lt h]
  omega
theorem lt_sz (q : Rat) : q.num.natAbs < 2 ^ sz q ∧ q.den < 2 ^ sz q := sz_le.mp (Nat.le_refl _)
theorem sz_mk {a : Int} {b n : Nat} (h1 : a.natAbs < 2 ^ n) (h2 : b < 2 ^ n) (hn : 0 < n) : sz (mkRat a b) ≤ n := by
  rw [sz_le, Rat.num_mkRat, Rat.den_mkRat]
  have p : 1 < 2 ^ n := Nat.one_lt_two_pow (by omega)
  split
  · simp; omega
  · refine ⟨Nat.lt_of_le_of_lt ?_ h1, Nat.lt_of_le_of_lt (Nat.div_le_self _ _) h2⟩
    rw [Int.natAbs_ediv_of_dvd (Int.ofNat_dvd_left.mpr (Nat.gcd_dvd_right _ _))]
    exact Nat.div_le_self _ _
theorem sz_pos (q : Rat) : 0 < sz q := by unfold sz; omega
theorem sz_add (a b : Rat) : sz (a + b) ≤ sz a + sz b + 1 := by
  rw [Rat.add_def']
  have h1 := lt_sz a
  have h2 := lt_sz b
  have e : (2:Nat) ^ (sz a + sz b + 1) = 2 ^ sz a * 2 ^ sz b * 2 := by rw [Nat.pow_succ, Nat.pow_add]
  have k1 : a.num.natAbs * b.den < 2 ^ sz a * 2 ^ sz b := Nat.mul_lt_mul'' h1.1 h2.2
  have k2 : b.num.natAbs * a.den < 2 ^ sz a * 2 ^ sz b := by rw [Nat.mul_comm (2 ^ sz a)]; exact Nat.mul_lt_mul'' h2.1 h1.2
  have k3 : a.den * b.den < 2 ^ sz a * 2 ^ sz b := Nat.mul_lt_mul'' h1.2 h2.2
  refine sz_mk ?_ ?_ (by omega)
  · have := Int.natAbs_add_le (a.num * b.den) (b.num * a.den)
    rw [Int.natAbs_mul, Int.natAbs_mul, Int.natAbs_natCast, Int.natAbs_natCast] at this
    omega
  · omega
theorem sz_neg (a : Rat) : sz (-a) = sz a := by simp [sz]
theorem sz_sub (a b : Rat) : sz (a - b) ≤ sz a + sz b + 1 := by
  rw [Rat.sub_eq_add_neg, ← sz_neg b]; exact sz_add _ _
theorem sz_mul (a b : Rat) : sz (a * b) ≤ sz a + sz b := by
  rw [Rat.mul_def']
  have h1 := lt_sz a
  have h2 := lt_sz b
  refine sz_mk ?_ ?_ (by have := sz_pos a; omega)
  · rw [Nat.pow_add, Int.natAbs_mul]; exact Nat.mul_lt_mul'' h1.1 h2.1
  · rw [Nat.pow_add]; exact Nat.mul_lt_mul'' h1.2 h2.2
theorem sz_inv (a : Rat) : sz a⁻¹ ≤ sz a := by
  rw [sz_le, Rat.num_inv, Rat.den_inv]
  have h := lt_sz a
  have p : 1 < 2 ^ sz a := Nat.one_lt_two_pow (by have := sz_pos a; omega)
  constructor
  · rw [Int.natAbs_mul, Int.natAbs_natCast]
    have : a.num.sign.natAbs ≤ 1 := by rw [Int.natAbs_sign]; split <;> omega
    calc a.num.sign.natAbs * a.den ≤ 1 * a.den := Nat.mul_le_mul_right _ this
      _ < _ := by omega
  · split <;> omega
theorem sz_div (a b : Rat) : sz (a / b) ≤ sz a + sz b := by
  rw [Rat.div_def]
  have := sz_mul a b⁻¹
  have := sz_inv b
  omega
theorem sz_divInt {a b : Int} {n : Nat} (h1 : a.natAbs < 2 ^ n) (h2 : b.natAbs < 2 ^ n) (hn : 0 < n) : sz (Rat.divInt a b) ≤ n := by
  rcases Int.lt_or_le b 0 with h | h
  · have : Rat.divInt a b = mkRat (-a) b.natAbs := by
      rw [← Rat.neg_divInt_neg, ← Rat.divInt_ofNat]; congr 1; omega
    rw [this]; exact sz_mk (by omega) h2 hn
  · have : Rat.divInt a b = mkRat a b.natAbs := by rw [← Rat.divInt_ofNat]; congr 1; omega
    rw [this]; exact sz_mk h1 h2 hn
/-- the sum of some fractions -/
def sm : List Rat → Rat
  | [] => 0
  | q :: r => q + sm r
theorem sm_app (a b : List Rat) : sm (a ++ b) = sm a + sm b := by
  induction a with
  | nil => simp [sm, Rat.zero_add]
  | cons x a ih => simp [sm, ih, Rat.add_assoc]
theorem sz_sm {n : Nat} : ∀ {l : List Rat}, (∀ q ∈ l, sz q ≤ n) → sz (sm l) ≤ 1 + l.length * (n + 1)
  | [], _ => by simp [sm]; decide
  | q :: l, h => by
    have h1 := h q (by simp)
    have h2 := sz_sm (l := l) fun x hx => h x (by simp [hx])
    have := sz_add q (sm l)
    simp only [sm, List.length_cons, Nat.add_mul]
    omega
/-- Euclid's way -/
def euc : Nat → Nat → Nat → Nat × Nat
  | 0, a, b => (a, b)
  | n + 1, a, b => if b = 0 then (a, b) else euc n b (a % b)
theorem euc_gcd : ∀ (n a b : Nat), b < 2 ^ n → a.gcd b = b.gcd (a % b) := fun _ a b _ => by
  rw [Nat.gcd_comm a b, Nat.gcd_rec b a, Nat.gcd_comm]
end Q

set_option linter.all false
set_option autoImplicit false
/-! Boards: totals, what is colder, excess, lack; sorted taps. -/
namespace Q
abbrev Tap := Rat × Rat
def tot (b : List Tap) : Rat := sm (b.map (·.1))
/-- the water below a warmth -/
def cold (b : List Tap) (w : Rat) : Rat := tot (b.filter fun x => decide (x.2 < w))
/-- the water of a warmth -/
def atw (b : List Tap) (w : Rat) : Rat := tot (b.filter fun x => decide (x.2 = w))
def pos (q : Rat) : Rat := if q < 0 then 0 else q
def exc (b : List Tap) (w : Rat) : Rat := sm (b.map fun x => x.1 * pos (x.2 - w))
def lck (b : List Tap) (w : Rat) : Rat := sm (b.map fun x => x.1 * pos (w - x.2))
/-- flows are above nought -/
def Pos (b : List Tap) : Prop := ∀ x ∈ b, 0 < x.1
theorem sm_perm {a b : List Rat} (h : a.Perm b) : sm a = sm b := by
  induction h with
  | nil => rfl
  | cons x _ ih => simp [sm, ih]
  | swap x y l => simp [sm, Rat.add_left_comm]
  | trans _ _ h1 h2 => exact h1.trans h2
theorem tot_perm {a b : List Tap} (h : a.Perm b) : tot a = tot b := sm_perm (h.map _)
theorem cold_perm {a b : List Tap} (h : a.Perm b) (w : Rat) : cold a w = cold b w := tot_perm (h.filter _)
theorem atw_perm {a b : List Tap} (h : a.Perm b) (w : Rat) : atw a w = atw b w := tot_perm (h.filter _)
theorem tot_nil : tot [] = 0 := rfl
theorem tot_cons (x : Tap) (b : List Tap) : tot (x :: b) = x.1 + tot b := rfl
theorem tot_app (a b : List Tap) : tot (a ++ b) = tot a + tot b := by simp [tot, sm_app]
theorem tot_nn : ∀ {b : List Tap}, Pos b → 0 ≤ tot b
  | [], _ => by rw [tot_nil]; exact Rat.le_refl
  | x :: b, h => by
    rw [tot_cons]
    have h1 := h x (by simp)
    have h2 := tot_nn (b := b) fun y hy => h y (by simp [hy])
    grind
theorem tot_pos {b : List Tap} (h : Pos b) (n : b ≠ []) : 0 < tot b := by
  cases b with
  | nil => exact absurd rfl n
  | cons x b =>
    rw [tot_cons]
    have h1 := h x (by simp)
    have h2 := tot_nn (b := b) fun y hy => h y (by simp [hy])
    grind
theorem Pos.filter {b : List Tap} (h : Pos b) (p : Tap → Bool) : Pos (b.filter p) := fun x hx => h x (List.mem_filter.mp hx).1
theorem Pos.perm {a b : List Tap} (h : Pos a) (p : a.Perm b) : Pos b := fun x hx => h x (p.mem_iff.mpr hx)
theorem cold_cons (x : Tap) (b : List Tap) (w : Rat) : cold (x :: b) w = (if x.2 < w then x.1 else 0) + cold b w := by
  unfold cold
  by_cases h : x.2 < w <;> simp [List.filter_cons, h, tot_cons, Rat.zero_add]
theorem atw_cons (x : Tap) (b : List Tap) (w : Rat) : atw (x :: b) w = (if x.2 = w then x.1 else 0) + atw b w := by
  unfold atw
  by_cases h : x.2 = w <;> simp [List.filter_cons, h, tot_cons, Rat.zero_add]
theorem cold_nil (w : Rat) : cold [] w = 0 := rfl
theorem atw_nil (w : Rat) : atw [] w = 0 := rfl
theorem cold_app (a b : List Tap) (w : Rat) : cold (a ++ b) w = cold a w + cold b w := by simp [cold, tot_app]
theorem atw_app (a b : List Tap) (w : Rat) : atw (a ++ b) w = atw a w + atw b w := by simp [atw, tot_app]
theorem cold_nn {b : List Tap} (h : Pos b) (w : Rat) : 0 ≤ cold b w := tot_nn (h.filter _)
theorem atw_nn {b : List Tap} (h : Pos b) (w : Rat) : 0 ≤ atw b w := tot_nn (h.filter _)
theorem cold_at_le {w u : Rat} (l : w < u) : ∀ {b : List Tap}, Pos b → cold b w + atw b w ≤ cold b u
  | [], _ => by rw [cold_nil, atw_nil, cold_nil]; grind
  | x :: b, h => by
    have h1 := h x (by simp)
    have h2 := cold_at_le l (b := b) fun y hy => h y (by simp [hy])
    rw [cold_cons, cold_cons, atw_cons]
    grind
theorem cold_mono {w u : Rat} (l : w ≤ u) : ∀ {b : List Tap}, Pos b → cold b w ≤ cold b u
  | [], _ => by rw [cold_nil, cold_nil]; grind
  | x :: b, h => by
    have h1 := h x (by simp)
    have h2 := cold_mono l (b := b) fun y hy => h y (by simp [hy])
    rw [cold_cons, cold_cons]
    grind
theorem cold_at_tot (w : Rat) : ∀ {b : List Tap}, Pos b → cold b w + atw b w ≤ tot b
  | [], _ => by rw [cold_nil, atw_nil, tot_nil]; grind
  | x :: b, h => by
    have h1 := h x (by simp)
    have h2 := cold_at_tot w (b := b) fun y hy => h y (by simp [hy])
    rw [cold_cons, atw_cons, tot_cons]
    grind
theorem atw_pos {b : List Tap} (h : Pos b) {x : Tap} (m : x ∈ b) : 0 < atw b x.2 := tot_pos (h.filter _) (by
  intro e
  have : x ∈ b.filter fun y => decide (y.2 = x.2) := List.mem_filter.mpr ⟨m, by simp⟩
  rw [e] at this; cases this)
/-- the layer at a volume -/
def IsLay (b : List Tap) (v w : Rat) : Prop := cold b w ≤ v ∧ v < cold b w + atw b w
theorem lay_uniq {b : List Tap} (h : Pos b) {v w u : Rat} (h1 : IsLay b v w) (h2 : IsLay b v u) : w = u := by
  have a1 := @cold_at_le w u
  have a2 := @cold_at_le u w
  unfold IsLay at h1 h2
  by_cases c : w < u
  · have := a1 c h; grind
  · by_cases d : u < w
    · have := a2 d h; grind
    · grind
/-- taps by rising warmth -/
def Rising (b : List Tap) : Prop := b.Pairwise fun x y => x.2 ≤ y.2
theorem lay_at {p r : List Tap} {x : Tap} {v : Rat} (hp : Pos (p ++ x :: r)) (s : Rising (p ++ x :: r)) (h1 : tot p ≤ v) (h2 : v < tot p + x.1) : IsLay (p ++ x :: r) v x.2 := by
  unfold Rising at s
  rw [List.pairwise_append] at s
  obtain ⟨s1, s2, s3⟩ := s
  have sx := List.pairwise_cons.mp s2
  have k1 : ∀ r' : List Tap, (∀ y ∈ r', x.2 ≤ y.2) → cold r' x.2 = 0 := fun r' h => by
    unfold cold
    rw [List.filter_eq_nil_iff.mpr (fun y hy => by have := h y hy; simp; grind)]; rfl
  have k2 : ∀ p' : List Tap, (∀ y ∈ p', y.2 ≤ x.2) → cold p' x.2 + atw p' x.2 = tot p' := fun p' => by
    induction p' with
    | nil => intro _; rw [cold_nil, atw_nil, tot_nil]; grind
    | cons y p' ih =>
      intro h
      have := ih fun z hz => h z (by simp [hz])
      have := h y (by simp)
      rw [cold_cons, atw_cons, tot_cons]
      grind
  have q1 := k1 r sx.1
  have q2 := k2 p fun y hy => s3 y hy x (by simp)
  have q3 := atw_nn (b := r) (fun y hy => hp y (by simp [hy])) x.2
  have q4 := atw_nn (b := p) (fun y hy => hp y (by simp [hy])) x.2
  unfold IsLay
  rw [cold_app, atw_app, cold_cons, atw_cons, q1]
  grind
/-! covers -/
def Cov (b o : List Tap) : Prop := tot o ≤ tot b ∧ ∀ x ∈ b, exc o x.2 ≤ exc b x.2 ∧ lck o x.2 ≤ lck b x.2
def cool (n s : Rat) (x : Tap) : Tap := (x.1, x.2 + s * (n - x.2))
theorem pos_mul {c q : Rat} (h : 0 ≤ c) : pos (c * q) = c * pos q := by
  unfold pos
  by_cases h0 : c = 0
  · subst h0; simp [Rat.zero_mul]
  · have hc : 0 < c := by grind
    have := Rat.mul_lt_mul_left (a := q) (b := 0) hc
    rw [Rat.mul_zero] at this
    by_cases hq : q < 0
    · rw [if_pos (this.mpr hq), if_pos hq, Rat.mul_zero]
    · rw [if_neg fun z => hq (this.mp z), if_neg hq]
theorem exc_cool {n s w : Rat} (h : s ≤ 1) : ∀ b : List Tap, exc (b.map (cool n s)) (w + s * (n - w)) = (1 - s) * exc b w
  | [] => by simp [exc, sm, Rat.mul_zero]
  | x :: b => by
    have ih := exc_cool (n := n) (w := w) h b
    unfold exc at ih ⊢
    simp only [List.map_cons, sm]
    rw [ih, Rat.mul_add]
    congr 1
    have e : (cool n s x).2 - (w + s * (n - w)) = (1 - s) * (x.2 - w) := by unfold cool; grind
    rw [e, pos_mul (by grind)]
    unfold cool
    grind
theorem lck_cool {n s w : Rat} (h : s ≤ 1) : ∀ b : List Tap, lck (b.map (cool n s)) (w + s * (n - w)) = (1 - s) * lck b w
  | [] => by simp [lck, sm, Rat.mul_zero]
  | x :: b => by
    have ih := lck_cool (n := n) (w := w) h b
    unfold lck at ih ⊢
    simp only [List.map_cons, sm]
    rw [ih, Rat.mul_add]
    congr 1
    have e : w + s * (n - w) - (cool n s x).2 = (1 - s) * (w - x.2) := by unfold cool; grind
    rw [e, pos_mul (by grind)]
    unfold cool
    grind
theorem tot_cool (n s : Rat) (b : List Tap) : tot (b.map (cool n s)) = tot b := by
  unfold tot; rw [List.map_map]; rfl
theorem cov_cool {b o : List Tap} {n s : Rat} (h : s ≤ 1) (c : Cov b o) : Cov (b.map (cool n s)) (o.map (cool n s)) := by
  refine ⟨by rw [tot_cool, tot_cool]; exact c.1, fun x hx => ?_⟩
  obtain ⟨y, hy, rfl⟩ := List.mem_map.mp hx
  show exc _ (y.2 + s * (n - y.2)) ≤ exc _ (y.2 + s * (n - y.2)) ∧ lck _ (y.2 + s * (n - y.2)) ≤ lck _ (y.2 + s * (n - y.2))
  rw [exc_cool h, exc_cool h, lck_cool h, lck_cool h]
  exact ⟨Rat.mul_le_mul_of_nonneg_left (c.2 y hy).1 (by grind), Rat.mul_le_mul_of_nonneg_left (c.2 y hy).2 (by grind)⟩
theorem cov_uncool {b o : List Tap} {n s : Rat} (h : s < 1) (c : Cov (b.map (cool n s)) (o.map (cool n s))) : Cov b o := by
  obtain ⟨c1, c2⟩ := c
  rw [tot_cool, tot_cool] at c1
  refine ⟨c1, fun y hy => ?_⟩
  have k := c2 (cool n s y) (List.mem_map.mpr ⟨y, hy, rfl⟩)
  have k : exc (o.map (cool n s)) (y.2 + s * (n - y.2)) ≤ exc (b.map (cool n s)) (y.2 + s * (n - y.2)) ∧ lck (o.map (cool n s)) (y.2 + s * (n - y.2)) ≤ lck (b.map (cool n s)) (y.2 + s * (n - y.2)) := k
  have hs : s ≤ 1 := by grind
  rw [exc_cool hs, exc_cool hs, lck_cool hs, lck_cool hs] at k
  have p : 0 < 1 - s := by grind
  exact ⟨Rat.le_of_mul_le_mul_left k.1 p, Rat.le_of_mul_le_mul_left k.2 p⟩
end Q
namespace Q
theorem sz_pos' (q : Rat) : sz (pos q) ≤ sz q := by
  unfold pos
  split
  · have : sz (0 : Rat) = 1 := by decide
    have := sz_pos q
    omega
  · exact Nat.le_refl _
end Q

set_option linter.all false
set_option autoImplicit false
/-! Places by rising fractions; where water begins; bars. -/
namespace Q
def fat (l : List Rat) (i : Nat) : Rat := l.getD i 0
/-- the places of the first n fractions by rising fractions, as the program lays them -/
def ris (l : List Rat) : Nat → List Nat
  | 0 => []
  | n + 1 => (ris l n).take ((ris l n).filter fun j => !decide (fat l n < fat l j)).length ++ [n] ++ (ris l n).drop ((ris l n).filter fun j => !decide (fat l n < fat l j)).length
theorem ris_perm (l : List Rat) : ∀ n, (ris l n).Perm (List.range n)
  | 0 => by simp [ris]
  | n + 1 => by
    rw [List.range_succ, ris]
    refine List.Perm.trans ?_ ((ris_perm l n).append_right [n])
    generalize ((ris l n).filter fun j => !decide (fat l n < fat l j)).length = a
    have : ((ris l n).take a ++ [n] ++ (ris l n).drop a).Perm ((ris l n).take a ++ (ris l n).drop a ++ [n]) := by
      rw [List.append_assoc, List.append_assoc]
      exact (List.perm_append_comm).append_left _
    rw [List.take_append_drop] at this
    exact this
theorem ris_mem {l : List Rat} {n i : Nat} : i ∈ ris l n ↔ i < n := by rw [(ris_perm l n).mem_iff, List.mem_range]
theorem ris_len (l : List Rat) (n : Nat) : (ris l n).length = n := by rw [(ris_perm l n).length_eq, List.length_range]
theorem cut_sorted {α : Type} {key : α → Rat} {x : Rat} : ∀ {f : List α}, (f.Pairwise fun i j => key i ≤ key j) →
    f.take (f.filter fun j => !decide (x < key j)).length = f.filter (fun j => !decide (x < key j)) ∧ f.drop (f.filter fun j => !decide (x < key j)).length = f.filter (fun j => decide (x < key j))
  | [], _ => by simp
  | i :: f, h => by
    have h := List.pairwise_cons.mp h
    obtain ⟨h1, h2⟩ := cut_sorted (x := x) h.2
    by_cases c : x < key i
    · have e : (f.filter fun j => !decide (x < key j)) = [] := List.filter_eq_nil_iff.mpr fun j hj => by have := h.1 j hj; simp; grind
      have e2 : (f.filter fun j => decide (x < key j)) = f := List.filter_eq_self.mpr fun j hj => by have := h.1 j hj; simp; grind
      simp [List.filter_cons, c, e, e2]
    · simp [List.filter_cons, c, h1, h2]
theorem ris_sorted (l : List Rat) : ∀ n, (ris l n).Pairwise fun i j => fat l i ≤ fat l j
  | 0 => by simp [ris]
  | n + 1 => by
    have ih := ris_sorted l n
    obtain ⟨h1, h2⟩ := cut_sorted (x := fat l n) ih
    rw [ris, h1, h2, List.append_assoc, List.pairwise_append]
    refine ⟨ih.filter _, ?_, ?_⟩
    · rw [List.singleton_append, List.pairwise_cons]
      refine ⟨fun j hj => ?_, ih.filter _⟩
      have := (List.mem_filter.mp hj).2
      simp at this; grind
    · intro i hi j hj
      have a := (List.mem_filter.mp hi).2
      simp at a
      rcases List.mem_append.mp hj with hj | hj
      · simp at hj; subst hj; grind
      · have b := (List.mem_filter.mp hj).2
        simp at b; grind
def tapAt (b : List Tap) (i : Nat) : Tap := b.getD i (0, 0)
theorem tapAt_snd (b : List Tap) (i : Nat) : (tapAt b i).2 = fat (b.map (·.2)) i := by
  unfold tapAt fat
  by_cases h : i < b.length
  · simp [List.getD_eq_getElem?_getD, h]
  · simp [List.getD_eq_getElem?_getD, h]
/-- the places of a board's taps by rising warmth -/
def rp (b : List Tap) : List Nat := ris (b.map (·.2)) b.length
theorem rp_perm (b : List Tap) : (rp b).Perm (List.range b.length) := ris_perm _ _
theorem range_map (b : List Tap) : (List.range b.length).map (tapAt b) = b := by
  apply List.ext_getElem
  · simp
  · intro i h1 h2
    simp [tapAt, List.getD_eq_getElem?_getD, h2]
/-- taps by rising warmth -/
def srt (b : List Tap) : List Tap := (rp b).map (tapAt b)
theorem srt_perm (b : List Tap) : (srt b).Perm b := by
  have := (rp_perm b).map (tapAt b)
  rw [range_map] at this
  exact this
theorem srt_rising (b : List Tap) : Rising (srt b) := by
  unfold Rising srt
  rw [List.pairwise_map]
  refine (ris_sorted _ _).imp fun h => ?_
  rw [tapAt_snd, tapAt_snd]; exact h
/-- places with where their water begins -/
def endsF (b : List Tap) : List Nat → Rat → List (Nat × Rat)
  | [], _ => []
  | p :: r, h => (p, h) :: endsF b r (h + (tapAt b p).1)
def ends (b : List Tap) : List (Nat × Rat) := endsF b (rp b) 0
theorem endsF_app (b : List Tap) : ∀ (p q : List Nat) (h : Rat), endsF b (p ++ q) h = endsF b p h ++ endsF b q (h + tot (p.map (tapAt b)))
  | [], q, h => by simp [endsF, tot_nil, Rat.add_zero]
  | x :: p, q, h => by simp [endsF, endsF_app b p q, tot_cons, Rat.add_assoc]
/-- the warmth of the water at a volume -/
def layF (b : List Tap) (v : Rat) (l : List (Nat × Rat)) : Rat := match (l.filter fun x => !decide (v < x.2)).getLast? with
  | some x => (tapAt b x.1).2
  | none => 0
def lay (b : List Tap) (v : Rat) : Rat := layF b v (ends b)
theorem ends_past {b : List Tap} {v : Rat} (hb : Pos b) : ∀ {q : List Nat} {h : Rat}, (∀ i ∈ q, i < b.length) → v < h → (endsF b q h).filter (fun x => !decide (v < x.2)) = []
  | [], _, _, _ => rfl
  | x :: q, h, hq, hv => by
    have := hb (tapAt b x) (by
      have hx := hq x (by simp)
      simp [tapAt, List.getD_eq_getElem?_getD, hx])
    simp only [endsF, List.filter_cons]
    rw [if_neg (by simp [hv])]
    exact ends_past hb (fun i hi => hq i (by simp [hi])) (by grind)
theorem lay_split {b : List Tap} {v : Rat} (hb : Pos b) : ∀ {q : List Nat} {h : Rat}, (∀ i ∈ q, i < b.length) → h ≤ v → v < h + tot (q.map (tapAt b)) →
    ∃ p x r, q = p ++ x :: r ∧ h + tot (p.map (tapAt b)) ≤ v ∧ v < h + tot (p.map (tapAt b)) + (tapAt b x).1 ∧ layF b v (endsF b q h) = (tapAt b x).2
  | [], h, _, h1, h2 => by simp [tot_nil, Rat.add_zero] at h2; grind
  | x :: q, h, hq, h1, h2 => by
    have hx := hb (tapAt b x) (by
      have hx := hq x (by simp)
      simp [tapAt, List.getD_eq_getElem?_getD, hx])
    have hq' : ∀ i ∈ q, i < b.length := fun i hi => hq i (by simp [hi])
    by_cases c : v < h + (tapAt b x).1
    · refine ⟨[], x, q, rfl, by simpa [tot_nil, Rat.add_zero] using h1, by simpa [tot_nil, Rat.add_zero] using c, ?_⟩
      have nv : ¬ v < h := by grind
      simp [layF, endsF, List.filter_cons, nv, ends_past hb hq' c]
    · rw [List.map_cons, tot_cons] at h2
      obtain ⟨p, y, r, e, a1, a2, a3⟩ := lay_split (v := v) hb hq' (h := h + (tapAt b x).1) (by grind) (by grind)
      refine ⟨x :: p, y, r, by rw [e]; rfl, ?_, ?_, ?_⟩
      · rw [List.map_cons, tot_cons]; grind
      · rw [List.map_cons, tot_cons]; grind
      · have nv : ¬ v < h := by grind
        rw [← a3]
        have ne : (endsF b q (h + (tapAt b x).1)).filter (fun x => !decide (v < x.2)) ≠ [] := by
          cases q with
          | nil => cases p <;> cases e
          | cons z q => simp [endsF, List.filter_cons, c]
        simp only [layF, endsF, List.filter_cons]
        rw [if_pos (by simp [nv]), List.getLast?_cons]
        cases hl : ((endsF b q (h + (tapAt b x).1)).filter (fun x => !decide (v < x.2))).getLast? with
        | none => exact absurd (List.getLast?_eq_none_iff.mp hl) ne
        | some z => simp only [Option.some_or, Option.getD_some]
theorem lay_is {b : List Tap} {v : Rat} (hb : Pos b) (h0 : 0 ≤ v) (h1 : v < tot b) : IsLay b v (lay b v) := by
  have ht : v < 0 + tot ((rp b).map (tapAt b)) := by
    rw [Rat.zero_add, show (rp b).map (tapAt b) = srt b from rfl, tot_perm (srt_perm b)]; exact h1
  obtain ⟨p, x, r, e, a1, a2, a3⟩ := lay_split hb (q := rp b) (fun i hi => by rw [(rp_perm b).mem_iff] at hi; simpa using hi) h0 ht
  have es : srt b = p.map (tapAt b) ++ tapAt b x :: r.map (tapAt b) := by unfold srt; rw [e]; simp
  have rs := srt_rising b
  have ps : Pos (srt b) := hb.perm (srt_perm b).symm
  rw [es] at rs ps
  have k := lay_at (v := v) ps rs (by grind) (by grind)
  rw [← es] at k
  unfold IsLay at k ⊢
  rw [cold_perm (srt_perm b), atw_perm (srt_perm b)] at k
  have : lay b v = (tapAt b x).2 := a3
  rw [this]; exact k
theorem ends_ne {b : List Tap} {v : Rat} (n : b ≠ []) (h0 : 0 ≤ v) : (ends b).filter (fun x => !decide (v < x.2)) ≠ [] := by
  unfold ends
  cases e : rp b with
  | nil =>
    have := (rp_perm b).length_eq
    rw [e] at this
    simp at this
    exact absurd (List.length_eq_zero_iff.mp this.symm) n
  | cons x r =>
    simp only [endsF, List.filter_cons]
    rw [if_pos (by simp; grind)]
    simp
/-! bars -/
inductive Bar where
  | vol | above (w : Rat) | below (w : Rat)
def bars (b : List Tap) : List Bar := .vol :: (b.map fun x => [Bar.above x.2, Bar.below x.2]).flatten
def parts (b o : List Tap) : Bar → Bool
  | .vol => decide (tot b < tot o)
  | .above w => decide (exc b w < exc o w)
  | .below w => decide (lck b w < lck o w)
theorem no_bar {b o : List Tap} : (bars b).filter (parts b o) = [] ↔ Cov b o := by
  rw [List.filter_eq_nil_iff]
  unfold bars Cov
  constructor
  · intro h
    have h0 := h .vol (by simp)
    refine ⟨by simp [parts] at h0; grind, fun x hx => ?_⟩
    have h1 := h (.above x.2) (List.mem_cons_of_mem _ (List.mem_flatten.mpr ⟨_, List.mem_map.mpr ⟨x, hx, rfl⟩, by simp⟩))
    have h2 := h (.below x.2) (List.mem_cons_of_mem _ (List.mem_flatten.mpr ⟨_, List.mem_map.mpr ⟨x, hx, rfl⟩, by simp⟩))
    simp [parts] at h1 h2
    grind
  · intro h a ha
    rcases List.mem_cons.mp ha with rfl | ha
    · have := h.1; simp [parts]; grind
    · obtain ⟨l, hl, hal⟩ := List.mem_flatten.mp ha
      obtain ⟨x, hx, rfl⟩ := List.mem_map.mp hl
      have := h.2 x hx
      simp at hal
      rcases hal with rfl | rfl <;> simp [parts] <;> grind
end Q

set_option linter.all false
set_option autoImplicit false
/-! Water by warmths: groups, put in order; the law's layers. -/
namespace Q
abbrev Grp := List (Rat × Rat)
def setG : Grp → Rat → Rat → Grp
  | [], w, v => [(w, v)]
  | (u, x) :: r, w, v => if u = w then (u, v) :: r else (u, x) :: setG r w v
def getG (g : Grp) (w : Rat) : Rat := (g.lookup w).getD 0
def grp (b : List Tap) : Grp := b.foldl (fun g x => setG g x.2 (x.1 + getG g x.2)) []
def keys (g : Grp) : List Rat := g.map (·.1)
theorem get_nil (w : Rat) : getG [] w = 0 := rfl
theorem get_cons (u x : Rat) (g : Grp) (w : Rat) : getG ((u, x) :: g) w = if w = u then x else getG g w := by
  unfold getG
  by_cases h : w = u
  · subst h; simp [List.lookup]
  · have : (w == u) = false := by simpa using h
    simp [List.lookup, this, h]
theorem get_set (w v u : Rat) : ∀ g : Grp, getG (setG g w v) u = if u = w then v else getG g u
  | [] => by simp [setG, get_cons, get_nil]
  | (y, x) :: g => by
    unfold setG
    by_cases h : y = w
    · subst h
      rw [if_pos rfl, get_cons, get_cons]
      by_cases q : u = y <;> simp [q]
    · rw [if_neg h, get_cons, get_cons, get_set w v u g]
      by_cases q : u = y
      · subst q; simp [h]
      · simp [q]
theorem keys_set (w v u : Rat) : ∀ g : Grp, u ∈ keys (setG g w v) ↔ u = w ∨ u ∈ keys g
  | [] => by simp [setG, keys]
  | (y, x) :: g => by
    unfold setG
    have ih := keys_set w v u g
    unfold keys at ih ⊢
    by_cases h : y = w
    · subst h; rw [if_pos rfl]; simp
    · rw [if_neg h, List.map_cons, List.mem_cons, ih, List.map_cons, List.mem_cons]
      grind
theorem keys_nodup_set (w v : Rat) : ∀ {g : Grp}, (keys g).Nodup → (keys (setG g w v)).Nodup
  | [], _ => by simp [setG, keys]
  | (y, x) :: g, hn => by
    have ih := keys_nodup_set w v (g := g)
    have ks := keys_set w v y g
    unfold setG
    unfold keys at hn ih ks ⊢
    rw [List.map_cons, List.nodup_cons] at hn
    by_cases h : y = w
    · subst h; rw [if_pos rfl, List.map_cons, List.nodup_cons]; exact hn
    · rw [if_neg h, List.map_cons, List.nodup_cons]
      refine ⟨fun z => ?_, ih hn.2⟩
      rcases ks.mp z with z | z
      · exact h z
      · exact hn.1 z
theorem grp_snoc (b : List Tap) (x : Tap) : grp (b ++ [x]) = setG (grp b) x.2 (x.1 + getG (grp b) x.2) := by unfold grp; rw [List.foldl_append]; rfl
/-- what holds of all boards, told from the end -/
theorem snoc_ind {α : Type} {P : List α → Prop} (h0 : P []) (h : ∀ l x, P l → P (l ++ [x])) (l : List α) : P l := by
  have : ∀ m : List α, P m.reverse := fun m => by
    induction m with
    | nil => exact h0
    | cons x m ih => rw [List.reverse_cons]; exact h _ x ih
  have := this l.reverse
  rwa [List.reverse_reverse] at this
theorem grp_get (w : Rat) (b : List Tap) : getG (grp b) w = atw b w := by
  refine snoc_ind (P := fun b => getG (grp b) w = atw b w) rfl (fun l x ih => ?_) b
  rw [grp_snoc, get_set, atw_app, atw_cons, atw_nil]
  by_cases h : w = x.2
  · subst h; rw [if_pos rfl, if_pos rfl, ih]; grind
  · rw [if_neg h, if_neg (fun z => h z.symm), ih]; grind
theorem grp_keys (w : Rat) (b : List Tap) : w ∈ keys (grp b) ↔ ∃ x ∈ b, x.2 = w := by
  refine snoc_ind (P := fun b => w ∈ keys (grp b) ↔ ∃ x ∈ b, x.2 = w) (by simp [grp, keys]) (fun l x ih => ?_) b
  rw [grp_snoc, keys_set, ih]
  simp only [List.mem_append, List.mem_singleton]
  constructor
  · rintro (rfl | ⟨y, hy, rfl⟩)
    · exact ⟨x, .inr rfl, rfl⟩
    · exact ⟨y, .inl hy, rfl⟩
  · rintro ⟨y, hy | rfl, rfl⟩
    · exact .inr ⟨y, hy, rfl⟩
    · exact .inl rfl
theorem grp_nodup (b : List Tap) : (keys (grp b)).Nodup :=
  snoc_ind (P := fun b => (keys (grp b)).Nodup) (by simp [grp, keys]) (fun l x ih => by rw [grp_snoc]; exact keys_nodup_set _ _ ih) b
theorem get_mem : ∀ {g : Grp}, (keys g).Nodup → ∀ p ∈ g, getG g p.1 = p.2
  | [], _, p, h => by cases h
  | (y, x) :: g, hn, p, h => by
    have ih := get_mem (g := g)
    unfold keys at hn ih
    rw [List.map_cons, List.nodup_cons] at hn
    rw [get_cons]
    rcases List.mem_cons.mp h with rfl | h
    · simp
    · have : p.1 ≠ y := fun z => hn.1 (by rw [← z]; exact List.mem_map.mpr ⟨p, h, rfl⟩)
      rw [if_neg this]; exact ih hn.2 p h
theorem grp_val {b : List Tap} {p : Rat × Rat} (h : p ∈ grp b) : p.2 = atw b p.1 := by rw [← grp_get]; exact (get_mem (grp_nodup b) p h).symm
theorem setG_len (w v : Rat) : ∀ g : Grp, (setG g w v).length ≤ g.length + 1
  | [] => by simp [setG]
  | (y, x) :: g => by
    have := setG_len w v g
    unfold setG
    split <;> simp <;> omega
theorem grp_len (b : List Tap) : (grp b).length ≤ b.length :=
  snoc_ind (P := fun b => (grp b).length ≤ b.length) (by simp [grp]) (fun l x ih => by
    rw [grp_snoc]
    have := setG_len x.2 (x.1 + getG (grp l) x.2) (grp l)
    simp; omega) b
/-! in order -/
def isMin (g : Grp) (p : Rat × Rat) : Bool := !(g.any fun q => decide (q.1 < p.1))
def minG (g : Grp) : Option (Rat × Rat) := (g.filter (isMin g)).head?
def dropG (g : Grp) (w : Rat) : Grp := g.filter fun p => !decide (p.1 = w)
def sel : Nat → Grp → Grp
  | 0, _ => []
  | n + 1, g => match minG g with
    | some p => p :: sel n (dropG g p.1)
    | none => []
theorem isMin_iff {g : Grp} {p : Rat × Rat} : isMin g p = true ↔ ∀ q ∈ g, p.1 ≤ q.1 := by
  unfold isMin
  rw [Bool.not_eq_true', List.any_eq_false]
  constructor
  · intro h q hq; have := h q hq; simp at this; grind
  · intro h q hq; have := h q hq; simp; grind
theorem min_ex : ∀ {g : Grp}, g ≠ [] → ∃ p ∈ g, ∀ q ∈ g, p.1 ≤ q.1
  | [], h => absurd rfl h
  | [p], _ => ⟨p, by simp, by simp⟩
  | p :: r :: g, _ => by
    obtain ⟨m, hm, hl⟩ := min_ex (g := r :: g) (by simp)
    by_cases c : p.1 ≤ m.1
    · refine ⟨p, by simp, fun q hq => ?_⟩
      rcases List.mem_cons.mp hq with rfl | hq
      · exact Rat.le_refl
      · have := hl q hq; grind
    · refine ⟨m, List.mem_cons_of_mem _ hm, fun q hq => ?_⟩
      rcases List.mem_cons.mp hq with rfl | hq
      · grind
      · exact hl q hq
theorem minG_some {g : Grp} (h : g ≠ []) : ∃ p, minG g = some p ∧ p ∈ g ∧ ∀ q ∈ g, p.1 ≤ q.1 := by
  obtain ⟨m, hm, hl⟩ := min_ex h
  have hf : m ∈ g.filter (isMin g) := List.mem_filter.mpr ⟨hm, isMin_iff.mpr hl⟩
  unfold minG
  cases e : g.filter (isMin g) with
  | nil => rw [e] at hf; cases hf
  | cons p r =>
    have hp : p ∈ g.filter (isMin g) := by rw [e]; simp
    have := List.mem_filter.mp hp
    exact ⟨p, rfl, this.1, isMin_iff.mp this.2⟩
theorem drop_keys {g : Grp} (w : Rat) (hn : (keys g).Nodup) : (keys (dropG g w)).Nodup := by
  unfold keys dropG at *
  exact (List.Sublist.map _ (List.filter_sublist)).nodup hn
theorem drop_len : ∀ {g : Grp} {w : Rat}, (keys g).Nodup → w ∈ keys g → (dropG g w).length + 1 = g.length
  | [], _, _, h => by simp [keys] at h
  | (y, x) :: g, w, hn, h => by
    have ih := drop_len (g := g) (w := w)
    unfold keys dropG at *
    rw [List.map_cons, List.nodup_cons] at hn
    by_cases c : y = w
    · subst c
      have e : g.filter (fun p => !decide (p.1 = y)) = g := List.filter_eq_self.mpr fun p hp => by
        have : p.1 ≠ y := fun z => hn.1 (by rw [← z]; exact List.mem_map.mpr ⟨p, hp, rfl⟩)
        simp [this]
      simp [List.filter_cons, e]
    · rw [List.map_cons, List.mem_cons] at h
      have := ih hn.2 (h.resolve_left fun z => c z.symm)
      simp [List.filter_cons, c]; omega
theorem sel_ok : ∀ (n : Nat) (g : Grp), (keys g).Nodup → g.length = n → (∀ p, p ∈ sel n g ↔ p ∈ g) ∧ (sel n g).Pairwise (fun p q => p.1 < q.1) ∧ (sel n g).length = n
  | 0, g, _, hl => by
    have : g = [] := List.length_eq_zero_iff.mp hl
    subst this; simp [sel]
  | n + 1, g, hn, hl => by
    obtain ⟨p, e, hp, hm⟩ := minG_some (g := g) (fun z => by subst z; simp at hl)
    have d1 := drop_keys p.1 hn
    have d2 := drop_len (w := p.1) hn (List.mem_map.mpr ⟨p, hp, rfl⟩)
    obtain ⟨a1, a2, a3⟩ := sel_ok n (dropG g p.1) d1 (by omega)
    have es : sel (n + 1) g = p :: sel n (dropG g p.1) := by simp [sel, e]
    rw [es]
    refine ⟨fun q => ?_, ?_, by simp [a3]⟩
    · rw [List.mem_cons, a1]
      unfold dropG
      rw [List.mem_filter]
      constructor
      · rintro (rfl | ⟨h, _⟩)
        · exact hp
        · exact h
      · intro h
        by_cases c : q.1 = p.1
        · left
          have g1 := get_mem hn q h
          have g2 := get_mem hn p hp
          rw [c, g2] at g1
          exact Prod.ext c g1.symm
        · right; exact ⟨h, by simp [c]⟩
    · rw [List.pairwise_cons]
      refine ⟨fun q hq => ?_, a2⟩
      have := (a1 q).mp hq
      unfold dropG at this
      rw [List.mem_filter] at this
      have k1 := hm q this.1
      have k2 := this.2
      simp at k2
      grind
/-- a board's water, the rows as the law lays them -/
def rows (b : List Tap) : Grp := sel (grp b).length (grp b)
theorem rows_mem {b : List Tap} {p : Rat × Rat} (h : p ∈ rows b) : p.2 = atw b p.1 ∧ ∃ x ∈ b, x.2 = p.1 := by
  have h := ((sel_ok _ (grp b) (grp_nodup b) rfl).1 p).mp h
  exact ⟨grp_val h, (grp_keys _ b).mp (List.mem_map.mpr ⟨p, h, rfl⟩)⟩
theorem rows_all {b : List Tap} {x : Tap} (h : x ∈ b) : x.2 ∈ keys (rows b) := by
  have := (grp_keys x.2 b).mpr ⟨x, h, rfl⟩
  obtain ⟨p, hp, e⟩ := List.mem_map.mp this
  exact List.mem_map.mpr ⟨p, ((sel_ok _ (grp b) (grp_nodup b) rfl).1 p).mpr hp, e⟩
theorem rows_lt (b : List Tap) : (rows b).Pairwise (fun p q => p.1 < q.1) := (sel_ok _ (grp b) (grp_nodup b) rfl).2.1
theorem rows_len (b : List Tap) : (rows b).length ≤ b.length := by
  rw [rows, (sel_ok _ (grp b) (grp_nodup b) rfl).2.2]; exact grp_len b
theorem rows_nodup (b : List Tap) : (keys (rows b)).Nodup := by
  unfold keys
  rw [List.nodup_iff_pairwise_ne, List.pairwise_map]
  exact (rows_lt b).imp fun h => by grind
theorem rows_ne {b : List Tap} (h : b ≠ []) : rows b ≠ [] := by
  cases b with
  | nil => exact absurd rfl h
  | cons x b =>
    intro z
    have := rows_all (b := x :: b) (x := x) (by simp)
    rw [z] at this; cases this
/-- sums by warmths -/
theorem sum_one {P : Rat → Bool} {x : Tap} : ∀ {ks : List Rat}, ks.Nodup → sm ((ks.filter P).map fun u => if x.2 = u then x.1 else 0) = if x.2 ∈ ks ∧ P x.2 then x.1 else 0
  | [], _ => by simp [sm]
  | k :: ks, hn => by
    rw [List.nodup_cons] at hn
    have ih := sum_one (P := P) (x := x) hn.2
    have z : x.2 ∉ ks → sm ((ks.filter P).map fun u => if x.2 = u then x.1 else 0) = 0 := fun h => by rw [ih, if_neg (fun q => h q.1)]
    by_cases c : x.2 = k
    · subst c
      by_cases p : P x.2
      · simp [List.filter_cons, p, sm, z hn.1, Rat.add_zero]
      · simp [List.filter_cons, p, z hn.1]
    · by_cases p : P k
      · simp [List.filter_cons, p, sm, c, ih, Rat.zero_add]
      · simp [List.filter_cons, p, ih, c]
theorem sm_add {α : Type} (f g : α → Rat) : ∀ l : List α, sm (l.map fun u => f u + g u) = sm (l.map f) + sm (l.map g)
  | [] => by simp [sm, Rat.add_zero]
  | x :: l => by simp only [List.map_cons, sm, sm_add f g l]; grind
theorem sm_zero {α : Type} : ∀ l : List α, sm (l.map fun _ => (0 : Rat)) = 0
  | [] => rfl
  | x :: l => by simp [sm, sm_zero l, Rat.zero_add]
theorem sum_keys {P : Rat → Bool} {ks : List Rat} (hn : ks.Nodup) : ∀ {b : List Tap}, (∀ x ∈ b, x.2 ∈ ks) → sm ((ks.filter P).map (atw b)) = tot (b.filter fun x => P x.2)
  | [], _ => by
    have : (ks.filter P).map (atw []) = (ks.filter P).map fun _ => (0 : Rat) := rfl
    rw [this, sm_zero]; rfl
  | x :: b, h => by
    have ih := sum_keys (P := P) hn (b := b) fun y hy => h y (by simp [hy])
    have e : (atw (x :: b)) = fun u => (if x.2 = u then x.1 else 0) + atw b u := funext fun u => atw_cons x b u
    rw [e, sm_add, sum_one hn, ih]
    have hx := h x (by simp)
    by_cases p : P x.2
    · simp [List.filter_cons, p, hx, tot_cons]
    · simp [List.filter_cons, p, Rat.zero_add]
/-- the sum of the parts of some rows -/
def part (r : Grp) : Rat := sm (r.map (·.2))
theorem part_keys {b : List Tap} {r : Grp} (h : ∀ p ∈ r, p.2 = atw b p.1) : part r = sm ((keys r).map (atw b)) := by
  unfold part keys
  rw [List.map_map]
  congr 1
  exact List.map_congr_left h
theorem rows_tot (b : List Tap) : part (rows b) = tot b := by
  rw [part_keys fun p hp => (rows_mem hp).1]
  have := sum_keys (P := fun _ => true) (rows_nodup b) (b := b) fun x hx => rows_all hx
  rw [List.filter_eq_self.mpr (by simp), List.filter_eq_self.mpr (by simp)] at this
  exact this
theorem filter_keys {r : Grp} (w : Rat) : ((keys r).filter fun u => decide (u < w)) = keys (r.filter fun p => decide (p.1 < w)) := by
  unfold keys; rw [List.filter_map]; rfl
theorem rows_cold (b : List Tap) (w : Rat) : cold b w = part ((rows b).filter fun p => decide (p.1 < w)) := by
  rw [part_keys (b := b) fun p hp => (rows_mem (List.mem_filter.mp hp).1).1, ← filter_keys]
  exact (sum_keys (P := fun u => decide (u < w)) (rows_nodup b) (b := b) fun x hx => rows_all hx).symm
/-- the rows ahead of one hold the colder water -/
theorem rows_split {b : List Tap} {p : Grp} {x : Rat × Rat} {r : Grp} (e : rows b = p ++ x :: r) : cold b x.1 = part p ∧ x.2 = atw b x.1 := by
  have l := rows_lt b
  refine ⟨?_, (rows_mem (by rw [e]; simp)).1⟩
  rw [rows_cold, e]
  rw [e, List.pairwise_append] at l
  obtain ⟨_, l2, l3⟩ := l
  have l2 := List.pairwise_cons.mp l2
  have f1 : p.filter (fun q => decide (q.1 < x.1)) = p := List.filter_eq_self.mpr fun q hq => by have := l3 q hq x (by simp); simp; exact this
  have f2 : (x :: r).filter (fun q => decide (q.1 < x.1)) = [] := List.filter_eq_nil_iff.mpr fun q hq => by
    rcases List.mem_cons.mp hq with rfl | hq
    · simp
    · have := l2.1 q hq; simp; grind
  rw [List.filter_append, f1, f2, List.append_nil]
theorem part_snoc (p : Grp) (x : Rat × Rat) : part (p ++ [x]) = part p + x.2 := by unfold part; rw [List.map_append, sm_app]; simp [sm, Rat.add_zero]
/-- the law's layer -/
def layR : Grp → Rat → Rat → Option Rat
  | [], _, _ => none
  | (w, s) :: r, h, v => if v < h + s then some w else layR r (h + s) v
theorem layR_is {b : List Tap} {v : Rat} : ∀ {r p : Grp}, rows b = p ++ r → part p ≤ v → match layR r (part p) v with
    | some w => IsLay b v w
    | none => tot b ≤ v
  | [], p, e, h => by
    rw [List.append_nil] at e
    show tot b ≤ v
    rw [← rows_tot, e]; exact h
  | (w, s) :: r, p, e, h => by
    have k := rows_split e
    simp only at k
    unfold layR
    by_cases c : v < part p + s
    · rw [if_pos c]
      exact ⟨by rw [k.1]; exact h, by rw [k.1, ← k.2]; exact c⟩
    · rw [if_neg c]
      have := layR_is (b := b) (v := v) (r := r) (p := p ++ [(w, s)]) (by rw [e]; simp) (by rw [part_snoc]; grind)
      rw [part_snoc] at this
      exact this
/-- the program's layer is the law's -/
theorem lay_layR {b : List Tap} (hp : Pos b) {v : Rat} (h0 : 0 ≤ v) : layR (rows b) 0 v = if v < tot b then some (lay b v) else none := by
  have k := layR_is (b := b) (v := v) (r := rows b) (p := []) rfl h0
  have : part [] = 0 := rfl
  rw [this] at k
  by_cases c : v < tot b
  · rw [if_pos c]
    cases e : layR (rows b) 0 v with
    | none => rw [e] at k; simp only at k; grind
    | some w =>
      rw [e] at k
      rw [lay_uniq hp k (lay_is hp h0 c)]
  · rw [if_neg c]
    cases e : layR (rows b) 0 v with
    | none => rfl
    | some w =>
      rw [e] at k
      have := cold_at_tot w hp
      have := k.2
      grind
end Q

set_option linter.all false
set_option autoImplicit false
/-! The evaluator's equations, the bodies of walks kept closed. -/
namespace ZP
open PySem Z
/-- a turn of a for -/
def bodyF (P : Prm) (tg : Tg) (body : Ss) (d : D) (s : S) : OutS := (OutS.of (asg tg d s)).seq fun s => evSs P body s
/-- a turn of a comprehension -/
def compF (P : Prm) (elt : E) (tg : Tg) (c : E) (own : List Nat) (env : List Sl) (d : D) (t : List Ob) : Option (Option D × List Ob) :=
  (asg tg d ⟨wipeE (env.map Sl.lock) own, t⟩).bind fun s => testE (ev P c s) fun s => turnE (ev P elt s)
def compO (r : Option (List D × List Ob)) (s : S) : Out D := match r with
  | some (rs, t) => if rs.length ≤ lenLine then .ok (.lst rs) { s with sto := t } else .no
  | none => .no
section
variable (P : Prm) (s : S)
@[simp] theorem ev_var (i : Nat) : ev P (.var i) s = (match s.env[i]? with | some (.val d) => .ok d s | _ => .no) := by rw [ev] <;> rfl
@[simp] theorem ev_con (x : String) : ev P (.con x) s = Out.of (P.gl x) s := by rw [ev] <;> rfl
@[simp] theorem ev_int (i : Int) : ev P (.int i) s = .ok (.int i) s := by rw [ev] <;> rfl
@[simp] theorem ev_str (x : String) : ev P (.str x) s = .ok (.str (Str.ofString x)) s := by rw [ev] <;> rfl
@[simp] theorem ev_bl (b : Bool) : ev P (.bl b) s = .ok (.bl b) s := by rw [ev] <;> rfl
@[simp] theorem ev_non : ev P .non s = .ok .non s := by rw [ev] <;> rfl
@[simp] theorem ev_tup (es : Es) : ev P (.tup es) s = (evs P es s).bind fun ds s => if ds.length ≤ lenLine then .ok (.tup ds) s else .no := by rw [ev] <;> rfl
@[simp] theorem ev_lst (es : Es) : ev P (.lst es) s = (evs P es s).bind fun ds s => if ds.length ≤ lenLine then .ok (.lst ds) s else .no := by rw [ev] <;> rfl
@[simp] theorem ev_bin (o : BOp) (a b : E) : ev P (.bin o a b) s = (ev P a s).bind fun x s => (ev P b s).bind fun y s => .of (binD o x y) s := by rw [ev] <;> rfl
@[simp] theorem ev_neg (a : E) : ev P (.neg a) s = (ev P a s).bind fun x s => (match x with | .int i => .ok (.int (-i)) s | _ => .no) := by rw [ev] <;> rfl
@[simp] theorem ev_not (a : E) : ev P (.not a) s = (ev P a s).bind fun x s => (match x with | .bl b => .ok (.bl (!b)) s | _ => .no) := by rw [ev] <;> rfl
@[simp] theorem ev_cmp (o : COp) (a b : E) : ev P (.cmp o a b) s = (ev P a s).bind fun x s => (ev P b s).bind fun y s => .of ((cmpD o x y).map .bl) s := by rw [ev] <;> rfl
@[simp] theorem ev_cmp2 (o p : COp) (a b c : E) : ev P (.cmp2 o p a b c) s = (ev P a s).bind fun x s => (ev P b s).bind fun y s => (match cmpD o x y with
    | some true => (ev P c s).bind fun z s => .of ((cmpD p y z).map .bl) s
    | some false => .ok (.bl false) s
    | none => .no) := by rw [ev] <;> rfl
@[simp] theorem ev_and (a b : E) : ev P (.and a b) s = (ev P a s).bind fun x s => (match x with | .bl true => ev P b s | .bl false => .ok (.bl false) s | _ => .no) := by rw [ev] <;> rfl
@[simp] theorem ev_or (a b : E) : ev P (.or a b) s = (ev P a s).bind fun x s => (match x with | .bl false => ev P b s | .bl true => .ok (.bl true) s | _ => .no) := by rw [ev] <;> rfl
@[simp] theorem ev_ite (c a b : E) : ev P (.ite c a b) s = (ev P c s).bind fun x s => (match x with | .bl true => ev P a s | .bl false => ev P b s | _ => .no) := by rw [ev] <;> rfl
@[simp] theorem ev_call (f : String) (es : Es) : ev P (.call f es) s = if P.has f then (evs P es s).bind fun ds s => (P.cf f ds s.sto).out s else .no := by rw [ev] <;> rfl
@[simp] theorem ev_callk (f : String) (n : Nat) (nks : List String) (ks : List Nat) (es fs : Es) : ev P (.callk f n nks ks es fs) s = if P.kw f n nks ks then (evs P es s).bind fun ds s => (evs P fs s).bind fun gs s => if ds.length = n ∧ gs.length = nks.length then (P.cf f (permArgs ks (ds ++ gs)) s.sto).out s else .no else .no := by rw [ev] <;> rfl
@[simp] theorem ev_blt (f : BF) (es : Es) : ev P (.blt f es) s = (evs P es s).bind fun ds s => .of (bltD f ds) s := by rw [ev] <;> rfl
@[simp] theorem ev_isi (t : Ty) (a : E) : ev P (.isi t a) s = (ev P a s).bind fun x s => .of ((isiD t x).map .bl) s := by rw [ev] <;> rfl
@[simp] theorem ev_idx (a i : E) : ev P (.idx a i) s = (ev P a s).bind fun x s => (ev P i s).bind fun y s => .of (idxD s.sto x y) s := by rw [ev] <;> rfl
@[simp] theorem ev_slc (a : E) (lo hi : Eo) : ev P (.slc a lo hi) s = (ev P a s).bind fun x s => (evo P lo s).bind fun l s => (evo P hi s).bind fun h s => .of (slcD x l h) s := by rw [ev] <;> rfl
@[simp] theorem ev_rev (a : E) : ev P (.rev a) s = (ev P a s).bind fun x s => .of (revD x) s := by rw [ev] <;> rfl
@[simp] theorem ev_comp (elt : E) (tg : Tg) (it : It) (c : E) (own : List Nat) : ev P (.comp elt tg it c own) s = (evi P it s).bind fun ds s => compO (compL (compF P elt tg c own s.env) ds s.sto) s := by rw [ev] <;> rfl
@[simp] theorem ev_frz (i : Nat) : ev P (.frz i) s = (match s.env[i]? with | some (.own (.lst ds)) => .ok (.lst ds) (s.put i (.val (.lst ds))) | _ => .no) := by rw [ev] <;> rfl
@[simp] theorem ev_mlen (i : Nat) : ev P (.mlen i) s = (match s.obj i with | some (.lst ds) => .ok (.int ds.length) s | some (.dT kvs) => .ok (.int kvs.length) s | _ => .no) := by rw [ev] <;> rfl
@[simp] theorem ev_midx (i : Nat) (e : E) : ev P (.midx i e) s = if (s.obj i).isSome then (ev P e s).bind fun y s => (match s.obj i, y with | some (.lst ds), .int k => .of (L2.atI ds k) s | _, _ => .no) else .no := by rw [ev] <;> rfl
@[simp] theorem ev_mnil (i : Nat) (b : Bool) : ev P (.mnil i b) s = (match s.obj i with | some (.lst ds) => if plains 30 ds then .ok (.bl (ds.isEmpty == b)) s else .no | _ => .no) := by rw [ev] <;> rfl
@[simp] theorem ev_mtup (i : Nat) : ev P (.mtup i) s = (match s.obj i with | some (.lst ds) => .ok (.tup ds) s | _ => .no) := by rw [ev] <;> rfl
@[simp] theorem ev_mpop (i : Nat) : ev P (.mpop i) s = (match s.own i with | some ds => (match ds.getLast? with | some d => .ok d (s.put i (.own (.lst ds.dropLast))) | none => .no) | none => .no) := by rw [ev] <;> rfl
@[simp] theorem ev_mget (i : Nat) (k d : E) : ev P (.mget i k d) s = if (s.dob i).isSome then (ev P k s).bind fun x s => (ev P d s).bind fun y s => (match s.dob i, keyD x with
    | some kvs, some k => .ok ((kvs.lookup k).getD y) s
    | _, _ => .no) else .no := by rw [ev] <;> rfl
@[simp] theorem ev_mpopk (i : Nat) (k : E) : ev P (.mpopk i k) s = if (s.dct i).isSome then (ev P k s).bind fun x s => (match s.dct i, keyD x with
    | some kvs, some k => (match kvs.lookup k with | some d => .ok d (s.put i (.own (.dT (kvs.filter fun p => !(p.1 == k))))) | none => .no)
    | _, _ => .no) else .no := by rw [ev] <;> rfl
@[simp] theorem ev_lkd (i : Nat) (e : E) : ev P (.lkd i e) s = (match s.dct i with
    | some kvs => (match ev P e (s.put i (.lk (.dT kvs))) with
      | .ok d s' => .ok d ⟨s.env, s'.sto⟩
      | _ => .no)
    | none => .no) := by rw [ev] <;> rfl
@[simp] theorem evs_nil : evs P .nil s = .ok [] s := by rw [evs] <;> rfl
@[simp] theorem evs_cons (e : E) (r : Es) : evs P (.cons e r) s = (ev P e s).bind fun d s => (evs P r s).bind fun ds s => .ok (d :: ds) s := by rw [evs] <;> rfl
@[simp] theorem evo_no : evo P .no s = .ok none s := by rw [evo] <;> rfl
@[simp] theorem evo_so (e : E) : evo P (.so e) s = (ev P e s).bind fun d s => (match d with | .int i => .ok (some i) s | _ => .no) := by rw [evo] <;> rfl
@[simp] theorem evi_seq (e : E) : evi P (.seq e) s = (ev P e s).bind fun d s => .of (itemsD d) s := by rw [evi] <;> rfl
@[simp] theorem evi_mv (i : Nat) : evi P (.mv i) s = (match s.obj i with | some (.lst ds) => .ok ds s | _ => .no) := by rw [evi] <;> rfl
@[simp] theorem evi_mk (i : Nat) : evi P (.mk i) s = (match s.env[i]? with | some (.lk (.dT kvs)) => .ok (kvs.map fun p => keyOf p.1) s | _ => .no) := by rw [evi] <;> rfl
@[simp] theorem evi_rng (e : E) : evi P (.rng e) s = (ev P e s).bind fun d s => (match d with | .int n => if szRng n then .ok (rangeD 0 n) s else .no | _ => .no) := by rw [evi] <;> rfl
@[simp] theorem evi_rng2 (a b : E) : evi P (.rng2 a b) s = (ev P a s).bind fun x s => (ev P b s).bind fun y s => (match x, y with | .int i, .int j => if szRng i && szRng j then .ok (rangeD i j) s else .no | _, _ => .no) := by rw [evi] <;> rfl
@[simp] theorem evi_enum (e : E) : evi P (.enum e) s = (ev P e s).bind fun d s => .of (enumD d) s := by rw [evi] <;> rfl
@[simp] theorem evi_zip (a b : E) : evi P (.zip a b) s = (ev P a s).bind fun x s => (ev P b s).bind fun y s => .of (zipD x y) s := by rw [evi] <;> rfl
@[simp] theorem evi_ezip (a b : E) : evi P (.ezip a b) s = (ev P a s).bind fun x s => (ev P b s).bind fun y s => (match itemsD x, itemsD y with | some xs, some ys => .ok (enumF 0 (pairs xs ys)) s | _, _ => .no) := by rw [evi] <;> rfl
@[simp] theorem st_ret (e : E) : evSt P (.ret e) s = (ev P e s).then_ fun d s => .rt d s := by rw [evSt] <;> rfl
@[simp] theorem st_retn : evSt P .retn s = .rt .non s := by rw [evSt] <;> rfl
@[simp] theorem st_retS (e : E) : evSt P (.retS e) s = (ev P e s).then_ fun d s => (match d with | .lst ds => .rt (.ref s.sto.length) { s with sto := s.sto ++ [.lst ds] } | _ => .no) := by rw [evSt] <;> rfl
@[simp] theorem st_set (t : Tg) (e : E) : evSt P (.set t e) s = (ev P e s).then_ fun d s => .of (asg t d s) := by rw [evSt] <;> rfl
@[simp] theorem st_dict (i : Nat) : evSt P (.dict i) s = if i < s.env.length then .nx (s.put i (.own (.dT []))) else .no := by rw [evSt] <;> rfl
@[simp] theorem st_par (ts : Tgs) (es : Es) : evSt P (.par ts es) s = (evs P es s).then_ fun ds s => .of (asgs ts ds s) := by rw [evSt] <;> rfl
@[simp] theorem st_exp (e : E) : evSt P (.exp e) s = (ev P e s).then_ fun _ s => .nx s := by rw [evSt] <;> rfl
@[simp] theorem st_ite (c : E) (a b : Ss) : evSt P (.ite c a b) s = (ev P c s).then_ fun d s => (match d with | .bl true => evSs P a s | .bl false => evSs P b s | _ => .no) := by rw [evSt] <;> rfl
@[simp] theorem st_for (tg : Tg) (it : It) (body : Ss) : evSt P (.for_ tg it body) s = (evi P it s).then_ fun ds s => forL (bodyF P tg body) ds s := by rw [evSt] <;> rfl
@[simp] theorem st_while (c : E) (body : Ss) : evSt P (.while_ c body) s = whileL (ev P c) (evSs P body) P.fuel s := by rw [evSt] <;> rfl
@[simp] theorem st_mapp (i : Nat) (e : E) : evSt P (.mapp i e) s = if (s.own i).isSome then (ev P e s).then_ fun d s => (match s.own i with | some ds => if ds.length < lenLine then .nx (s.put i (.own (.lst (ds ++ [d])))) else .no | none => .no) else .no := by rw [evSt] <;> rfl
@[simp] theorem st_mext (i : Nat) (e : E) : evSt P (.mext i e) s = if (s.own i).isSome then (ev P e s).then_ fun d s => (match d, s.own i with | .lst xs, some ds => if ds.length + xs.length ≤ lenLine then .nx (s.put i (.own (.lst (ds ++ xs)))) else .no | _, _ => .no) else .no := by rw [evSt] <;> rfl
@[simp] theorem st_mins (i : Nat) (a e : E) : evSt P (.mins i a e) s = if (s.own i).isSome then (ev P a s).then_ fun x s => (ev P e s).then_ fun d s => (match x, s.own i with
    | .int k, some ds => if ds.length < lenLine ∧ 0 ≤ k ∧ k < 1000000 then .nx (s.put i (.own (.lst (ds.take k.toNat ++ [d] ++ ds.drop k.toNat)))) else .no
    | _, _ => .no) else .no := by rw [evSt] <;> rfl
@[simp] theorem st_mset (i : Nat) (a e : E) : evSt P (.mset i a e) s = (ev P e s).then_ fun d s => if (s.own i).isSome then (ev P a s).then_ fun x s => (match x, s.own i with
    | .int k, some ds => (match L2.ixN ds.length k with | some j => .nx (s.put i (.own (.lst (ds.set j d)))) | none => .no)
    | _, _ => .no) else .no := by rw [evSt] <;> rfl
@[simp] theorem st_mput (i : Nat) (k e : E) : evSt P (.mput i k e) s = (ev P e s).then_ fun d s => if (s.dct i).isSome then (ev P k s).then_ fun x s => (match keyD x, s.dct i with
    | some k, some kvs => if kvs.length < lenLine then .nx (s.put i (.own (.dT (putT kvs k d)))) else .no
    | _, _ => .no) else .no := by rw [evSt] <;> rfl
@[simp] theorem st_sset (o i e : E) : evSt P (.sset o i e) s = (ev P e s).then_ fun d s => (ev P o s).then_ fun a s => (ev P i s).then_ fun x s => (match a, x with
    | .ref n, .int k => (match s.sto[n]? with
      | some (.lst ds) => (match L2.ixN ds.length k with | some j => .nx { s with sto := s.sto.set n (.lst (ds.set j d)) } | none => .no)
      | _ => .no)
    | _, _ => .no) := by rw [evSt] <;> rfl
@[simp] theorem st_raise (c : String) : evSt P (.raise_ c) s = if P.rai c then .ex ⟨c, none⟩ s else .no := by rw [evSt] <;> rfl
@[simp] theorem st_pass : evSt P .pass s = .nx s := by rw [evSt] <;> rfl
@[simp] theorem st_try (body : Ss) (hs : Hs) : evSt P (.try_ body hs) s = if hsOk P hs then (match evSs P body s with
    | .ex x s => evHs P hs x s
    | o => o) else .no := by rw [evSt] <;> rfl
@[simp] theorem ss_nil : evSs P .nil s = .nx s := by rw [evSs] <;> rfl
@[simp] theorem ss_cons (st : St) (r : Ss) : evSs P (.cons st r) s = (evSt P st s).seq fun s => evSs P r s := by rw [evSs] <;> rfl
@[simp] theorem hs_nil (x : Exn) : evHs P .nil x s = .ex x s := by rw [evHs] <;> rfl
@[simp] theorem hs_cons (c : String) (b : Ss) (r : Hs) (x : Exn) : evHs P (.cons c b r) x s = if P.rai x.cls && P.exc c then (if P.sub x.cls c then evSs P b s else evHs P r x s) else .no := by rw [evHs] <;> rfl
end
@[simp] theorem as_v (i : Nat) (d : D) (s : S) : asg (.v i) d s = if i < s.env.length then some (s.put i (.val d)) else none := by rw [asg] <;> rfl
@[simp] theorem as_o (i : Nat) (ds : List D) (s : S) : asg (.o i) (.lst ds) s = if i < s.env.length then some (s.put i (.own (.lst ds))) else none := by rw [asg] <;> rfl
@[simp] theorem as_t (ts : Tgs) (ds : List D) (s : S) : asg (.tup ts) (.tup ds) s = asgs ts ds s := by rw [asg] <;> rfl
@[simp] theorem asgs_n (s : S) : asgs .nil [] s = some s := by rw [asgs] <;> rfl
@[simp] theorem asgs_c (t : Tg) (r : Tgs) (d : D) (ds : List D) (s : S) : asgs (.cons t r) (d :: ds) s = (asg t d s).bind fun s => asgs r ds s := by rw [asgs] <;> rfl
@[simp] theorem put_mk (e : List Sl) (t : List Ob) (i : Nat) (x : Sl) : S.put ⟨e, t⟩ i x = ⟨e.set i x, t⟩ := rfl
@[simp] theorem compO_some (rs : List D) (t : List Ob) (s : S) : compO (some (rs, t)) s = if rs.length ≤ lenLine then .ok (.lst rs) { s with sto := t } else .no := rfl
@[simp] theorem lenLine_eq : lenLine = 1000000 := rfl
/-! operations -/
@[simp] theorem ix_tup (t : List Ob) (ds : List D) (i : Int) : idxD t (.tup ds) (.int i) = L2.atI ds i := rfl
@[simp] theorem ix_lst (t : List Ob) (ds : List D) (i : Int) : idxD t (.lst ds) (.int i) = L2.atI ds i := rfl
@[simp] theorem ix_scr (t : List Ob) (is : List Int) (i : Int) : idxD t (.scr is) (.int i) = (L2.atI is i).map .int := rfl
theorem ix_ref {t : List Ob} {n : Nat} {ds : List D} (h : t[n]? = some (.lst ds)) (i : Int) : idxD t (.ref n) (.int i) = L2.atI ds i := by
  show (match t[n]? with | some (.lst ds) => L2.atI ds i | _ => none) = _
  rw [h]
@[simp] theorem bn_add (i j : Int) : binD .add (.int i) (.int j) = some (.int (i + j)) := rfl
@[simp] theorem bn_sub (i j : Int) : binD .sub (.int i) (.int j) = some (.int (i - j)) := rfl
@[simp] theorem bn_mul (i j : Int) : binD .mul (.int i) (.int j) = if szMul i j then some (.int (i * j)) else none := rfl
@[simp] theorem bn_fdiv (i j : Int) : binD .fdiv (.int i) (.int j) = if szDiv j then some (.int (i.fdiv j)) else none := rfl
@[simp] theorem bn_mod (i j : Int) : binD .mod (.int i) (.int j) = if j = 0 then none else some (.int (i.fmod j)) := rfl
@[simp] theorem cp_lt (i j : Int) : cmpD .lt (.int i) (.int j) = some (decide (i < j)) := rfl
@[simp] theorem cp_le (i j : Int) : cmpD .le (.int i) (.int j) = some (decide (i ≤ j)) := rfl
@[simp] theorem cp_gt (i j : Int) : cmpD .gt (.int i) (.int j) = some (decide (j < i)) := rfl
@[simp] theorem cp_ge (i j : Int) : cmpD .ge (.int i) (.int j) = some (decide (j ≤ i)) := rfl
@[simp] theorem cp_eq (a b : D) : cmpD .eq a b = if a.plain 30 && b.plain 30 then some (a.eqv b) else none := rfl
@[simp] theorem cp_ne (a b : D) : cmpD .ne a b = if a.plain 30 && b.plain 30 then some (!a.eqv b) else none := rfl
@[simp] theorem cp_is (a : D) : cmpD .is_ a .non = some a.isNon := by cases a <;> rfl
@[simp] theorem cp_isn (a : D) : cmpD .isn a .non = some (!a.isNon) := by cases a <;> rfl
@[simp] theorem pl_int (n : Nat) (i : Int) : (D.int i).plain n = true := by rw [D.plain]
@[simp] theorem pl_bl (n : Nat) (b : Bool) : (D.bl b).plain n = true := by rw [D.plain]
@[simp] theorem pl_non (n : Nat) : D.non.plain n = true := by rw [D.plain]
@[simp] theorem eq_int (i j : Int) : (D.int i).eqv (.int j) = (i == j) := by rw [D.eqv]
@[simp] theorem eq_bl (i j : Bool) : (D.bl i).eqv (.bl j) = (i == j) := by rw [D.eqv]
@[simp] theorem eq_tup (xs ys : List D) : (D.tup xs).eqv (.tup ys) = eqvs xs ys := by rw [D.eqv]
@[simp] theorem eq_lst (xs ys : List D) : (D.lst xs).eqv (.lst ys) = eqvs xs ys := by rw [D.eqv]
@[simp] theorem eqs_nil : eqvs [] [] = true := by rw [eqvs]
@[simp] theorem eqs_cons (x y : D) (xs ys : List D) : eqvs (x :: xs) (y :: ys) = (x.eqv y && eqvs xs ys) := by rw [eqvs]
@[simp] theorem eqs_nc (y : D) (ys : List D) : eqvs [] (y :: ys) = false := by rw [eqvs] <;> simp
@[simp] theorem eqs_cn (y : D) (ys : List D) : eqvs (y :: ys) [] = false := by rw [eqvs] <;> simp
@[simp] theorem fmod_lit (x : Int) (n : Nat) : x.fmod (no_index (@OfNat.ofNat Int n instOfNat)) = x % (@OfNat.ofNat Int n instOfNat) := Int.fmod_eq_emod_of_nonneg x (by show (0 : Int) ≤ (n : Int); omega)
@[simp] theorem fdiv_lit (x : Int) (n : Nat) : x.fdiv (no_index (@OfNat.ofNat Int n instOfNat)) = x / (@OfNat.ofNat Int n instOfNat) := Int.fdiv_eq_ediv_of_nonneg x (by show (0 : Int) ≤ (n : Int); omega)
@[simp] theorem bt_int (i : Int) : bltD .int [.int i] = some (.int i) := rfl
@[simp] theorem bt_len_t (ds : List D) : bltD .len [.tup ds] = some (.int ds.length) := rfl
@[simp] theorem bt_len_l (ds : List D) : bltD .len [.lst ds] = some (.int ds.length) := rfl
@[simp] theorem bt_len_s (is : List Int) : bltD .len [.scr is] = some (.int is.length) := rfl
@[simp] theorem bt_abs (i : Int) : bltD .abs [.int i] = some (.int (if i < 0 then -i else i)) := rfl
@[simp] theorem bt_tup_l (ds : List D) : bltD .tuple [.lst ds] = some (.tup ds) := rfl
@[simp] theorem bt_tup_t (ds : List D) : bltD .tuple [.tup ds] = some (.tup ds) := rfl
@[simp] theorem bt_lst_l (ds : List D) : bltD .list [.lst ds] = some (.lst ds) := rfl
@[simp] theorem bt_lst_t (ds : List D) : bltD .list [.tup ds] = some (.lst ds) := rfl
@[simp] theorem bt_all (ds : List D) : bltD .all [.lst ds] = (boolsD ds).map fun bs => .bl (bs.all id) := rfl
@[simp] theorem bt_any (ds : List D) : bltD .any [.lst ds] = (boolsD ds).map fun bs => .bl (bs.any id) := rfl
@[simp] theorem bt_max (i j : Int) : bltD .max [.int i, .int j] = some (.int (if j > i then j else i)) := rfl
@[simp] theorem bt_min (i j : Int) : bltD .min [.int i, .int j] = some (.int (if j < i then j else i)) := rfl
@[simp] theorem bt_gcd (i j : Int) : bltD .gcd [.int i, .int j] = some (.int (Nat.gcd i.natAbs j.natAbs : Nat)) := rfl
@[simp] theorem lock_no : Sl.no.lock = .no := rfl
@[simp] theorem lock_val (d : D) : (Sl.val d).lock = .val d := rfl
@[simp] theorem lock_own (o : Ob) : (Sl.own o).lock = .rd o := rfl
@[simp] theorem lock_rd (o : Ob) : (Sl.rd o).lock = .rd o := rfl
@[simp] theorem lock_lk (o : Ob) : (Sl.lk o).lock = .lk o := rfl
@[simp] theorem eq_str (x y : Str) : (D.str x).eqv (.str y) = (x == y) := by rw [D.eqv]
@[simp] theorem eq_non : D.non.eqv .non = true := by rw [D.eqv]
end ZP

set_option linter.all false
set_option autoImplicit false
/-! How the small language's code is walked in plain Lean: my own. -/
namespace ZP
open PySem Z Q
theorem call_s {T : Txt} {k : Nat} {f : String} {fn : Fn} (h : T.fn f = some fn) (ds : List D) (t : List Ob) : call T (k + 1) f ds t = runF (prm T (call T k)) fn ds t := by
  show (match T.fn f with | some fn => runF (prm T (call T k)) fn ds t | none => .no) = _
  rw [h]
section
variable (T : Txt) (cf : String → List D → List Ob → OutC)
@[simp] theorem prm_has (f : String) : (prm T cf).has f = (T.fn f).isSome := rfl
@[simp] theorem prm_cf : (prm T cf).cf = cf := rfl
@[simp] theorem prm_gl : (prm T cf).gl = T.gl := rfl
@[simp] theorem prm_sub : (prm T cf).sub = T.sub := rfl
@[simp] theorem prm_rai : (prm T cf).rai = T.rai := rfl
@[simp] theorem prm_exc : (prm T cf).exc = T.exc := rfl
@[simp] theorem prm_fuel : (prm T cf).fuel = T.fuel := rfl
end
@[simp] theorem ob_ok {α β : Type} (a : α) (s : S) (f : α → S → Out β) : (Out.ok a s).bind f = f a s := (rfl)
@[simp] theorem ob_ex {α β : Type} (x : Exn) (s : S) (f : α → S → Out β) : (Out.ex x s).bind f = .ex x s := (rfl)
@[simp] theorem ot_ok {α : Type} (a : α) (s : S) (f : α → S → OutS) : (Out.ok a s).then_ f = f a s := (rfl)
@[simp] theorem ot_ex {α : Type} (x : Exn) (s : S) (f : α → S → OutS) : (Out.ex x s : Out α).then_ f = .ex x s := (rfl)
@[simp] theorem oq_nx (s : S) (f : S → OutS) : (OutS.nx s).seq f = f s := (rfl)
@[simp] theorem oq_rt (d : D) (s : S) (f : S → OutS) : (OutS.rt d s).seq f = .rt d s := (rfl)
@[simp] theorem oq_bk (s : S) (f : S → OutS) : (OutS.bk s).seq f = .bk s := (rfl)
@[simp] theorem oq_ct (s : S) (f : S → OutS) : (OutS.ct s).seq f = .ct s := (rfl)
@[simp] theorem oq_ex (x : Exn) (s : S) (f : S → OutS) : (OutS.ex x s).seq f = .ex x s := (rfl)
@[simp] theorem os_some (s : S) : OutS.of (some s) = .nx s := (rfl)
@[simp] theorem oo_some {α : Type} (a : α) (s : S) : Out.of (some a) s = .ok a s := (rfl)
@[simp] theorem oc_ok (d : D) (t : List Ob) (s : S) : (OutC.ok d t).out s = .ok d { s with sto := t } := (rfl)
@[simp] theorem oc_ex (x : Exn) (t : List Ob) (s : S) : (OutC.ex x t).out s = .ex x { s with sto := t } := (rfl)
theorem runF_eq {P : Prm} {f : Fn} {ds : List D} {t : List Ob} (h : ds.length = f.ps) : runF P f ds t = (match evSs P f.body ⟨startE f.n ds, t⟩ with
    | .nx s => .ok .non s.sto
    | .rt d s => .ok d s.sto
    | .ex x s => .ex x s.sto
    | _ => .no) := if_pos h
/-! items by places -/
@[simp] theorem at0 {α : Type} (a : α) (r : List α) : L2.atI (a :: r) 0 = some a := by
  unfold L2.atI L2.ixN; simp
@[simp] theorem at1 {α : Type} (a b : α) (r : List α) : L2.atI (a :: b :: r) 1 = some b := by
  unfold L2.atI L2.ixN
  have : (1 : Int) < (r.length : Int) + 1 + 1 := by omega
  simp [this]
theorem atN {α : Type} (l : List α) (i : Nat) : L2.atI l (i : Int) = l[i]? := by
  unfold L2.atI L2.ixN
  by_cases h : i < l.length
  · simp [h]
  · simp [h]
theorem at_last {α : Type} (l : List α) (n : l ≠ []) : L2.atI l (-1) = l.getLast? := by
  unfold L2.atI L2.ixN
  have : 0 < l.length := List.length_pos_iff.mpr n
  have e : -(l.length : Int) ≤ -1 := by omega
  simp [e, List.getLast?_eq_getElem?]
  congr 1; omega
/-! fractions, taps, boards -/
def fr (q : Rat) : D := .tup [.int q.num, .int q.den]
def tp (x : Tap) : D := .tup [fr x.1, fr x.2]
def brd (b : List Tap) : D := .tup (b.map tp)
theorem fr_mk (n d : Int) (q : Rat) (h1 : q.num = n) (h2 : (q.den : Int) = d) : D.tup [.int n, .int d] = fr q := by subst h1; subst h2; rfl
@[simp] theorem fr_eqv (a b : Rat) : (fr a).eqv (fr b) = decide (a = b) := by
  simp only [fr, D.eqv, eqvs, Bool.and_true]
  have : (a.num == b.num && (a.den : Int) == (b.den : Int)) = decide (a.num = b.num ∧ a.den = b.den) := by
    rw [Bool.eq_iff_iff]; simp; omega
  rw [this]
  congr 1
  exact propext ⟨fun h => Rat.ext h.1 h.2, fun h => by subst h; exact ⟨rfl, rfl⟩⟩
@[simp] theorem fr_plain (n : Nat) (a : Rat) : (fr a).plain (n + 1) = true := by simp [fr, D.plain, plains]
@[simp] theorem tp_plain (n : Nat) (a : Tap) : (tp a).plain (n + 2) = true := by simp [tp, D.plain, plains]
@[simp] theorem tp_eqv (a b : Tap) : (tp a).eqv (tp b) = decide (a = b) := by
  obtain ⟨a, a'⟩ := a
  obtain ⟨b, b'⟩ := b
  simp [tp, D.eqv, eqvs]
@[simp] theorem fr_isNon (q : Rat) : (fr q).isNon = false := rfl
@[simp] theorem idx_fr0 (t : List Ob) (q : Rat) : idxD t (fr q) (.int 0) = some (.int q.num) := by simp [fr, idxD]
@[simp] theorem idx_fr1 (t : List Ob) (q : Rat) : idxD t (fr q) (.int 1) = some (.int q.den) := by simp [fr, idxD]
@[simp] theorem idx_tp0 (t : List Ob) (x : Tap) : idxD t (tp x) (.int 0) = some (fr x.1) := by simp [tp, idxD]
@[simp] theorem idx_tp1 (t : List Ob) (x : Tap) : idxD t (tp x) (.int 1) = some (fr x.2) := by simp [tp, idxD]
/-! sizes of numbers -/
theorem log2_lt {a n : Nat} (h : a < 2 ^ n) (hn : 0 < n) : a.log2 < n := by
  by_cases h0 : a = 0
  · subst h0; simpa using hn
  · exact (Nat.log2_lt h0).mpr h
theorem szMul_of {i j : Int} {m n : Nat} (h1 : i.natAbs < 2 ^ m) (h2 : j.natAbs < 2 ^ n) (h : m + n ≤ 1000000) (hm : 0 < m) (hn : 0 < n) : szMul i j = true := by
  have := log2_lt h1 hm
  have := log2_lt h2 hn
  unfold szMul; rw [decide_eq_true_eq]; omega
theorem nu_lt (q : Rat) : q.num.natAbs < 2 ^ sz q := (lt_sz q).1
theorem de_lt (q : Rat) : (q.den : Int).natAbs < 2 ^ sz q := by rw [Int.natAbs_natCast]; exact (lt_sz q).2
section
variable {a b : Rat}
theorem mu_nn (h : sz a + sz b ≤ 1000000) : szMul a.num b.num = true := szMul_of (nu_lt a) (nu_lt b) h (sz_pos a) (sz_pos b)
theorem mu_nd (h : sz a + sz b ≤ 1000000) : szMul a.num (b.den : Int) = true := szMul_of (nu_lt a) (de_lt b) h (sz_pos a) (sz_pos b)
theorem mu_dn (h : sz a + sz b ≤ 1000000) : szMul (a.den : Int) b.num = true := szMul_of (de_lt a) (nu_lt b) h (sz_pos a) (sz_pos b)
theorem mu_dd (h : sz a + sz b ≤ 1000000) : szMul (a.den : Int) (b.den : Int) = true := szMul_of (de_lt a) (de_lt b) h (sz_pos a) (sz_pos b)
end
theorem szDiv_of {j : Int} {n : Nat} (h0 : j ≠ 0) (h : j.natAbs < 2 ^ n) (hn : n ≤ 9000) : szDiv j = true := by
  have := log2_lt h (by cases n with | zero => simp at h; omega | succ n => omega)
  unfold szDiv
  simp only [Bool.and_eq_true, decide_eq_true_eq]
  exact ⟨h0, by omega⟩
/-- the fraction of two whole numbers by their greatest common divisor -/
theorem divInt_fr {a b : Int} (hb : b ≠ 0) {g : Int} (hg : g = if b > 0 then (Int.gcd a b : Int) else -(Int.gcd a b : Int)) : D.tup [.int (a.fdiv g), .int (b.fdiv g)] = fr (Rat.divInt a b) := by
  have gp : 0 < Int.gcd a b := Int.gcd_pos_of_ne_zero_right a hb
  have da : (Int.gcd a b : Int) ∣ a := Int.gcd_dvd_left a b
  have db : (Int.gcd a b : Int) ∣ b := Int.gcd_dvd_right a b
  have cm : b.gcd a = a.gcd b := Int.gcd_comm b a
  have e1 : (Rat.divInt a b).num = a.fdiv g := by
    rw [Rat.num_divInt, cm, hg]
    by_cases h : b > 0
    · rw [if_pos h, Int.sign_eq_one_of_pos h, Int.one_mul, Int.fdiv_eq_ediv_of_dvd da]
    · rw [if_neg h, Int.sign_eq_neg_one_of_neg (by omega), Int.fdiv_eq_ediv_of_dvd (Int.neg_dvd.mpr da), Int.ediv_neg, Int.neg_mul, Int.one_mul, Int.neg_ediv_of_dvd da]
  have e2 : ((Rat.divInt a b).den : Int) = b.fdiv g := by
    rw [Rat.den_divInt, if_neg hb, cm, hg, Int.natCast_ediv]
    by_cases h : b > 0
    · rw [if_pos h, Int.fdiv_eq_ediv_of_dvd db]; congr 1; omega
    · rw [if_neg h, Int.fdiv_eq_ediv_of_dvd (Int.neg_dvd.mpr db), Int.ediv_neg]
      have : (b.natAbs : Int) = -b := by omega
      rw [this, Int.neg_ediv_of_dvd db]
  rw [fr, e1, e2]
/-! walks -/
theorem compL_map {α : Type} {f : D → List Ob → Option (Option D × List Ob)} {t : List Ob} {g : α → D} (h : α → D) : ∀ {l : List α}, (∀ x ∈ l, f (g x) t = some (some (h x), t)) → compL f (l.map g) t = some (l.map h, t)
  | [], _ => rfl
  | x :: l, q => by
    have ih := compL_map (f := f) (t := t) h (l := l) fun y hy => q y (by simp [hy])
    simp [compL, q x (by simp), ih]
theorem compL_filter {α : Type} {f : D → List Ob → Option (Option D × List Ob)} {t : List Ob} {g : α → D} (p : α → Bool) (h : α → D) : ∀ {l : List α}, (∀ x ∈ l, f (g x) t = some (if p x then some (h x) else none, t)) → compL f (l.map g) t = some ((l.filter p).map h, t)
  | [], _ => rfl
  | x :: l, q => by
    have ih := compL_filter (f := f) (t := t) p h (l := l) fun y hy => q y (by simp [hy])
    by_cases hp : p x
    · simp [compL, q x (by simp), ih, hp]
    · simp [compL, q x (by simp), ih, hp]
/-- a comprehension that changes the store -/
theorem compL_ex {I : Nat → List Ob → Prop} {P : D → Prop} {f : D → List Ob → Option (Option D × List Ob)} {n : Nat} : ∀ {l : List D} {c : Nat} {t : List Ob}, I c t → (∀ d ∈ l, ∀ c t, I c t → ∃ x t', f d t = some (some x, t') ∧ I (c + n) t' ∧ P x) → ∃ xs t', compL f l t = some (xs, t') ∧ I (c + l.length * n) t' ∧ xs.length = l.length ∧ ∀ x ∈ xs, P x
  | [], c, t, hi, _ => ⟨[], t, rfl, by simpa using hi, rfl, by simp⟩
  | d :: l, c, t, hi, h => by
    obtain ⟨x, t1, e, i1, px⟩ := h d (by simp) c t hi
    obtain ⟨xs, t2, e2, i2, hl, hx⟩ := compL_ex (l := l) i1 fun d hd => h d (by simp [hd])
    refine ⟨x :: xs, t2, by simp [compL, e, e2], ?_, by simp [hl], ?_⟩
    · have : c + (d :: l).length * n = c + n + l.length * n := by simp [Nat.add_mul]; omega
      rw [this]; exact i2
    · intro y hy
      rcases List.mem_cons.mp hy with rfl | hy
      · exact px
      · exact hx y hy
/-- a for whose turns all go on -/
theorem forL_inv {f : D → S → OutS} {l : List D} (J : Nat → S → Prop) {s : S} (h0 : J 0 s) (h : ∀ i d s, l[i]? = some d → J i s → ∃ s', f d s = .nx s' ∧ J (i + 1) s') : ∃ s', forL f l s = .nx s' ∧ J l.length s' := by
  have go : ∀ (m : List D) (i : Nat) (s : S), (∀ j d, m[j]? = some d → l[i + j]? = some d) → i + m.length = l.length → J i s → ∃ s', forL f m s = .nx s' ∧ J l.length s' := by
    intro m
    induction m with
    | nil => intro i s _ hl hj; exact ⟨s, rfl, by simp at hl; rw [← hl]; exact hj⟩
    | cons d m ih =>
      intro i s hm hl hj
      obtain ⟨s1, e1, j1⟩ := h i d s (hm 0 d rfl) hj
      obtain ⟨s2, e2, j2⟩ := ih (i + 1) s1 (fun j d' e => by have := hm (j + 1) d' e; rw [← this]; congr 1; omega) (by simp at hl; omega) j1
      exact ⟨s2, by simp [forL, e1, e2], j2⟩
  exact go l 0 s (fun j d e => by simpa using e) (by simp) h0
/-- a for by its items: the state is told from what is behind -/
theorem forL_fold {α : Type} {f : D → S → OutS} {g : α → D} (st : List α → S) : ∀ {l m : List α}, (∀ m x r, l = m ++ x :: r → f (g x) (st m) = .nx (st (m ++ [x]))) → forL f (l.map g) (st []) = .nx (st l) := by
  intro l m h
  have go : ∀ (r m : List α), l = m ++ r → forL f (r.map g) (st m) = .nx (st l) := by
    intro r
    induction r with
    | nil => intro m e; simp at e; subst e; rfl
    | cons x r ih =>
      intro m e
      have := h m x r e
      simp [forL, this]
      exact ih (m ++ [x]) (by simp [e])
  exact go l [] rfl
end ZP
namespace ZP
open PySem Z Q
theorem dd_ne (a b : Rat) : (a.den : Int) * b.den ≠ 0 := by
  have := a.den_pos; have := b.den_pos
  exact Int.mul_ne_zero (by omega) (by omega)
theorem dd_lt (a b : Rat) : ((a.den : Int) * b.den).natAbs < 2 ^ (sz a + sz b) := by
  rw [Int.natAbs_mul, Nat.pow_add]; exact Nat.mul_lt_mul'' (de_lt a) (de_lt b)
theorem dn_ne (a : Rat) {b : Rat} (h : b ≠ 0) : (a.den : Int) * b.num ≠ 0 := by
  have := a.den_pos
  exact Int.mul_ne_zero (by omega) (fun z => h (Rat.num_eq_zero.mp z))
theorem dn_lt (a b : Rat) : ((a.den : Int) * b.num).natAbs < 2 ^ (sz a + sz b) := by
  rw [Int.natAbs_mul, Nat.pow_add]; exact Nat.mul_lt_mul'' (de_lt a) (nu_lt b)
theorem add_di (a b : Rat) : Rat.divInt (a.num * b.den + b.num * a.den) (a.den * b.den) = a + b := by rw [Rat.add_def', ← Rat.divInt_ofNat, Int.natCast_mul]
theorem sub_di (a b : Rat) : Rat.divInt (a.num * b.den - b.num * a.den) (a.den * b.den) = a - b := by rw [Rat.sub_def', ← Rat.divInt_ofNat, Int.natCast_mul]
theorem mul_di (a b : Rat) : Rat.divInt (a.num * b.num) (a.den * b.den) = a * b := by rw [Rat.mul_def', ← Rat.divInt_ofNat, Int.natCast_mul]
theorem div_di (a b : Rat) : Rat.divInt (a.num * b.den) (a.den * b.num) = a / b := by
  rw [Rat.div_def, Rat.inv_def, ← Rat.divInt_mul_divInt, Rat.num_divInt_den]
theorem lt_di (a b : Rat) : (a.num * (b.den : Int) < b.num * (a.den : Int)) = (a < b) := propext (Rat.lt_iff a b).symm
theorem sz_zero : sz 0 = 1 := by decide
theorem fr0 : D.tup [.int 0, .int 1] = fr 0 := rfl
theorem fr1 : D.tup [.int 1, .int 1] = fr 1 := rfl
def lastS {α : Type} (g : α → D) (m : List α) : Sl := match m.getLast? with
  | none => .no
  | some x => .val (g x)
@[simp] theorem lastS_snoc {α : Type} (g : α → D) (m : List α) (x : α) : lastS g (m ++ [x]) = .val (g x) := by simp [lastS]
@[simp] theorem lastS_nil {α : Type} (g : α → D) : lastS g [] = .no := rfl
theorem sm_snoc (m : List Rat) (x : Rat) : sm (m ++ [x]) = sm m + x := by rw [sm_app]; simp [sm, Rat.add_zero]
/-- a sum by a for: found 1, item 2 -/
theorem sum_for {f : D → S → OutS} {l : List Rat} {L : Sl} {t : List Ob} {n M : Nat} (h : ∀ q ∈ l, sz q ≤ n) (hM : l.length ≤ M) (hl : M * (n + 1) + n + 1 ≤ 9000)
    (hf : ∀ a b o, sz a + sz b ≤ 9000 → f (fr b) ⟨[L, .val (fr a), o], t⟩ = .nx ⟨[L, .val (fr (a + b)), .val (fr b)], t⟩) :
    forL f (l.map fr) ⟨[L, .val (fr 0), .no], t⟩ = .nx ⟨[L, .val (fr (sm l)), lastS fr l], t⟩ := by
  refine forL_fold (g := fr) (st := fun m => ⟨[L, .val (fr (sm m)), lastS fr m], t⟩) (m := l) fun m x r e => ?_
  rw [lastS_snoc, sm_snoc]
  refine hf _ _ _ ?_
  have h1 : sz (sm m) ≤ 1 + m.length * (n + 1) := sz_sm fun q hq => h q (by rw [e]; simp [hq])
  have h2 := h x (by rw [e]; simp)
  have h3 : m.length ≤ M := Nat.le_trans (by rw [e]; simp) hM
  have := Nat.mul_le_mul_right (n + 1) h3
  omega
end ZP
namespace ZP
open PySem Z Q
theorem len_le {a n : Nat} (h : a * (n + 1) + n + 1 ≤ 9000) : a ≤ 9000 := by
  have := Nat.le_mul_of_pos_right a (Nat.succ_pos n)
  rw [Nat.succ_eq_add_one] at this
  omega
@[simp] theorem items_brd (b : List Tap) : itemsD (brd b) = some (b.map tp) := rfl
@[simp] theorem items_lst (l : List D) : itemsD (.lst l) = some l := rfl
@[simp] theorem items_tup (l : List D) : itemsD (.tup l) = some l := rfl
/-- taps whose numbers have so many bits -/
def Bds (n m : Nat) (b : List Tap) : Prop := ∀ x ∈ b, sz x.1 ≤ n ∧ sz x.2 ≤ m
end ZP
namespace ZP
open PySem Z Q
def it (n : Nat) : D := .int n
/-- items of an enumerate -/
theorem forL_enum {f : D → S → OutS} {g : Nat → D} (st : Nat → S) {n : Nat} (h : ∀ i, i < n → f (.tup [.int i, g i]) (st i) = .nx (st (i + 1))) : forL f (enumF 0 ((List.range n).map g)) (st 0) = .nx (st n) := by
  have go : ∀ (m i : Nat), i + m = n → forL f (enumF i ((List.range' i m).map g)) (st i) = .nx (st n) := by
    intro m
    induction m with
    | zero => intro i e; simp at e; subst e; rfl
    | succ m ih =>
      intro i e
      rw [List.range'_succ, List.map_cons, enumF, forL, h i (by omega)]
      exact ih (i + 1) (by omega)
  rw [List.range_eq_range']
  exact go n 0 (by omega)
theorem range_get {α : Type} (l : List α) (d : α) (g : α → D) : l.map g = (List.range l.length).map fun i => g (l.getD i d) := by
  apply List.ext_getElem
  · simp
  · intro i h1 h2
    simp at h1
    simp [List.getD_eq_getElem?_getD, h1]
def lastN (g : Nat → D) : Nat → Sl
  | 0 => .no
  | n + 1 => .val (g n)
@[simp] theorem lastN_0 (g : Nat → D) : lastN g 0 = .no := rfl
@[simp] theorem lastN_s (g : Nat → D) (n : Nat) : lastN g (n + 1) = .val (g n) := rfl
end ZP
namespace ZP
open PySem Z Q
theorem str_plain {x : Str} (h : (D.str x).plain 0 = true) : ∀ n, (D.str x).plain n = true
  | 0 => h
  | n + 1 => by simpa only [D.plain] using h
theorem pl_volume : ∀ n, (D.str (Str.ofString "volume")).plain n = true := str_plain (by decide +kernel)
theorem pl_above : ∀ n, (D.str (Str.ofString "above")).plain n = true := str_plain (by decide +kernel)
theorem pl_below : ∀ n, (D.str (Str.ofString "below")).plain n = true := str_plain (by decide +kernel)
end ZP
namespace ZP
open PySem Z Q
theorem pl_tup (n : Nat) (ds : List D) : (D.tup ds).plain (n + 1) = plains n ds := by rw [D.plain]
theorem pl_lst (n : Nat) (ds : List D) : (D.lst ds).plain (n + 1) = plains n ds := by rw [D.plain]
theorem pls_nil (n : Nat) : plains n [] = true := by rw [plains]
theorem pls_cons (n : Nat) (d : D) (ds : List D) : plains n (d :: ds) = (d.plain n && plains n ds) := by rw [plains]
theorem pls_map {α : Type} {n : Nat} {g : α → D} (h : ∀ x, (g x).plain n = true) : ∀ l : List α, plains n (l.map g) = true
  | [] => pls_nil n
  | x :: l => by rw [List.map_cons, pls_cons, h, pls_map h l]; rfl
end ZP
namespace ZP
open PySem Z Q
/-! Euclid's loop -/
theorem euclid {c : S → Out D} {f : S → OutS} {st : Nat → Nat → S} (hc : ∀ a b, c (st a b) = .ok (.bl (decide (0 < b))) (st a b)) (hf : ∀ a b, 0 < b → f (st a b) = .nx (st b (a % b))) :
    ∀ (n a b m : Nat), b < 2 ^ n → 2 * n + 1 ≤ m → whileL c f m (st a b) = .nx (st (Nat.gcd a b) 0)
  | n, a, b, 0, _, h => by omega
  | 0, a, b, m + 1, h, _ => by
    have : b = 0 := by simpa using h
    subst this
    simp [whileL, hc]
  | n + 1, a, b, m + 1, h, hm => by
    by_cases h0 : b = 0
    · subst h0; simp [whileL, hc]
    · have hb : 0 < b := by omega
      simp only [whileL, hc, decide_eq_true hb, ot_ok, hf a b hb]
      have r1 : a % b < b := Nat.mod_lt _ hb
      cases m with
      | zero => omega
      | succ m =>
        by_cases h1 : a % b = 0
        · rw [h1]
          have : Nat.gcd a b = b := Nat.gcd_eq_right (Nat.dvd_of_mod_eq_zero h1)
          simp [whileL, hc, this]
        · have hb' : 0 < a % b := by omega
          have r2 : b % (a % b) < a % b := Nat.mod_lt _ hb'
          have r3 : b % (a % b) + (a % b) ≤ b := by
            have := Nat.mod_add_div b (a % b)
            have h2 : 1 ≤ b / (a % b) := (Nat.le_div_iff_mul_le hb').mpr (by omega)
            have := Nat.mul_le_mul_left (a % b) h2
            omega
          have r4 : b % (a % b) < 2 ^ n := by rw [Nat.pow_succ] at h; omega
          have e := euclid hc hf n (a % b) (b % (a % b)) m r4 (by omega)
          simp only [whileL, hc, decide_eq_true hb', ot_ok, hf _ _ hb', e]
          congr 2
          rw [Nat.gcd_comm a b, Nat.gcd_rec b a, Nat.gcd_rec (a % b) b, Nat.gcd_comm]
theorem mod_nat (a b : Nat) : Int.fmod (a : Int) (b : Int) = ((a % b : Nat) : Int) := by
  rw [Int.fmod_eq_emod_of_nonneg _ (by omega), Int.natCast_emod]
/-- the fraction by the greatest common divisor, the other way with a sign -/
theorem divInt_fr' {a b : Int} (hb : b < 0) : D.tup [.int (0 - a.fdiv (Int.gcd a b : Int)), .int (0 - b.fdiv (Int.gcd a b : Int))] = fr (Rat.divInt a b) := by
  have gp : 0 < Int.gcd a b := Int.gcd_pos_of_ne_zero_right a (by omega)
  have da : (Int.gcd a b : Int) ∣ a := Int.gcd_dvd_left a b
  have db : (Int.gcd a b : Int) ∣ b := Int.gcd_dvd_right a b
  rw [← divInt_fr (a := a) (b := b) (by omega) (g := -(Int.gcd a b : Int)) (by rw [if_neg (by omega)])]
  rw [Int.fdiv_eq_ediv_of_dvd da, Int.fdiv_eq_ediv_of_dvd db, Int.fdiv_eq_ediv_of_dvd (Int.neg_dvd.mpr da), Int.fdiv_eq_ediv_of_dvd (Int.neg_dvd.mpr db), Int.ediv_neg, Int.ediv_neg, Int.zero_sub, Int.zero_sub]
end ZP
namespace ZP
open PySem Z Q
/-- a comprehension that changes the store, by places -/
theorem compL_ix {I : Nat → List Ob → Prop} {R : Nat → D → Prop} {f : D → List Ob → Option (Option D × List Ob)} {l : List D} {t : List Ob} (h0 : I 0 t)
    (h : ∀ i d t, l[i]? = some d → I i t → ∃ x t', f d t = some (some x, t') ∧ I (i + 1) t' ∧ R i x) : ∃ xs t', compL f l t = some (xs, t') ∧ I l.length t' ∧ xs.length = l.length ∧ ∀ i x, xs[i]? = some x → R i x := by
  have go : ∀ (m : List D) (j : Nat) (t : List Ob), I j t → (∀ i d, m[i]? = some d → l[j + i]? = some d) → ∃ xs t', compL f m t = some (xs, t') ∧ I (j + m.length) t' ∧ xs.length = m.length ∧ ∀ i x, xs[i]? = some x → R (j + i) x := by
    intro m
    induction m with
    | nil => intro j t hi _; exact ⟨[], t, rfl, hi, rfl, by simp⟩
    | cons d m ih =>
      intro j t hi hm
      obtain ⟨x, t1, e1, i1, r1⟩ := h j d t (by simpa using hm 0 d rfl) hi
      obtain ⟨xs, t2, e2, i2, l2, r2⟩ := ih (j + 1) t1 i1 fun i d' e => by
        have := hm (i + 1) d' (by simpa using e)
        rwa [show j + 1 + i = j + (i + 1) by omega]
      refine ⟨x :: xs, t2, by simp [compL, e1, e2], ?_, by simp [l2], ?_⟩
      · rw [show j + (d :: m).length = j + 1 + m.length by simp; omega]; exact i2
      · intro i y hy
        cases i with
        | zero => simp at hy; subst hy; exact r1
        | succ i =>
          have := r2 i y (by simpa using hy)
          rwa [show j + (i + 1) = j + 1 + i by omega]
  obtain ⟨xs, t', e, i1, l1, r1⟩ := go l 0 t h0 fun i d e => by simpa using e
  refine ⟨xs, t', e, by simpa using i1, l1, fun i x hx => by simpa using r1 i x hx⟩
theorem exists_map {α : Type} {g : α → D} {P : α → Prop} : ∀ {xs : List D}, (∀ x ∈ xs, ∃ a, x = g a ∧ P a) → ∃ as : List α, xs = as.map g ∧ ∀ a ∈ as, P a
  | [], _ => ⟨[], rfl, by simp⟩
  | x :: xs, h => by
    obtain ⟨a, rfl, pa⟩ := h x (by simp)
    obtain ⟨as, rfl, pas⟩ := exists_map (xs := xs) fun y hy => h y (by simp [hy])
    exact ⟨a :: as, rfl, fun b hb => by
      rcases List.mem_cons.mp hb with rfl | hb
      · exact pa
      · exact pas b hb⟩
theorem rngD_len (lo hi : Int) : (rangeD lo hi).length = (hi - lo).toNat := by simp [rangeD]
theorem divInt_pos {a b : Int} (ha : 0 < a) (hb : 0 < b) : 0 < Rat.divInt a b := by
  rw [Rat.divInt_eq_div, Rat.div_def]
  exact Rat.mul_pos (Rat.intCast_pos.mpr ha) (Rat.inv_pos.mpr (Rat.intCast_pos.mpr hb))
theorem ite_bl (b : Bool) {α : Type} (x y : α) (z : D → α) : (match D.bl b with | .bl true => x | .bl false => y | d => z d) = if b then x else y := by cases b <;> rfl
end ZP

set_option linter.all false
set_option maxRecDepth 100000
namespace Cd
open PySem Z
def c_plain_of : Fn := ⟨2, 3, (.cons (.set (.v 2) (.ite (.cmp .gt (.var 1) (.int 0)) (.blt .gcd (.cons (.var 0) (.cons (.var 1) .nil))) (.neg (.blt .gcd (.cons (.var 0) (.cons (.var 1) .nil)))))) (.cons (.ret (.tup (.cons (.bin .fdiv (.var 0) (.var 2)) (.cons (.bin .fdiv (.var 1) (.var 2)) .nil)))) .nil)), []⟩
def n_plain_of : List Str := ["top", "bottom", "common"]
def c_plus : Fn := ⟨2, 2, (.cons (.ret (.call "plain_of" (.cons (.bin .add (.bin .mul (.idx (.var 0) (.int 0)) (.idx (.var 1) (.int 1))) (.bin .mul (.idx (.var 1) (.int 0)) (.idx (.var 0) (.int 1)))) (.cons (.bin .mul (.idx (.var 0) (.int 1)) (.idx (.var 1) (.int 1))) .nil)))) .nil), []⟩
def n_plus : List Str := ["one", "other"]
def c_minus : Fn := ⟨2, 2, (.cons (.ret (.call "plain_of" (.cons (.bin .sub (.bin .mul (.idx (.var 0) (.int 0)) (.idx (.var 1) (.int 1))) (.bin .mul (.idx (.var 1) (.int 0)) (.idx (.var 0) (.int 1)))) (.cons (.bin .mul (.idx (.var 0) (.int 1)) (.idx (.var 1) (.int 1))) .nil)))) .nil), []⟩
def n_minus : List Str := ["one", "other"]
def c_times : Fn := ⟨2, 2, (.cons (.ret (.call "plain_of" (.cons (.bin .mul (.idx (.var 0) (.int 0)) (.idx (.var 1) (.int 0))) (.cons (.bin .mul (.idx (.var 0) (.int 1)) (.idx (.var 1) (.int 1))) .nil)))) .nil), []⟩
def n_times : List Str := ["one", "other"]
def c_over : Fn := ⟨2, 2, (.cons (.ret (.call "plain_of" (.cons (.bin .mul (.idx (.var 0) (.int 0)) (.idx (.var 1) (.int 1))) (.cons (.bin .mul (.idx (.var 0) (.int 1)) (.idx (.var 1) (.int 0))) .nil)))) .nil), []⟩
def n_over : List Str := ["one", "other"]
def c_is_less : Fn := ⟨2, 2, (.cons (.ret (.cmp .lt (.bin .mul (.idx (.var 0) (.int 0)) (.idx (.var 1) (.int 1))) (.bin .mul (.idx (.var 1) (.int 0)) (.idx (.var 0) (.int 1))))) .nil), []⟩
def n_is_less : List Str := ["one", "other"]
def c_greater_of : Fn := ⟨2, 2, (.cons (.ret (.ite (.call "is_less" (.cons (.var 0) (.cons (.var 1) .nil))) (.var 1) (.var 0))) .nil), []⟩
def n_greater_of : List Str := ["one", "other"]
def c_above_of : Fn := ⟨1, 1, (.cons (.ret (.call "greater_of" (.cons (.var 0) (.cons (.con "NOUGHT") .nil)))) .nil), []⟩
def n_above_of : List Str := ["fraction"]
def c_sum_of : Fn := ⟨1, 3, (.cons (.set (.v 1) (.con "NOUGHT")) (.cons (.for_ (.v 2) (.seq (.var 0)) (.cons (.set (.v 1) (.call "plus" (.cons (.var 1) (.cons (.var 2) .nil)))) .nil)) (.cons (.ret (.var 1)) .nil))), []⟩
def n_sum_of : List Str := ["fractions", "found", "fraction"]
def c_rising_places : Fn := ⟨1, 6, (.cons (.set (.o 1) (.lst .nil)) (.cons (.for_ (.tup (.cons (.v 2) (.cons (.v 3) .nil))) (.enum (.var 0)) (.cons (.set (.v 4) (.blt .len (.cons (.comp (.var 5) (.v 5) (.mv 1) (.not (.call "is_less" (.cons (.var 3) (.cons (.idx (.var 0) (.var 5)) .nil)))) [5]) .nil))) (.cons (.mins 1 (.var 4) (.var 2)) .nil))) (.cons (.ret (.frz 1)) .nil))), []⟩
def n_rising_places : List Str := ["fractions", "found", "place", "fraction", "ahead", "each"]
def c_total_of : Fn := ⟨1, 3, (.cons (.ret (.call "sum_of" (.cons (.comp (.var 1) (.tup (.cons (.v 1) (.cons (.v 2) .nil))) (.seq (.var 0)) (.bl true) [1, 2]) .nil))) .nil), []⟩
def n_total_of : List Str := ["board", "flow", "_"]
def c_excess_of : Fn := ⟨2, 4, (.cons (.ret (.call "sum_of" (.cons (.comp (.call "times" (.cons (.var 2) (.cons (.call "above_of" (.cons (.call "minus" (.cons (.var 3) (.cons (.var 1) .nil))) .nil)) .nil))) (.tup (.cons (.v 2) (.cons (.v 3) .nil))) (.seq (.var 0)) (.bl true) [2, 3]) .nil))) .nil), []⟩
def n_excess_of : List Str := ["board", "warmth", "flow", "each"]
def c_lack_of : Fn := ⟨2, 4, (.cons (.ret (.call "sum_of" (.cons (.comp (.call "times" (.cons (.var 2) (.cons (.call "above_of" (.cons (.call "minus" (.cons (.var 1) (.cons (.var 3) .nil))) .nil)) .nil))) (.tup (.cons (.v 2) (.cons (.v 3) .nil))) (.seq (.var 0)) (.bl true) [2, 3]) .nil))) .nil), []⟩
def n_lack_of : List Str := ["board", "warmth", "flow", "each"]
def c_rising_taps : Fn := ⟨1, 3, (.cons (.ret (.call "rising_places" (.cons (.comp (.var 2) (.tup (.cons (.v 1) (.cons (.v 2) .nil))) (.seq (.var 0)) (.bl true) [1, 2]) .nil))) .nil), []⟩
def n_rising_taps : List Str := ["board", "_", "warmth"]
def c_is_whole : Fn := ⟨1, 1, (.cons (.ret (.and (.isi .int (.var 0)) (.not (.isi .bool (.var 0))))) .nil), []⟩
def n_is_whole : List Str := ["value"]
def c_is_from : Fn := ⟨2, 2, (.cons (.ret (.and (.call "is_whole" (.cons (.var 0) .nil)) (.cmp .ge (.var 0) (.var 1)))) .nil), []⟩
def n_is_from : List Str := ["value", "least"]
def c_is_text : Fn := ⟨1, 1, (.cons (.ret (.isi .str (.var 0))) .nil), []⟩
def n_is_text : List Str := ["value"]
def c_is_named : Fn := ⟨2, 2, (.cons (.ret (.and (.isi .str (.var 0)) (.cmp .in_ (.var 0) (.var 1)))) .nil), []⟩
def n_is_named : List Str := ["value", "names"]
def c_is_tuple_up_to : Fn := ⟨3, 3, (.cons (.ret (.and (.isi .tuple (.var 0)) (.cmp2 .le .le (.var 1) (.blt .len (.cons (.var 0) .nil)) (.var 2)))) .nil), []⟩
def n_is_tuple_up_to : List Str := ["value", "low", "high"]
def c_is_tuple_of : Fn := ⟨2, 2, (.cons (.ret (.call "is_tuple_up_to" (.cons (.var 0) (.cons (.var 1) (.cons (.var 1) .nil))))) .nil), []⟩
def n_is_tuple_of : List Str := ["value", "many"]
def c_is_pair : Fn := ⟨1, 1, (.cons (.ret (.call "is_tuple_of" (.cons (.var 0) (.cons (.int 2) .nil)))) .nil), []⟩
def n_is_pair : List Str := ["value"]
def c_is_fraction_of : Fn := ⟨1, 1, (.cons (.ite (.or (.not (.call "is_pair" (.cons (.var 0) .nil))) (.or (.not (.call "is_whole" (.cons (.idx (.var 0) (.int 0)) .nil))) (.not (.call "is_from" (.cons (.idx (.var 0) (.int 1)) (.cons (.int 1) .nil)))))) (.cons (.ret (.bl false)) .nil) .nil) (.cons (.ret (.cmp .eq (.blt .gcd (.cons (.idx (.var 0) (.int 0)) (.cons (.idx (.var 0) (.int 1)) .nil))) (.int 1))) .nil)), []⟩
def n_is_fraction_of : List Str := ["value"]
def c_is_from_nought : Fn := ⟨1, 1, (.cons (.ret (.and (.call "is_fraction_of" (.cons (.var 0) .nil)) (.cmp .ge (.idx (.var 0) (.int 0)) (.int 0)))) .nil), []⟩
def n_is_from_nought : List Str := ["value"]
def c_is_above_nought : Fn := ⟨1, 1, (.cons (.ret (.and (.call "is_fraction_of" (.cons (.var 0) .nil)) (.cmp .gt (.idx (.var 0) (.int 0)) (.int 0)))) .nil), []⟩
def n_is_above_nought : List Str := ["value"]
def c_is_tap : Fn := ⟨1, 1, (.cons (.ret (.and (.call "is_pair" (.cons (.var 0) .nil)) (.and (.call "is_above_nought" (.cons (.idx (.var 0) (.int 0)) .nil)) (.call "is_fraction_of" (.cons (.idx (.var 0) (.int 1)) .nil))))) .nil), []⟩
def n_is_tap : List Str := ["value"]
def c_is_board_of : Fn := ⟨1, 2, (.cons (.ret (.and (.call "is_tuple_up_to" (.cons (.var 0) (.cons (.int 1) (.cons (.con "MOST_TAPS") .nil)))) (.blt .all (.cons (.comp (.call "is_tap" (.cons (.var 1) .nil)) (.v 1) (.seq (.var 0)) (.bl true) [1]) .nil)))) .nil), []⟩
def n_is_board_of : List Str := ["value", "each"]
def c_is_bar : Fn := ⟨1, 1, (.cons (.ite (.call "is_tuple_of" (.cons (.var 0) (.cons (.int 1) .nil))) (.cons (.ret (.and (.call "is_text" (.cons (.idx (.var 0) (.int 0)) .nil)) (.cmp .eq (.idx (.var 0) (.int 0)) (.con "VOLUME")))) .nil) .nil) (.cons (.ret (.and (.call "is_pair" (.cons (.var 0) .nil)) (.and (.call "is_named" (.cons (.idx (.var 0) (.int 0)) (.cons (.tup (.cons (.con "ABOVE") (.cons (.con "BELOW") .nil))) .nil))) (.call "is_fraction_of" (.cons (.idx (.var 0) (.int 1)) .nil))))) .nil)), []⟩
def n_is_bar : List Str := ["value"]
def c_check_fraction : Fn := ⟨1, 1, (.cons (.ite (.not (.call "is_fraction_of" (.cons (.var 0) .nil))) (.cons .nev .nil) .nil) .nil), []⟩
def n_check_fraction : List Str := ["value"]
def c_check_volume_from : Fn := ⟨1, 1, (.cons (.ite (.not (.call "is_from_nought" (.cons (.var 0) .nil))) (.cons .nev .nil) .nil) .nil), []⟩
def n_check_volume_from : List Str := ["value"]
def c_check_board : Fn := ⟨1, 1, (.cons (.ite (.not (.call "is_board_of" (.cons (.var 0) .nil))) (.cons .nev .nil) .nil) .nil), []⟩
def n_check_board : List Str := ["board"]
def c_check_warmth : Fn := ⟨2, 2, (.cons (.exp (.call "check_board" (.cons (.var 0) .nil))) (.cons (.exp (.call "check_fraction" (.cons (.var 1) .nil))) .nil)), []⟩
def n_check_warmth : List Str := ["board", "warmth"]
def c_ends_of : Fn := ⟨1, 4, (.cons (.par (.cons (.o 2) (.cons (.v 3) .nil)) (.cons (.lst .nil) (.cons (.con "NOUGHT") .nil))) (.cons (.for_ (.v 1) (.seq (.call "rising_taps" (.cons (.var 0) .nil))) (.cons (.mapp 2 (.tup (.cons (.var 1) (.cons (.var 3) .nil)))) (.cons (.set (.v 3) (.call "plus" (.cons (.var 3) (.cons (.idx (.idx (.var 0) (.var 1)) (.int 0)) .nil)))) .nil))) (.cons (.ret (.frz 2)) .nil))), []⟩
def n_ends_of : List Str := ["board", "place", "found", "here"]
def c_bars_of : Fn := ⟨1, 4, (.cons (.set (.o 1) (.lst (.cons (.tup (.cons (.con "VOLUME") .nil)) .nil))) (.cons (.for_ (.tup (.cons (.v 2) (.cons (.v 3) .nil))) (.seq (.var 0)) (.cons (.mext 1 (.lst (.cons (.tup (.cons (.con "ABOVE") (.cons (.var 3) .nil))) (.cons (.tup (.cons (.con "BELOW") (.cons (.var 3) .nil))) .nil)))) .nil)) (.cons (.ret (.frz 1)) .nil))), []⟩
def n_bars_of : List Str := ["board", "found", "_", "warmth"]
def c_cooled_by : Fn := ⟨3, 5, (.cons (.ret (.blt .tuple (.cons (.comp (.tup (.cons (.var 3) (.cons (.call "plus" (.cons (.var 4) (.cons (.call "times" (.cons (.var 2) (.cons (.call "minus" (.cons (.var 1) (.cons (.var 4) .nil))) .nil))) .nil))) .nil))) (.tup (.cons (.v 3) (.cons (.v 4) .nil))) (.seq (.var 0)) (.bl true) [3, 4]) .nil))) .nil), []⟩
def n_cooled_by : List Str := ["board", "ambient", "share", "flow", "warmth"]
def c_layer_by : Fn := ⟨2, 5, (.cons (.set (.v 2) (.comp (.var 3) (.tup (.cons (.v 3) (.cons (.v 4) .nil))) (.seq (.call "ends_of" (.cons (.var 0) .nil))) (.not (.call "is_less" (.cons (.var 1) (.cons (.var 4) .nil)))) [3, 4])) (.cons (.ret (.idx (.idx (.var 0) (.idx (.var 2) (.neg (.int 1)))) (.int 1))) .nil)), []⟩
def n_layer_by : List Str := ["board", "volume", "found", "place", "here"]
def c_middle_by : Fn := ⟨1, 1, (.cons (.ret (.call "layer_by" (.cons (.var 0) (.cons (.call "over" (.cons (.call "total_of" (.cons (.var 0) .nil)) (.cons (.tup (.cons (.int 2) (.cons (.int 1) .nil))) .nil))) .nil)))) .nil), []⟩
def n_middle_by : List Str := ["board"]
def c_colder_by : Fn := ⟨2, 4, (.cons (.ret (.call "sum_of" (.cons (.comp (.var 2) (.tup (.cons (.v 2) (.cons (.v 3) .nil))) (.seq (.var 0)) (.call "is_less" (.cons (.var 3) (.cons (.var 1) .nil))) [2, 3]) .nil))) .nil), []⟩
def n_colder_by : List Str := ["board", "warmth", "flow", "each"]
def c_cooled : Fn := ⟨3, 3, (.cons (.exp (.call "check_warmth" (.cons (.var 0) (.cons (.var 1) .nil)))) (.cons (.ite (.or (.not (.call "is_from_nought" (.cons (.var 2) .nil))) (.call "is_less" (.cons (.con "ONE") (.cons (.var 2) .nil)))) (.cons .nev .nil) .nil) (.cons (.ret (.call "cooled_by" (.cons (.var 0) (.cons (.var 1) (.cons (.var 2) .nil))))) .nil))), [(0, ["share", "warmth", "board"], [2, 1, 0])]⟩
def n_cooled : List Str := ["board", "warmth", "share"]
def c_layer : Fn := ⟨2, 2, (.cons (.exp (.call "check_board" (.cons (.var 0) .nil))) (.cons (.exp (.call "check_volume_from" (.cons (.var 1) .nil))) (.cons (.ite (.not (.call "is_less" (.cons (.var 1) (.cons (.call "total_of" (.cons (.var 0) .nil)) .nil)))) (.cons (.raise_ "Unfit") .nil) .nil) (.cons (.ret (.call "layer_by" (.cons (.var 0) (.cons (.var 1) .nil)))) .nil)))), [(0, ["volume_from", "board"], [1, 0])]⟩
def n_layer : List Str := ["board", "volume_from"]
def c_middle : Fn := ⟨1, 1, (.cons (.exp (.call "check_board" (.cons (.var 0) .nil))) (.cons (.ret (.call "middle_by" (.cons (.var 0) .nil))) .nil)), [(0, ["board"], [0])]⟩
def n_middle : List Str := ["board"]
def c_colder_volume : Fn := ⟨2, 2, (.cons (.exp (.call "check_warmth" (.cons (.var 0) (.cons (.var 1) .nil)))) (.cons (.ret (.call "colder_by" (.cons (.var 0) (.cons (.var 1) .nil)))) .nil)), [(0, ["warmth", "board"], [1, 0])]⟩
def n_colder_volume : List Str := ["board", "warmth"]
def c_does_part_by : Fn := ⟨3, 3, (.cons (.ite (.not (.call "is_bar" (.cons (.var 2) .nil))) (.cons (.ret (.bl false)) .nil) .nil) (.cons (.ite (.cmp .eq (.idx (.var 2) (.int 0)) (.con "VOLUME")) (.cons (.ret (.call "is_less" (.cons (.call "total_of" (.cons (.var 0) .nil)) (.cons (.call "total_of" (.cons (.var 1) .nil)) .nil)))) .nil) .nil) (.cons (.ite (.cmp .eq (.idx (.var 2) (.int 0)) (.con "ABOVE")) (.cons (.ret (.call "is_less" (.cons (.call "excess_of" (.cons (.var 0) (.cons (.idx (.var 2) (.int 1)) .nil))) (.cons (.call "excess_of" (.cons (.var 1) (.cons (.idx (.var 2) (.int 1)) .nil))) .nil)))) .nil) .nil) (.cons (.ret (.call "is_less" (.cons (.call "lack_of" (.cons (.var 0) (.cons (.idx (.var 2) (.int 1)) .nil))) (.cons (.call "lack_of" (.cons (.var 1) (.cons (.idx (.var 2) (.int 1)) .nil))) .nil)))) .nil)))), []⟩
def n_does_part_by : List Str := ["board", "other", "value"]
def c_parting_by : Fn := ⟨2, 4, (.cons (.set (.v 2) (.comp (.var 3) (.v 3) (.seq (.call "bars_of" (.cons (.var 0) .nil))) (.call "does_part_by" (.cons (.var 0) (.cons (.var 1) (.cons (.var 3) .nil)))) [3])) (.cons (.ret (.ite (.cmp .ne (.var 2) (.lst .nil)) (.idx (.var 2) (.int 0)) .non)) .nil)), []⟩
def n_parting_by : List Str := ["board", "other", "found", "bar"]
def c_does_cover_by : Fn := ⟨2, 2, (.cons (.ret (.cmp .is_ (.call "parting_by" (.cons (.var 0) (.cons (.var 1) .nil))) .non)) .nil), []⟩
def n_does_cover_by : List Str := ["board", "other"]
def c_check_boards : Fn := ⟨2, 2, (.cons (.exp (.call "check_board" (.cons (.var 0) .nil))) (.cons (.exp (.call "check_board" (.cons (.var 1) .nil))) .nil)), []⟩
def n_check_boards : List Str := ["board", "other"]
def c_does_cover : Fn := ⟨2, 2, (.cons (.exp (.call "check_boards" (.cons (.var 0) (.cons (.var 1) .nil)))) (.cons (.ret (.call "does_cover_by" (.cons (.var 0) (.cons (.var 1) .nil)))) .nil)), []⟩
def n_does_cover : List Str := ["board", "other"]
def c__law_pool : Fn := ⟨2, 5, (.cons (.set (.v 2) (.ite (.cmp .lt (.var 1) (.blt .len (.cons (.var 0) .nil))) (.blt .int (.cons (.idx (.var 0) (.var 1)) .nil)) (.bin .add (.bin .mul (.int 16453) (.var 1)) (.int 55860)))) (.cons (.set (.v 3) (.bin .add (.int 3235659) (.bin .mul (.int 7919) (.var 1)))) (.cons (.for_ (.v 4) (.seq (.slc (.var 0) .no (.so (.int 63)))) (.cons (.set (.v 3) (.bin .mod (.blt .int (.cons (.bin .add (.bin .add (.bin .mul (.var 3) (.int 48271)) (.bin .mod (.blt .int (.cons (.var 4) .nil)) (.int 2147483629))) (.int 11)) .nil)) (.int 2147483647))) .nil)) (.cons (.set (.v 3) (.bin .mod (.blt .int (.cons (.bin .add (.bin .add (.bin .mul (.var 3) (.int 69621)) (.bin .mul (.bin .mod (.blt .int (.cons (.var 2) .nil)) (.int 2147483629)) (.int 16807))) (.int 7)) .nil)) (.int 2147483647))) (.cons (.retS (.lst (.cons (.ite (.or (.cmp .lt (.var 2) (.int 0)) (.cmp .ge (.var 2) (.bin .pow (.int 10) (.int 18)))) (.blt .abs (.cons (.var 2) .nil)) (.int 0)) (.cons (.var 3) (.cons (.int 0) .nil))))) .nil))))), []⟩
def n__law_pool : List Str := ["script", "lap", "cell", "stirred", "each"]
def c__law_plus : Fn := ⟨2, 2, (.cons (.ret (.call "_law_ratio" (.cons (.bin .add (.bin .mul (.idx (.var 0) (.int 0)) (.idx (.var 1) (.int 1))) (.bin .mul (.idx (.var 1) (.int 0)) (.idx (.var 0) (.int 1)))) (.cons (.bin .mul (.idx (.var 0) (.int 1)) (.idx (.var 1) (.int 1))) .nil)))) .nil), []⟩
def n__law_plus : List Str := ["one", "two"]
def c__law_is_less : Fn := ⟨2, 2, (.cons (.ret (.cmp .lt (.bin .mul (.idx (.var 0) (.int 0)) (.idx (.var 1) (.int 1))) (.bin .mul (.idx (.var 1) (.int 0)) (.idx (.var 0) (.int 1))))) .nil), []⟩
def n__law_is_less : List Str := ["one", "two"]
def c__law_side : Fn := ⟨1, 8, (.cons (.dict 1) (.cons (.for_ (.tup (.cons (.v 4) (.cons (.v 5) .nil))) (.seq (.var 0)) (.cons (.mput 1 (.var 5) (.call "_law_plus" (.cons (.var 4) (.cons (.mget 1 (.var 5) (.tup (.cons (.int 0) (.cons (.int 1) .nil)))) .nil)))) .nil)) (.cons (.set (.o 2) (.lst .nil)) (.cons (.for_ (.v 3) (.rng (.mlen 1)) (.cons (.set (.v 6) (.idx (.lkd 1 (.comp (.var 5) (.v 5) (.mk 1) (.not (.blt .any (.cons (.comp (.call "_law_is_less" (.cons (.var 7) (.cons (.var 5) .nil))) (.v 7) (.mk 1) (.bl true) [7]) .nil))) [5])) (.int 0))) (.cons (.mapp 2 (.tup (.cons (.var 6) (.cons (.mpopk 1 (.var 6)) .nil)))) .nil))) (.cons (.ret (.frz 2)) .nil))))), []⟩
def n__law_side : List Str := ["board", "found", "rows", "lap", "flow", "warmth", "least", "other"]
def c__law_total : Fn := ⟨1, 3, (.cons (.ret (.call "_law_sum" (.cons (.comp (.var 1) (.tup (.cons (.v 1) (.cons (.v 2) .nil))) (.seq (.var 0)) (.bl true) [1, 2]) .nil))) .nil), []⟩
def n__law_total : List Str := ["board", "flow", "warmth"]
def c__law_times : Fn := ⟨2, 2, (.cons (.ret (.call "_law_ratio" (.cons (.bin .mul (.idx (.var 0) (.int 0)) (.idx (.var 1) (.int 0))) (.cons (.bin .mul (.idx (.var 0) (.int 1)) (.idx (.var 1) (.int 1))) .nil)))) .nil), []⟩
def n__law_times : List Str := ["one", "two"]
def c__law_same : Fn := ⟨2, 4, (.cons (.ite (.cmp .is_ (.var 1) .non) (.cons (.ret (.cmp .is_ (.var 0) .non)) .nil) .nil) (.cons (.ite (.isi .bool (.var 1)) (.cons (.ret (.and (.isi .bool (.var 0)) (.cmp .eq (.var 0) (.var 1)))) .nil) .nil) (.cons (.ite (.isi .int (.var 1)) (.cons (.ret (.and (.isi .int (.var 0)) (.and (.not (.isi .bool (.var 0))) (.cmp .eq (.var 0) (.var 1))))) .nil) .nil) (.cons (.ite (.isi .str (.var 1)) (.cons (.ret (.and (.isi .str (.var 0)) (.cmp .eq (.var 0) (.var 1)))) .nil) .nil) (.cons (.ite (.or (.not (.isi .tuple (.var 0))) (.cmp .ne (.blt .len (.cons (.var 0) .nil)) (.blt .len (.cons (.var 1) .nil)))) (.cons (.ret (.bl false)) .nil) .nil) (.cons (.ret (.blt .all (.cons (.comp (.call "_law_same" (.cons (.var 2) (.cons (.var 3) .nil))) (.tup (.cons (.v 2) (.cons (.v 3) .nil))) (.zip (.var 0) (.var 1)) (.bl true) [2, 3]) .nil))) .nil)))))), []⟩
def n__law_same : List Str := ["told", "due", "x", "y"]
def c__law_less : Fn := ⟨2, 2, (.cons (.ret (.call "_law_ratio" (.cons (.bin .sub (.bin .mul (.idx (.var 0) (.int 0)) (.idx (.var 1) (.int 1))) (.bin .mul (.idx (.var 1) (.int 0)) (.idx (.var 0) (.int 1)))) (.cons (.bin .mul (.idx (.var 0) (.int 1)) (.idx (.var 1) (.int 1))) .nil)))) .nil), []⟩
def n__law_less : List Str := ["one", "two"]
def c__law_alike : Fn := ⟨2, 5, (.cons (.ite (.cmp .is_ (.var 1) .non) (.cons (.ret (.cmp .is_ (.var 0) .non)) .nil) .nil) (.cons (.ite (.isi .bool (.var 1)) (.cons (.ret (.and (.isi .bool (.var 0)) (.cmp .eq (.var 0) (.var 1)))) .nil) .nil) (.cons (.ite (.isi .int (.var 1)) (.cons (.ret (.and (.isi .int (.var 0)) (.and (.not (.isi .bool (.var 0))) (.cmp .eq (.var 0) (.var 1))))) .nil) .nil) (.cons (.ite (.isi .str (.var 1)) (.cons (.ret (.and (.isi .str (.var 0)) (.cmp .eq (.var 0) (.var 1)))) .nil) .nil) (.cons (.ite (.isi .dict (.var 1)) (.cons (.ite (.or (.not (.isi .dict (.var 0))) (.cmp .ne (.blt .len (.cons (.var 0) .nil)) (.blt .len (.cons (.var 1) .nil)))) (.cons (.ret (.bl false)) .nil) .nil) (.cons (.ret (.blt .all (.cons (.comp (.and (.cmp .in_ (.var 2) (.var 0)) (.call "_law_alike" (.cons (.idx (.var 0) (.var 2)) (.cons (.idx (.var 1) (.var 2)) .nil)))) (.v 2) (.seq (.var 1)) (.bl true) [2]) .nil))) .nil)) .nil) (.cons (.ite (.or (.cmp .ne (.isi .tuple (.var 1)) (.isi .tuple (.var 0))) (.cmp .ne (.isi .list (.var 1)) (.isi .list (.var 0)))) (.cons (.ret (.bl false)) .nil) .nil) (.cons (.ret (.and (.cmp .eq (.blt .len (.cons (.var 0) .nil)) (.blt .len (.cons (.var 1) .nil))) (.blt .all (.cons (.comp (.call "_law_alike" (.cons (.var 3) (.cons (.var 4) .nil))) (.tup (.cons (.v 3) (.cons (.v 4) .nil))) (.zip (.var 0) (.var 1)) (.bl true) [3, 4]) .nil)))) .nil))))))), []⟩
def n__law_alike : List Str := ["told", "due", "key", "x", "y"]
def c__law_board : Fn := ⟨2, 4, (.cons (.set (.v 2) (.call "_law_one" (.cons (.var 0) (.cons (.tup (.cons (.int 2) (.cons (.int 6) (.cons (.int 9) .nil)))) .nil)))) (.cons (.ret (.blt .tuple (.cons (.comp (.tup (.cons (.call "_law_flow" (.cons (.var 0) .nil)) (.cons (.call "_law_fraction" (.cons (.var 0) (.cons (.neg (.int 2)) (.cons (.var 2) .nil)))) .nil))) (.v 3) (.rng (.bin .add (.int 1) (.call "_law_below" (.cons (.var 0) (.cons (.var 1) .nil))))) (.bl true) [3]) .nil))) .nil)), []⟩
def n__law_board : List Str := ["pool", "most", "wide", "tap"]
def c__law_fraction : Fn := ⟨3, 4, (.cons (.set (.v 3) (.call "_law_one" (.cons (.var 0) (.cons (.tup (.cons (.int 1) (.cons (.int 1) (.cons (.int 2) (.cons (.int 3) .nil))))) .nil)))) (.cons (.ret (.call "_law_ratio" (.cons (.bin .add (.bin .mul (.var 1) (.var 3)) (.call "_law_below" (.cons (.var 0) (.cons (.bin .add (.bin .mul (.bin .sub (.var 2) (.var 1)) (.var 3)) (.int 1)) .nil)))) (.cons (.var 3) .nil)))) .nil)), []⟩
def n__law_fraction : List Str := ["pool", "low", "high", "part"]
def c__law_poured : Fn := ⟨3, 12, (.cons (.par (.cons (.v 4) (.cons (.o 5) .nil)) (.cons (.comp (.var 9) (.tup (.cons (.v 9) (.cons (.v 11) .nil))) (.seq (.var 1)) (.bl true) [9, 11]) (.cons (.lst .nil) .nil))) (.cons (.for_ (.v 3) (.rng (.var 2)) (.cons (.set (.v 6) (.comp (.call "_law_times" (.cons (.var 9) (.cons (.tup (.cons (.call "_law_one" (.cons (.var 0) (.cons (.tup (.cons (.int 0) (.cons (.int 0) (.cons (.int 1) (.cons (.int 2) (.cons (.int 4) .nil)))))) .nil))) (.cons (.int 4) .nil))) .nil))) (.v 9) (.seq (.var 4)) (.bl true) [9])) (.cons (.set (.v 6) (.comp (.call "_law_ratio" (.cons (.idx (.var 10) (.int 0)) (.cons (.idx (.var 10) (.int 1)) .nil))) (.v 10) (.seq (.var 6)) (.bl true) [10])) (.cons (.set (.v 7) (.call "_law_sum" (.cons (.var 6) .nil))) (.cons (.ite (.cmp .gt (.idx (.var 7) (.int 0)) (.int 0)) (.cons (.set (.v 8) (.call "_law_sum" (.cons (.comp (.call "_law_times" (.cons (.var 10) (.cons (.var 11) .nil))) (.tup (.cons (.v 10) (.cons (.tup (.cons (.v 9) (.cons (.v 11) .nil))) .nil))) (.zip (.var 6) (.var 1)) (.bl true) [10, 9, 11]) .nil))) (.cons (.mapp 5 (.tup (.cons (.var 7) (.cons (.call "_law_over" (.cons (.var 8) (.cons (.var 7) .nil))) .nil)))) (.cons (.set (.v 4) (.comp (.call "_law_less" (.cons (.var 9) (.cons (.var 10) .nil))) (.tup (.cons (.v 9) (.cons (.v 10) .nil))) (.zip (.var 4) (.var 6)) (.bl true) [9, 10])) .nil))) .nil) .nil))))) (.cons (.ret (.ite (.mnil 5 false) (.mtup 5) (.tup (.cons (.tup (.cons (.call "_law_times" (.cons (.idx (.idx (.var 1) (.int 0)) (.int 0)) (.cons (.tup (.cons (.int 1) (.cons (.int 2) .nil))) .nil))) (.cons (.idx (.idx (.var 1) (.int 0)) (.int 1)) .nil))) .nil)))) .nil))), []⟩
def n__law_poured : List Str := ["pool", "board", "many", "lap", "flows", "found", "shares", "whole", "heat", "flow", "share", "warmth"]
def c__law_ratio : Fn := ⟨2, 4, (.cons (.par (.cons (.v 2) (.cons (.v 3) .nil)) (.cons (.blt .abs (.cons (.var 0) .nil)) (.cons (.blt .abs (.cons (.var 1) .nil)) .nil))) (.cons (.while_ (.cmp .gt (.var 3) (.int 0)) (.cons (.par (.cons (.v 2) (.cons (.v 3) .nil)) (.cons (.var 3) (.cons (.bin .mod (.blt .int (.cons (.var 2) .nil)) (.var 3)) .nil))) .nil)) (.cons (.ret (.ite (.cmp .gt (.var 1) (.int 0)) (.tup (.cons (.bin .fdiv (.var 0) (.var 2)) (.cons (.bin .fdiv (.var 1) (.var 2)) .nil))) (.tup (.cons (.bin .sub (.int 0) (.bin .fdiv (.var 0) (.var 2))) (.cons (.bin .sub (.int 0) (.bin .fdiv (.var 1) (.var 2))) .nil))))) .nil))), []⟩
def n__law_ratio : List Str := ["top", "low", "one", "two"]
def c__law_sum : Fn := ⟨1, 3, (.cons (.set (.v 1) (.tup (.cons (.int 0) (.cons (.int 1) .nil)))) (.cons (.for_ (.v 2) (.seq (.var 0)) (.cons (.set (.v 1) (.call "_law_plus" (.cons (.var 1) (.cons (.var 2) .nil)))) .nil)) (.cons (.ret (.var 1)) .nil))), []⟩
def n__law_sum : List Str := ["some", "found", "each"]
def c__law_flow : Fn := ⟨1, 2, (.cons (.set (.v 1) (.call "_law_one" (.cons (.var 0) (.cons (.tup (.cons (.int 1) (.cons (.int 1) (.cons (.int 2) (.cons (.int 3) .nil))))) .nil)))) (.cons (.ret (.call "_law_ratio" (.cons (.bin .add (.int 1) (.call "_law_below" (.cons (.var 0) (.cons (.bin .mul (.int 5) (.var 1)) .nil)))) (.cons (.var 1) .nil)))) .nil)), []⟩
def n__law_flow : List Str := ["pool", "part"]
def c__law_over : Fn := ⟨2, 2, (.cons (.ret (.call "_law_ratio" (.cons (.bin .mul (.idx (.var 0) (.int 0)) (.idx (.var 1) (.int 1))) (.cons (.bin .mul (.idx (.var 0) (.int 1)) (.idx (.var 1) (.int 0))) .nil)))) .nil), []⟩
def n__law_over : List Str := ["one", "two"]
def c__law_below : Fn := ⟨2, 4, (.cons (.ite (.cmp .gt (.idx (.var 0) (.int 0)) (.int 0)) (.cons (.set (.v 3) (.bin .mod (.blt .int (.cons (.idx (.var 0) (.int 0)) .nil)) (.var 1))) (.cons (.sset (.var 0) (.int 0) (.bin .fdiv (.idx (.var 0) (.int 0)) (.var 1))) (.cons (.ret (.var 3)) .nil))) .nil) (.cons (.sset (.var 0) (.int 2) (.bin .add (.idx (.var 0) (.int 2)) (.int 1))) (.cons (.set (.v 2) (.bin .mod (.blt .int (.cons (.bin .add (.bin .add (.bin .mul (.idx (.var 0) (.int 1)) (.int 224085)) (.bin .mul (.idx (.var 0) (.int 2)) (.int 217047))) (.int 5)) .nil)) (.int 2147483647))) (.cons (.sset (.var 0) (.int 1) (.bin .mod (.blt .int (.cons (.bin .add (.bin .mul (.var 2) (.bin .add (.bin .mod (.blt .int (.cons (.var 2) .nil)) (.int 4093)) (.int 779107))) (.idx (.var 0) (.int 2))) .nil)) (.int 2147483563))) (.cons (.ret (.bin .mod (.blt .int (.cons (.bin .fdiv (.idx (.var 0) (.int 1)) (.int 61)) .nil)) (.var 1))) .nil))))), []⟩
def n__law_below : List Str := ["pool", "many", "mixed", "figure"]
def c__law_one : Fn := ⟨2, 2, (.cons (.ret (.idx (.var 1) (.call "_law_below" (.cons (.var 0) (.cons (.blt .len (.cons (.var 1) .nil)) .nil))))) .nil), []⟩
def n__law_one : List Str := ["pool", "some"]
def c__law_layer : Fn := ⟨2, 5, (.cons (.set (.v 2) (.tup (.cons (.int 0) (.cons (.int 1) .nil)))) (.cons (.for_ (.tup (.cons (.v 3) (.cons (.v 4) .nil))) (.seq (.var 0)) (.cons (.set (.v 2) (.call "_law_plus" (.cons (.var 2) (.cons (.var 4) .nil)))) (.cons (.ite (.call "_law_is_less" (.cons (.var 1) (.cons (.var 2) .nil))) (.cons (.ret (.var 3)) .nil) .nil) .nil))) (.cons (.ret .non) .nil))), []⟩
def n__law_layer : List Str := ["rows", "volume", "here", "warmth", "whole"]
def c__law_told : Fn := ⟨3, 3, (.cons (.try_ (.cons (.ret (.ite (.var 2) (.callk "layer" 0 ["volume_from", "board"] [1, 0] .nil (.cons (.var 1) (.cons (.var 0) .nil))) (.call "layer" (.cons (.var 0) (.cons (.var 1) .nil))))) .nil) (.cons "Unfit" (.cons (.ret (.lst (.cons (.str "unfit") .nil))) .nil) (.cons "WarmError" (.cons (.ret (.lst (.cons (.str "other") .nil))) .nil) .nil))) .nil), []⟩
def n__law_told : List Str := ["board", "volume", "is_named_v"]
def c__law_are_layers_right : Fn := ⟨2, 11, (.cons (.par (.cons (.v 3) (.cons (.v 4) .nil)) (.cons (.call "_law_side" (.cons (.var 1) .nil)) (.cons (.call "_law_total" (.cons (.var 1) .nil)) .nil))) (.cons (.par (.cons (.o 5) (.cons (.v 6) .nil)) (.cons (.lst (.cons (.tup (.cons (.int 0) (.cons (.int 1) .nil))) (.cons (.call "_law_times" (.cons (.var 4) (.cons (.tup (.cons (.int 1) (.cons (.int 2) .nil))) .nil))) (.cons (.var 4) (.cons (.call "_law_plus" (.cons (.var 4) (.cons (.tup (.cons (.int 1) (.cons (.int 5) .nil))) .nil))) (.cons (.call "_law_times" (.cons (.var 4) (.cons (.tup (.cons (.call "_law_below" (.cons (.var 0) (.cons (.int 13) .nil))) (.cons (.int 13) .nil))) .nil))) .nil)))))) (.cons (.tup (.cons (.int 0) (.cons (.int 1) .nil))) .nil))) (.cons (.for_ (.tup (.cons (.v 7) (.cons (.v 8) .nil))) (.seq (.var 3)) (.cons (.set (.v 9) (.ite (.cmp .eq (.call "_law_below" (.cons (.var 0) (.cons (.int 2) .nil))) (.int 0)) (.callk "colder_volume" 0 ["warmth", "board"] [1, 0] .nil (.cons (.var 7) (.cons (.var 1) .nil))) (.call "colder_volume" (.cons (.var 1) (.cons (.var 7) .nil))))) (.cons (.ite (.or (.not (.call "_law_same" (.cons (.var 9) (.cons (.var 6) .nil)))) (.or (.cmp .ne (.call "layer" (.cons (.var 1) (.cons (.var 9) .nil))) (.var 7)) (.call "_law_is_less" (.cons (.var 6) (.cons (.call "colder_volume" (.cons (.var 1) (.cons (.call "_law_less" (.cons (.var 7) (.cons (.tup (.cons (.int 1) (.cons (.int 99) .nil))) .nil))) .nil))) .nil))))) (.cons (.ret (.bl false)) .nil) .nil) (.cons (.set (.v 6) (.call "_law_plus" (.cons (.var 6) (.cons (.var 8) .nil)))) (.cons (.mapp 5 (.var 6)) .nil))))) (.cons (.for_ (.v 2) (.seq (.frz 5)) (.cons (.set (.v 10) (.call "_law_layer" (.cons (.var 3) (.cons (.var 2) .nil)))) (.cons (.ite (.not (.call "_law_alike" (.cons (.call "_law_told" (.cons (.var 1) (.cons (.var 2) (.cons (.cmp .eq (.call "_law_below" (.cons (.var 0) (.cons (.int 2) .nil))) (.int 0)) .nil)))) (.cons (.ite (.cmp .isn (.var 10) .non) (.var 10) (.lst (.cons (.str "unfit") .nil))) .nil)))) (.cons (.ret (.bl false)) .nil) .nil) .nil))) (.cons (.ite (.not (.call "_law_same" (.cons (.call "colder_volume" (.cons (.var 1) (.cons (.call "_law_plus" (.cons (.idx (.idx (.var 3) (.neg (.int 1))) (.int 0)) (.cons (.tup (.cons (.int 1) (.cons (.int 2) .nil))) .nil))) .nil))) (.cons (.var 4) .nil)))) (.cons (.ret (.bl false)) .nil) .nil) (.cons (.ret (.call "_law_same" (.cons (.tup (.cons (.call "middle" (.cons (.var 1) .nil)) (.cons (.callk "middle" 0 ["board"] [0] .nil (.cons (.var 1) .nil)) .nil))) (.cons (.bin .mul (.tup (.cons (.call "_law_layer" (.cons (.var 3) (.cons (.call "_law_times" (.cons (.var 4) (.cons (.tup (.cons (.int 1) (.cons (.int 2) .nil))) .nil))) .nil))) .nil)) (.int 2)) .nil)))) .nil)))))), []⟩
def n__law_are_layers_right : List Str := ["pool", "board", "volume", "rows", "whole", "marks", "here", "warmth", "part", "colder", "due"]
def c__law_right : Fn := ⟨1, 12, (.cons (.for_ (.v 1) (.rng (.int 14)) (.cons (.par (.cons (.v 2) (.cons (.v 5) .nil)) (.cons (.call "_law_board" (.cons (.var 0) (.cons (.int 8) .nil))) (.cons (.call "_law_board" (.cons (.var 0) (.cons (.int 4) .nil))) .nil))) (.cons (.ite (.not (.call "_law_are_layers_right" (.cons (.var 0) (.cons (.var 2) .nil)))) (.cons (.ret (.bl false)) .nil) .nil) (.cons (.set (.tup (.cons (.v 6) (.cons (.v 7) .nil))) (.tup (.cons (.call "_law_fraction" (.cons (.var 0) (.cons (.neg (.int 9)) (.cons (.int 20) .nil)))) (.cons (.call "_law_one" (.cons (.var 0) (.cons (.tup (.cons (.tup (.cons (.int 0) (.cons (.int 1) .nil))) (.cons (.tup (.cons (.int 1) (.cons (.int 1) .nil))) (.cons (.tup (.cons (.int 1) (.cons (.int 2) .nil))) (.cons (.tup (.cons (.int 1) (.cons (.int 3) .nil))) (.cons (.tup (.cons (.int 4) (.cons (.int 5) .nil))) .nil)))))) .nil))) .nil)))) (.cons (.set (.v 3) (.blt .tuple (.cons (.comp (.tup (.cons (.var 10) (.cons (.call "_law_plus" (.cons (.var 11) (.cons (.call "_law_times" (.cons (.var 7) (.cons (.call "_law_less" (.cons (.var 6) (.cons (.var 11) .nil))) .nil))) .nil))) .nil))) (.tup (.cons (.v 10) (.cons (.v 11) .nil))) (.seq (.var 2)) (.bl true) [10, 11]) .nil))) (.cons (.set (.v 4) (.ite (.cmp .eq (.call "_law_below" (.cons (.var 0) (.cons (.int 2) .nil))) (.int 0)) (.callk "cooled" 0 ["share", "warmth", "board"] [2, 1, 0] .nil (.cons (.var 7) (.cons (.var 6) (.cons (.var 2) .nil)))) (.call "cooled" (.cons (.var 2) (.cons (.var 6) (.cons (.var 7) .nil)))))) (.cons (.ite (.not (.call "_law_same" (.cons (.var 4) (.cons (.var 3) .nil)))) (.cons (.ret (.bl false)) .nil) .nil) (.cons (.ite (.cmp .gt (.var 1) (.int 6)) (.cons (.set (.v 5) (.call "_law_poured" (.cons (.var 0) (.cons (.var 2) (.cons (.int 3) .nil))))) .nil) .nil) (.cons (.par (.cons (.v 8) (.cons (.v 9) .nil)) (.cons (.call "does_cover" (.cons (.var 2) (.cons (.var 5) .nil))) (.cons (.call "does_cover" (.cons (.var 4) (.cons (.call "cooled" (.cons (.var 5) (.cons (.var 6) (.cons (.var 7) .nil)))) .nil))) .nil))) (.cons (.ite (.or (.and (.var 8) (.not (.var 9))) (.and (.cmp .ne (.var 7) (.tup (.cons (.int 1) (.cons (.int 1) .nil)))) (.and (.var 9) (.not (.var 8))))) (.cons (.ret (.bl false)) .nil) .nil) .nil)))))))))) (.cons (.set (.v 2) (.tup (.cons (.tup (.cons (.tup (.cons (.int 3) (.cons (.int 1) .nil))) (.cons (.tup (.cons (.int 60) (.cons (.int 1) .nil))) .nil))) (.cons (.tup (.cons (.tup (.cons (.int 2) (.cons (.int 1) .nil))) (.cons (.tup (.cons (.int 20) (.cons (.int 1) .nil))) .nil))) (.cons (.tup (.cons (.tup (.cons (.int 5) (.cons (.int 1) .nil))) (.cons (.tup (.cons (.int 10) (.cons (.int 1) .nil))) .nil))) .nil))))) (.cons (.ret (.and (.cmp .eq (.call "layer" (.cons (.var 2) (.cons (.tup (.cons (.int 5) (.cons (.int 1) .nil))) .nil))) (.tup (.cons (.int 20) (.cons (.int 1) .nil)))) (.and (.cmp .eq (.call "layer" (.cons (.var 2) (.cons (.tup (.cons (.int 9) (.cons (.int 2) .nil))) .nil))) (.tup (.cons (.int 10) (.cons (.int 1) .nil)))) (.cmp .eq (.call "middle" (.cons (.var 2) .nil)) (.tup (.cons (.int 20) (.cons (.int 1) .nil))))))) .nil))), []⟩
def n__law_right : List Str := ["pool", "lap", "board", "due", "told", "other", "near", "share", "before", "after", "flow", "warmth"]
def c_law : Fn := ⟨1, 2, (.cons (.ret (.blt .all (.cons (.comp (.call "_law_right" (.cons (.call "_law_pool" (.cons (.var 0) (.cons (.var 1) .nil))) .nil)) (.v 1) (.rng (.blt .max (.cons (.int 1) (.cons (.blt .min (.cons (.blt .len (.cons (.var 0) .nil)) (.cons (.int 2) .nil))) .nil)))) (.bl true) [1]) .nil))) .nil), []⟩
def n_law : List Str := ["script", "lap"]
end Cd
namespace Cd
open PySem Z
def tbl : List (String × Fn) := [("plain_of", c_plain_of), ("plus", c_plus), ("minus", c_minus), ("times", c_times), ("over", c_over), ("is_less", c_is_less), ("greater_of", c_greater_of), ("above_of", c_above_of), ("sum_of", c_sum_of), ("rising_places", c_rising_places), ("total_of", c_total_of), ("excess_of", c_excess_of), ("lack_of", c_lack_of), ("rising_taps", c_rising_taps), ("is_whole", c_is_whole), ("is_from", c_is_from), ("is_text", c_is_text), ("is_named", c_is_named), ("is_tuple_up_to", c_is_tuple_up_to), ("is_tuple_of", c_is_tuple_of), ("is_pair", c_is_pair), ("is_fraction_of", c_is_fraction_of), ("is_from_nought", c_is_from_nought), ("is_above_nought", c_is_above_nought), ("is_tap", c_is_tap), ("is_board_of", c_is_board_of), ("is_bar", c_is_bar), ("check_fraction", c_check_fraction), ("check_volume_from", c_check_volume_from), ("check_board", c_check_board), ("check_warmth", c_check_warmth), ("ends_of", c_ends_of), ("bars_of", c_bars_of), ("cooled_by", c_cooled_by), ("layer_by", c_layer_by), ("middle_by", c_middle_by), ("colder_by", c_colder_by), ("cooled", c_cooled), ("layer", c_layer), ("middle", c_middle), ("colder_volume", c_colder_volume), ("does_part_by", c_does_part_by), ("parting_by", c_parting_by), ("does_cover_by", c_does_cover_by), ("check_boards", c_check_boards), ("does_cover", c_does_cover), ("_law_pool", c__law_pool), ("_law_plus", c__law_plus), ("_law_is_less", c__law_is_less), ("_law_side", c__law_side), ("_law_total", c__law_total), ("_law_times", c__law_times), ("_law_same", c__law_same), ("_law_less", c__law_less), ("_law_alike", c__law_alike), ("_law_board", c__law_board), ("_law_fraction", c__law_fraction), ("_law_poured", c__law_poured), ("_law_ratio", c__law_ratio), ("_law_sum", c__law_sum), ("_law_flow", c__law_flow), ("_law_over", c__law_over), ("_law_below", c__law_below), ("_law_one", c__law_one), ("_law_layer", c__law_layer), ("_law_told", c__law_told), ("_law_are_layers_right", c__law_are_layers_right), ("_law_right", c__law_right), ("law", c_law)]
def glT : String → Option D := fun x => if x = "NOUGHT" then some (.tup [(.int 0), (.int 1)]) else if x = "ONE" then some (.tup [(.int 1), (.int 1)]) else if x = "MOST_TAPS" then some (.int 8) else if x = "VOLUME" then some (.str (Str.ofString "volume")) else if x = "ABOVE" then some (.str (Str.ofString "above")) else if x = "BELOW" then some (.str (Str.ofString "below")) else none
def T : Txt := ⟨fun f => tbl.lookup f, glT, fun x y => ((x = "Unfit" && y = "Unfit") || (x = "Unfit" && y = "WarmError") : Bool), fun x => (x = "Unfit" : Bool), fun x => (x = "Unfit" || x = "WarmError" : Bool), 200000⟩
@[simp] theorem fn_plain_of : T.fn "plain_of" = some c_plain_of := by rfl
@[simp] theorem fn_plus : T.fn "plus" = some c_plus := by rfl
@[simp] theorem fn_minus : T.fn "minus" = some c_minus := by rfl
@[simp] theorem fn_times : T.fn "times" = some c_times := by rfl
@[simp] theorem fn_over : T.fn "over" = some c_over := by rfl
@[simp] theorem fn_is_less : T.fn "is_less" = some c_is_less := by rfl
@[simp] theorem fn_greater_of : T.fn "greater_of" = some c_greater_of := by rfl
@[simp] theorem fn_above_of : T.fn "above_of" = some c_above_of := by rfl
@[simp] theorem fn_sum_of : T.fn "sum_of" = some c_sum_of := by rfl
@[simp] theorem fn_rising_places : T.fn "rising_places" = some c_rising_places := by rfl
@[simp] theorem fn_total_of : T.fn "total_of" = some c_total_of := by rfl
@[simp] theorem fn_excess_of : T.fn "excess_of" = some c_excess_of := by rfl
@[simp] theorem fn_lack_of : T.fn "lack_of" = some c_lack_of := by rfl
@[simp] theorem fn_rising_taps : T.fn "rising_taps" = some c_rising_taps := by rfl
@[simp] theorem fn_is_whole : T.fn "is_whole" = some c_is_whole := by rfl
@[simp] theorem fn_is_from : T.fn "is_from" = some c_is_from := by rfl
@[simp] theorem fn_is_text : T.fn "is_text" = some c_is_text := by rfl
@[simp] theorem fn_is_named : T.fn "is_named" = some c_is_named := by rfl
@[simp] theorem fn_is_tuple_up_to : T.fn "is_tuple_up_to" = some c_is_tuple_up_to := by rfl
@[simp] theorem fn_is_tuple_of : T.fn "is_tuple_of" = some c_is_tuple_of := by rfl
@[simp] theorem fn_is_pair : T.fn "is_pair" = some c_is_pair := by rfl
@[simp] theorem fn_is_fraction_of : T.fn "is_fraction_of" = some c_is_fraction_of := by rfl
@[simp] theorem fn_is_from_nought : T.fn "is_from_nought" = some c_is_from_nought := by rfl
@[simp] theorem fn_is_above_nought : T.fn "is_above_nought" = some c_is_above_nought := by rfl
@[simp] theorem fn_is_tap : T.fn "is_tap" = some c_is_tap := by rfl
@[simp] theorem fn_is_board_of : T.fn "is_board_of" = some c_is_board_of := by rfl
@[simp] theorem fn_is_bar : T.fn "is_bar" = some c_is_bar := by rfl
@[simp] theorem fn_check_fraction : T.fn "check_fraction" = some c_check_fraction := by rfl
@[simp] theorem fn_check_volume_from : T.fn "check_volume_from" = some c_check_volume_from := by rfl
@[simp] theorem fn_check_board : T.fn "check_board" = some c_check_board := by rfl
@[simp] theorem fn_check_warmth : T.fn "check_warmth" = some c_check_warmth := by rfl
@[simp] theorem fn_ends_of : T.fn "ends_of" = some c_ends_of := by rfl
@[simp] theorem fn_bars_of : T.fn "bars_of" = some c_bars_of := by rfl
@[simp] theorem fn_cooled_by : T.fn "cooled_by" = some c_cooled_by := by rfl
@[simp] theorem fn_layer_by : T.fn "layer_by" = some c_layer_by := by rfl
@[simp] theorem fn_middle_by : T.fn "middle_by" = some c_middle_by := by rfl
@[simp] theorem fn_colder_by : T.fn "colder_by" = some c_colder_by := by rfl
@[simp] theorem fn_cooled : T.fn "cooled" = some c_cooled := by rfl
@[simp] theorem fn_layer : T.fn "layer" = some c_layer := by rfl
@[simp] theorem fn_middle : T.fn "middle" = some c_middle := by rfl
@[simp] theorem fn_colder_volume : T.fn "colder_volume" = some c_colder_volume := by rfl
@[simp] theorem fn_does_part_by : T.fn "does_part_by" = some c_does_part_by := by rfl
@[simp] theorem fn_parting_by : T.fn "parting_by" = some c_parting_by := by rfl
@[simp] theorem fn_does_cover_by : T.fn "does_cover_by" = some c_does_cover_by := by rfl
@[simp] theorem fn_check_boards : T.fn "check_boards" = some c_check_boards := by rfl
@[simp] theorem fn_does_cover : T.fn "does_cover" = some c_does_cover := by rfl
@[simp] theorem fn__law_pool : T.fn "_law_pool" = some c__law_pool := by rfl
@[simp] theorem fn__law_plus : T.fn "_law_plus" = some c__law_plus := by rfl
@[simp] theorem fn__law_is_less : T.fn "_law_is_less" = some c__law_is_less := by rfl
@[simp] theorem fn__law_side : T.fn "_law_side" = some c__law_side := by rfl
@[simp] theorem fn__law_total : T.fn "_law_total" = some c__law_total := by rfl
@[simp] theorem fn__law_times : T.fn "_law_times" = some c__law_times := by rfl
@[simp] theorem fn__law_same : T.fn "_law_same" = some c__law_same := by rfl
@[simp] theorem fn__law_less : T.fn "_law_less" = some c__law_less := by rfl
@[simp] theorem fn__law_alike : T.fn "_law_alike" = some c__law_alike := by rfl
@[simp] theorem fn__law_board : T.fn "_law_board" = some c__law_board := by rfl
@[simp] theorem fn__law_fraction : T.fn "_law_fraction" = some c__law_fraction := by rfl
@[simp] theorem fn__law_poured : T.fn "_law_poured" = some c__law_poured := by rfl
@[simp] theorem fn__law_ratio : T.fn "_law_ratio" = some c__law_ratio := by rfl
@[simp] theorem fn__law_sum : T.fn "_law_sum" = some c__law_sum := by rfl
@[simp] theorem fn__law_flow : T.fn "_law_flow" = some c__law_flow := by rfl
@[simp] theorem fn__law_over : T.fn "_law_over" = some c__law_over := by rfl
@[simp] theorem fn__law_below : T.fn "_law_below" = some c__law_below := by rfl
@[simp] theorem fn__law_one : T.fn "_law_one" = some c__law_one := by rfl
@[simp] theorem fn__law_layer : T.fn "_law_layer" = some c__law_layer := by rfl
@[simp] theorem fn__law_told : T.fn "_law_told" = some c__law_told := by rfl
@[simp] theorem fn__law_are_layers_right : T.fn "_law_are_layers_right" = some c__law_are_layers_right := by rfl
@[simp] theorem fn__law_right : T.fn "_law_right" = some c__law_right := by rfl
@[simp] theorem fn_law : T.fn "law" = some c_law := by rfl
@[simp] theorem gl_NOUGHT : T.gl "NOUGHT" = some (.tup [(.int 0), (.int 1)]) := by rfl
@[simp] theorem gl_ONE : T.gl "ONE" = some (.tup [(.int 1), (.int 1)]) := by rfl
@[simp] theorem gl_MOST_TAPS : T.gl "MOST_TAPS" = some (.int 8) := by rfl
@[simp] theorem gl_VOLUME : T.gl "VOLUME" = some (.str (Str.ofString "volume")) := by rfl
@[simp] theorem gl_ABOVE : T.gl "ABOVE" = some (.str (Str.ofString "above")) := by rfl
@[simp] theorem gl_BELOW : T.gl "BELOW" = some (.str (Str.ofString "below")) := by rfl
@[simp] theorem fuel_T : T.fuel = 200000 := rfl
@[simp] theorem rai_Unfit : T.rai "Unfit" = true := by rfl
@[simp] theorem exc_Unfit : T.exc "Unfit" = true := by rfl
@[simp] theorem exc_WarmError : T.exc "WarmError" = true := by rfl
@[simp] theorem sub_Unfit_Unfit : T.sub "Unfit" "Unfit" = true := by rfl
@[simp] theorem sub_Unfit_WarmError : T.sub "Unfit" "WarmError" = true := by rfl
@[simp] theorem kw_colder_volume_0 (cf : String → List D → List Ob → OutC) : (prm T cf).kw "colder_volume" 0 ["warmth", "board"] [1, 0] = true := by rfl
@[simp] theorem kw_cooled_0 (cf : String → List D → List Ob → OutC) : (prm T cf).kw "cooled" 0 ["share", "warmth", "board"] [2, 1, 0] = true := by rfl
@[simp] theorem kw_layer_0 (cf : String → List D → List Ob → OutC) : (prm T cf).kw "layer" 0 ["volume_from", "board"] [1, 0] = true := by rfl
@[simp] theorem kw_middle_0 (cf : String → List D → List Ob → OutC) : (prm T cf).kw "middle" 0 ["board"] [0] = true := by rfl
end Cd

set_option linter.all false
set_option maxRecDepth 100000
namespace Cd
open PySem Z ZP Q
/-! fractions -/
theorem s_plain_of (k : Nat) (a b : Int) (t : List Ob) (n : Nat) (hb : b ≠ 0) (h : b.natAbs < 2 ^ n) (hn : n ≤ 9000) : call T (k + 1) "plain_of" [.int a, .int b] t = .ok (fr (Rat.divInt a b)) t := by
  rw [call_s fn_plain_of]
  have gp : 0 < Int.gcd a b := Int.gcd_pos_of_ne_zero_right a hb
  have gl : Int.gcd a b < 2 ^ n := Nat.lt_of_le_of_lt (Nat.le_of_dvd (by omega) (Int.natAbs_dvd_natAbs.mpr (Int.gcd_dvd_right a b))) h
  have gg : Nat.gcd a.natAbs b.natAbs = Int.gcd a b := rfl
  by_cases hp : 0 < b
  · have e := divInt_fr (a := a) hb (g := (Int.gcd a b : Int)) (by rw [if_pos hp])
    have z : szDiv (Int.gcd a b : Int) = true := szDiv_of (n := n) (by omega) (by rw [Int.natAbs_natCast]; exact gl) hn
    simp [runF, startE, lenLine, c_plain_of, cmpD, bltD, binD, hp, gg, z, e]
  · have e := divInt_fr (a := a) hb (g := -(Int.gcd a b : Int)) (by rw [if_neg hp])
    have z : szDiv (-(Int.gcd a b : Int)) = true := szDiv_of (n := n) (by omega) (by rw [Int.natAbs_neg, Int.natAbs_natCast]; exact gl) hn
    simp [runF, startE, lenLine, c_plain_of, cmpD, bltD, binD, hp, gg, z, e]
theorem s_plus (k : Nat) (a b : Rat) (t : List Ob) (h : sz a + sz b ≤ 9000) : call T (k + 2) "plus" [fr a, fr b] t = .ok (fr (a + b)) t := by
  rw [call_s fn_plus]
  have e := s_plain_of k (a.num * b.den + b.num * a.den) (a.den * b.den) t (sz a + sz b) (dd_ne a b) (dd_lt a b) h
  rw [add_di] at e
  simp [runF, startE, lenLine, c_plus, binD, mu_nd (a := a) (b := b) (by omega), mu_nd (a := b) (b := a) (by omega), mu_dd (a := a) (b := b) (by omega), e]
theorem s_minus (k : Nat) (a b : Rat) (t : List Ob) (h : sz a + sz b ≤ 9000) : call T (k + 2) "minus" [fr a, fr b] t = .ok (fr (a - b)) t := by
  rw [call_s fn_minus]
  have e := s_plain_of k (a.num * b.den - b.num * a.den) (a.den * b.den) t (sz a + sz b) (dd_ne a b) (dd_lt a b) h
  rw [sub_di] at e
  simp [runF, startE, lenLine, c_minus, binD, mu_nd (a := a) (b := b) (by omega), mu_nd (a := b) (b := a) (by omega), mu_dd (a := a) (b := b) (by omega), e]
theorem s_times (k : Nat) (a b : Rat) (t : List Ob) (h : sz a + sz b ≤ 9000) : call T (k + 2) "times" [fr a, fr b] t = .ok (fr (a * b)) t := by
  rw [call_s fn_times]
  have e := s_plain_of k (a.num * b.num) (a.den * b.den) t (sz a + sz b) (dd_ne a b) (dd_lt a b) h
  rw [mul_di] at e
  simp [runF, startE, lenLine, c_times, binD, mu_nn (a := a) (b := b) (by omega), mu_dd (a := a) (b := b) (by omega), e]
theorem s_over (k : Nat) (a b : Rat) (t : List Ob) (hb : b ≠ 0) (h : sz a + sz b ≤ 9000) : call T (k + 2) "over" [fr a, fr b] t = .ok (fr (a / b)) t := by
  rw [call_s fn_over]
  have e := s_plain_of k (a.num * b.den) (a.den * b.num) t (sz a + sz b) (dn_ne a hb) (dn_lt a b) h
  rw [div_di] at e
  simp [runF, startE, lenLine, c_over, binD, mu_nd (a := a) (b := b) (by omega), mu_dn (a := a) (b := b) (by omega), e]
theorem s_is_less (k : Nat) (a b : Rat) (t : List Ob) (h : sz a + sz b ≤ 9000) : call T (k + 1) "is_less" [fr a, fr b] t = .ok (.bl (decide (a < b))) t := by
  rw [call_s fn_is_less]
  simp [runF, startE, lenLine, c_is_less, binD, cmpD, mu_nd (a := a) (b := b) (by omega), mu_nd (a := b) (b := a) (by omega), lt_di]
theorem s_greater_of (k : Nat) (a b : Rat) (t : List Ob) (h : sz a + sz b ≤ 9000) : call T (k + 2) "greater_of" [fr a, fr b] t = .ok (fr (if a < b then b else a)) t := by
  rw [call_s fn_greater_of]
  have e := s_is_less k a b t h
  by_cases c : a < b
  · simp [runF, startE, lenLine, c_greater_of, e, c]
  · simp [runF, startE, lenLine, c_greater_of, e, c]
theorem s_above_of (k : Nat) (a : Rat) (t : List Ob) (h : sz a ≤ 8000) : call T (k + 3) "above_of" [fr a] t = .ok (fr (pos a)) t := by
  rw [call_s fn_above_of]
  have e := s_greater_of k a 0 t (by rw [sz_zero]; omega)
  simp [runF, startE, lenLine, c_above_of, e, fr0, pos]
theorem s_sum_of (k : Nat) (l : List Rat) (t : List Ob) (n M : Nat) (h : ∀ q ∈ l, sz q ≤ n) (hM : l.length ≤ M) (hl : M * (n + 1) + n + 1 ≤ 9000) : call T (k + 3) "sum_of" [.lst (l.map fr)] t = .ok (fr (sm l)) t := by
  rw [call_s fn_sum_of]
  have e := sum_for (f := bodyF (prm T (call T (k + 2))) (.v 2) (.cons (.set (.v 1) (.call "plus" (.cons (.var 1) (.cons (.var 2) .nil)))) .nil)) (l := l) (L := .val (.lst (l.map fr))) (t := t) (n := n) h hM hl (fun a b o ho => by
    have e := s_plus k a b t ho
    simp [bodyF, e])
  simp [runF, startE, lenLine, c_sum_of, itemsD, fr0, e]
theorem s_sum_of' {α : Type} (k : Nat) (f : α → Rat) (l : List α) (t : List Ob) (n M : Nat) (h : ∀ x ∈ l, sz (f x) ≤ n) (hM : l.length ≤ M) (hl : M * (n + 1) + n + 1 ≤ 9000) : call T (k + 3) "sum_of" [.lst (l.map fun x => fr (f x))] t = .ok (fr (sm (l.map f))) t := by
  have := s_sum_of k (l.map f) t n M (fun q hq => by obtain ⟨x, hx, rfl⟩ := List.mem_map.mp hq; exact h x hx) (by simpa using hM) hl
  simpa [List.map_map, Function.comp_def] using this
end Cd

set_option linter.all false
set_option maxRecDepth 100000
namespace Cd
open PySem Z ZP Q
theorem s_total_of (k : Nat) (b : List Tap) (t : List Ob) (n m M : Nat) (h : Bds n m b) (hM : b.length ≤ M) (hl : M * (n + 1) + n + 1 ≤ 9000) : call T (k + 4) "total_of" [brd b] t = .ok (fr (tot b)) t := by
  rw [call_s fn_total_of]
  have e := s_sum_of' k (·.1) b t n M (fun x hx => (h x hx).1) hM hl
  have c := compL_map (f := compF (prm T (call T (k + 3))) (.var 1) (.tup (.cons (.v 1) (.cons (.v 2) .nil))) (.bl true) [1, 2] [.val (brd b), .no, .no]) (t := t) (g := tp) (fun x => fr x.1) (l := b) (fun x hx => by simp [compF, wipeE, testE, turnE, tp])
  have l := len_le hl
  simp [runF, startE, lenLine, c_total_of, c, show b.length ≤ 1000000 by omega, e, tot]
theorem exc_sz {n m j : Nat} {b : List Tap} {w : Rat} (h : Bds n m b) (hw : sz w ≤ j) : ∀ x ∈ b, sz (x.2 - w) ≤ m + j + 1 ∧ sz (w - x.2) ≤ m + j + 1 ∧ sz (x.1 * pos (x.2 - w)) ≤ n + m + j + 1 ∧ sz (x.1 * pos (w - x.2)) ≤ n + m + j + 1 := fun x hx => by
  have h1 := h x hx
  have a1 := sz_sub x.2 w
  have a2 := sz_sub w x.2
  have p1 := sz_pos' (x.2 - w)
  have p2 := sz_pos' (w - x.2)
  have m1 := sz_mul x.1 (pos (x.2 - w))
  have m2 := sz_mul x.1 (pos (w - x.2))
  omega
theorem s_excess_of (k : Nat) (b : List Tap) (w : Rat) (t : List Ob) (n m j M : Nat) (h : Bds n m b) (hw : sz w ≤ j) (hM : b.length ≤ M) (hl : M * (n + m + j + 1 + 1) + (n + m + j + 1) + 1 ≤ 9000) (h0 : n + m + j + 1 ≤ 8000) : call T (k + 4) "excess_of" [brd b, fr w] t = .ok (fr (exc b w)) t := by
  rw [call_s fn_excess_of]
  have z := exc_sz h hw
  have e := s_sum_of' k (fun x : Tap => x.1 * pos (x.2 - w)) b t (n + m + j + 1) M (fun x hx => (z x hx).2.2.1) hM hl
  have c := compL_map (f := compF (prm T (call T (k + 3))) (.call "times" (.cons (.var 2) (.cons (.call "above_of" (.cons (.call "minus" (.cons (.var 3) (.cons (.var 1) .nil))) .nil)) .nil))) (.tup (.cons (.v 2) (.cons (.v 3) .nil))) (.bl true) [2, 3] [.val (brd b), .val (fr w), .no, .no]) (t := t) (g := tp) (fun x => fr (x.1 * pos (x.2 - w))) (l := b) (fun x hx => by
    have h1 := h x hx
    have hz := z x hx
    have e1 := s_minus (k + 1) x.2 w t (by omega)
    have e2 := s_above_of k (x.2 - w) t (by omega)
    have e3 := s_times (k + 1) x.1 (pos (x.2 - w)) t (by have := sz_pos' (x.2 - w); omega)
    simp [compF, wipeE, testE, turnE, tp, e1, e2, e3])
  have l := len_le hl
  simp [runF, startE, lenLine, c_excess_of, c, show b.length ≤ 1000000 by omega, e, exc]
theorem s_lack_of (k : Nat) (b : List Tap) (w : Rat) (t : List Ob) (n m j M : Nat) (h : Bds n m b) (hw : sz w ≤ j) (hM : b.length ≤ M) (hl : M * (n + m + j + 1 + 1) + (n + m + j + 1) + 1 ≤ 9000) (h0 : n + m + j + 1 ≤ 8000) : call T (k + 4) "lack_of" [brd b, fr w] t = .ok (fr (lck b w)) t := by
  rw [call_s fn_lack_of]
  have z := exc_sz h hw
  have e := s_sum_of' k (fun x : Tap => x.1 * pos (w - x.2)) b t (n + m + j + 1) M (fun x hx => (z x hx).2.2.2) hM hl
  have c := compL_map (f := compF (prm T (call T (k + 3))) (.call "times" (.cons (.var 2) (.cons (.call "above_of" (.cons (.call "minus" (.cons (.var 1) (.cons (.var 3) .nil))) .nil)) .nil))) (.tup (.cons (.v 2) (.cons (.v 3) .nil))) (.bl true) [2, 3] [.val (brd b), .val (fr w), .no, .no]) (t := t) (g := tp) (fun x => fr (x.1 * pos (w - x.2))) (l := b) (fun x hx => by
    have h1 := h x hx
    have hz := z x hx
    have e1 := s_minus (k + 1) w x.2 t (by omega)
    have e2 := s_above_of k (w - x.2) t (by omega)
    have e3 := s_times (k + 1) x.1 (pos (w - x.2)) t (by have := sz_pos' (w - x.2); omega)
    simp [compF, wipeE, testE, turnE, tp, e1, e2, e3])
  have l := len_le hl
  simp [runF, startE, lenLine, c_lack_of, c, show b.length ≤ 1000000 by omega, e, lck]
end Cd

set_option linter.all false
set_option maxRecDepth 100000
namespace Cd
open PySem Z ZP Q
def nats (l : List Nat) : List D := l.map fun (i : Nat) => .int (i : Int)
theorem s_rising_places (k : Nat) (l : List Rat) (t : List Ob) (n : Nat) (h : ∀ q ∈ l, sz q ≤ n) (hn : n ≤ 4000) (hl : l.length ≤ 1000) : call T (k + 2) "rising_places" [.lst (l.map fr)] t = .ok (.lst (nats (ris l l.length))) t := by
  rw [call_s fn_rising_places]
  have hs : ∀ i, sz (fat l i) ≤ max n 1 := fun i => by
    unfold fat
    by_cases hi : i < l.length
    · have := h (l.getD i 0) (by simp [List.getD_eq_getElem?_getD, hi])
      omega
    · simp [List.getD_eq_getElem?_getD, hi, sz_zero]; omega
  have ix : ∀ j, j < l.length → L2.atI (l.map fr) (j : Int) = some (fr (fat l j)) := fun j hj => by
    rw [atN]; simp [fat, List.getD_eq_getElem?_getD, hj]
  have e := forL_enum (f := bodyF (prm T (call T (k + 1))) (.tup (.cons (.v 2) (.cons (.v 3) .nil))) (.cons (.set (.v 4) (.blt .len (.cons (.comp (.var 5) (.v 5) (.mv 1) (.not (.call "is_less" (.cons (.var 3) (.cons (.idx (.var 0) (.var 5)) .nil)))) [5]) .nil))) (.cons (.mins 1 (.var 4) (.var 2)) .nil)))
    (g := fun i => fr (fat l i)) (n := l.length)
    (st := fun m => ⟨[.val (.lst (l.map fr)), .own (.lst (nats (ris l m))), lastN (fun (i : Nat) => .int (i : Int)) m, lastN (fun i => fr (fat l i)) m, lastN (fun i => .int (((ris l i).filter fun j => !decide (fat l i < fat l j)).length : Nat)) m, .no], t⟩) (fun i hi => by
      have c : ∀ o, compL (compF (prm T (call T (k + 1))) (.var 5) (.v 5) (.not (.call "is_less" (.cons (.var 3) (.cons (.idx (.var 0) (.var 5)) .nil)))) [5] [.val (.lst (l.map fr)), .own (.lst (nats (ris l i))), .val (.int (i : Int)), .val (fr (fat l i)), o, .no]) (nats (ris l i)) t = some (nats ((ris l i).filter fun j => !decide (fat l i < fat l j)), t) := fun o => by
        refine compL_filter (g := fun (i : Nat) => .int (i : Int)) (fun j => !decide (fat l i < fat l j)) (fun (i : Nat) => .int (i : Int)) (l := ris l i) (fun j hj => ?_)
        have hj : j < i := ris_mem.mp hj
        have e1 := s_is_less k (fat l i) (fat l j) t (by have := hs i; have := hs j; omega)
        by_cases q : fat l i < fat l j <;> simp [compF, wipeE, testE, turnE, idxD, ix j (by omega), e1, q]
      have l1 : (ris l i).length = i := ris_len l i
      have l2 : ((ris l i).filter fun j => !decide (fat l i < fat l j)).length ≤ i := Nat.le_trans (List.length_filter_le _ _) (by omega)
      have q1 : (nats (ris l i)).length = i := by simp [nats, l1]
      have q2 : (nats ((ris l i).filter fun j => !decide (fat l i < fat l j))).length = ((ris l i).filter fun j => !decide (fat l i < fat l j)).length := by simp [nats]
      simp only [lenLine_eq, bodyF, as_t, asgs_c, asgs_n, as_v, os_some, oq_nx, ss_cons, ss_nil, st_set, ev_blt, evs_cons, evs_nil, ev_comp, evi_mv]
      simp [S.obj, S.own, c, q1, q2, bltD, show i < 1000000 by omega, show ((ris l i).filter fun j => !decide (fat l i < fat l j)).length ≤ 1000000 by omega, show ((((ris l i).filter fun j => !decide (fat l i < fat l j)).length : Nat) : Int) < 1000000 by omega]
      simp [nats, ris, List.map_take, List.map_drop])
  rw [show (List.range l.length).map (fun i => fr (fat l i)) = l.map fr from (range_get l 0 fr).symm] at e
  simp [ris, nats] at e
  simp [runF, startE, lenLine, c_rising_places, enumD, nats, e]
end Cd

set_option linter.all false
set_option maxRecDepth 100000
namespace Cd
open PySem Z ZP Q
theorem s_rising_taps (k : Nat) (b : List Tap) (t : List Ob) (n m : Nat) (h : Bds n m b) (hm : m ≤ 4000) (hl : b.length ≤ 1000) : call T (k + 3) "rising_taps" [brd b] t = .ok (.lst (nats (rp b))) t := by
  rw [call_s fn_rising_taps]
  have e := s_rising_places k (b.map (·.2)) t m (fun q hq => by obtain ⟨x, hx, rfl⟩ := List.mem_map.mp hq; exact (h x hx).2) hm (by simpa using hl)
  rw [List.map_map, List.length_map] at e
  have c := compL_map (f := compF (prm T (call T (k + 2))) (.var 2) (.tup (.cons (.v 1) (.cons (.v 2) .nil))) (.bl true) [1, 2] [.val (brd b), .no, .no]) (t := t) (g := tp) (fr ∘ (·.2)) (l := b) (fun x hx => by simp [compF, wipeE, testE, turnE, tp])
  simp [runF, startE, lenLine, c_rising_taps, c, show b.length ≤ 1000000 by omega, e, rp]
/-! checks -/
theorem s_is_whole (k : Nat) (i : Int) (t : List Ob) : call T (k + 1) "is_whole" [.int i] t = .ok (.bl true) t := by
  rw [call_s fn_is_whole]
  simp [runF, startE, lenLine, c_is_whole, isiD]
theorem s_is_from (k : Nat) (i j : Int) (t : List Ob) : call T (k + 2) "is_from" [.int i, .int j] t = .ok (.bl (decide (j ≤ i))) t := by
  rw [call_s fn_is_from]
  simp [runF, startE, lenLine, c_is_from, cmpD, s_is_whole]
theorem s_is_tuple_up_to (k : Nat) (ds : List D) (a b : Int) (t : List Ob) : call T (k + 1) "is_tuple_up_to" [.tup ds, .int a, .int b] t = .ok (.bl (decide (a ≤ ds.length ∧ (ds.length : Int) ≤ b))) t := by
  rw [call_s fn_is_tuple_up_to]
  by_cases c : a ≤ ds.length
  · simp [runF, startE, lenLine, c_is_tuple_up_to, isiD, bltD, cmpD, c]
  · simp [runF, startE, lenLine, c_is_tuple_up_to, isiD, bltD, cmpD, c]
theorem s_is_tuple_of (k : Nat) (ds : List D) (a : Int) (t : List Ob) : call T (k + 2) "is_tuple_of" [.tup ds, .int a] t = .ok (.bl (decide ((ds.length : Int) = a))) t := by
  rw [call_s fn_is_tuple_of]
  have : (a ≤ ds.length ∧ (ds.length : Int) ≤ a) = ((ds.length : Int) = a) := propext ⟨fun h => by omega, fun h => by omega⟩
  simp [runF, startE, lenLine, c_is_tuple_of, s_is_tuple_up_to, this]
theorem s_is_pair (k : Nat) (ds : List D) (t : List Ob) : call T (k + 3) "is_pair" [.tup ds] t = .ok (.bl (decide ((ds.length : Int) = 2))) t := by
  rw [call_s fn_is_pair]
  simp [runF, startE, lenLine, c_is_pair, s_is_tuple_of]
theorem s_is_fraction_of (k : Nat) (q : Rat) (t : List Ob) : call T (k + 4) "is_fraction_of" [fr q] t = .ok (.bl true) t := by
  rw [call_s fn_is_fraction_of]
  have e1 := s_is_pair k [.int q.num, .int q.den] t
  have e2 := s_is_whole (k + 2) q.num t
  have e3 := s_is_from (k + 1) q.den 1 t
  have hp := q.den_pos
  have hr := q.reduced
  have hr : Nat.gcd q.num.natAbs q.den = 1 := hr
  simp at e1
  simp [runF, startE, lenLine, c_is_fraction_of, fr, idxD, e1, e2, e3, show (1 : Int) ≤ q.den by omega, bltD, cmpD, hr, D.plain, D.eqv]
theorem s_is_from_nought (k : Nat) (q : Rat) (t : List Ob) : call T (k + 5) "is_from_nought" [fr q] t = .ok (.bl (decide (0 ≤ q))) t := by
  rw [call_s fn_is_from_nought]
  simp [runF, startE, lenLine, c_is_from_nought, s_is_fraction_of, cmpD]
theorem num_pos (q : Rat) : (0 < q.num) = (0 < q) := by
  have h := @Rat.num_nonneg (-q)
  rw [Rat.neg_num] at h
  apply propext
  constructor
  · intro a; by_cases c : 0 < q
    · exact c
    · have := h.mpr (by grind); omega
  · intro a; by_cases c : 0 < q.num
    · exact c
    · have := h.mp (by omega); grind
theorem s_is_above_nought (k : Nat) (q : Rat) (t : List Ob) : call T (k + 5) "is_above_nought" [fr q] t = .ok (.bl (decide (0 < q))) t := by
  rw [call_s fn_is_above_nought]
  simp [runF, startE, lenLine, c_is_above_nought, s_is_fraction_of, cmpD, num_pos]
theorem s_is_tap (k : Nat) (x : Tap) (t : List Ob) : call T (k + 6) "is_tap" [tp x] t = .ok (.bl (decide (0 < x.1))) t := by
  rw [call_s fn_is_tap]
  have e1 := s_is_pair (k + 2) [fr x.1, fr x.2] t
  have e2 := s_is_above_nought k x.1 t
  have e3 := s_is_fraction_of (k + 1) x.2 t
  simp at e1
  by_cases c : 0 < x.1 <;> simp [runF, startE, lenLine, c_is_tap, tp, idxD, e1, e2, e3, c]
theorem bools_true {α : Type} (l : List α) : boolsD (l.map fun _ => D.bl true) = some (l.map fun _ => true) := by
  induction l with
  | nil => rfl
  | cons x l ih => simp [boolsD, ih]
theorem all_true {α : Type} (l : List α) : (l.map fun _ => true).all id = true := by simp
theorem s_is_board_of (k : Nat) (b : List Tap) (t : List Ob) (h : Pos b) (n : b ≠ []) (hl : b.length ≤ 8) : call T (k + 7) "is_board_of" [brd b] t = .ok (.bl true) t := by
  rw [call_s fn_is_board_of]
  have hp : 0 < b.length := List.length_pos_iff.mpr n
  have e1 := s_is_tuple_up_to (k + 5) (b.map tp) 1 8 t
  rw [decide_eq_true (by simp; omega)] at e1
  have c := compL_map (f := compF (prm T (call T (k + 6))) (.call "is_tap" (.cons (.var 1) .nil)) (.v 1) (.bl true) [1] [.val (brd b), .no]) (t := t) (g := tp) (fun _ => .bl true) (l := b) (fun x hx => by
    have := h x hx
    simp [compF, wipeE, testE, turnE, s_is_tap, this])
  have e2 : call T (k + 6) "is_tuple_up_to" [brd b, .int 1, .int 8] t = .ok (.bl true) t := e1
  simp [runF, startE, lenLine, c_is_board_of, e2, c, show b.length ≤ 1000000 by omega, bltD, bools_true]
theorem s_check_board (k : Nat) (b : List Tap) (t : List Ob) (h : Pos b) (n : b ≠ []) (hl : b.length ≤ 8) : call T (k + 8) "check_board" [brd b] t = .ok .non t := by
  rw [call_s fn_check_board]
  simp [runF, startE, lenLine, c_check_board, s_is_board_of k b t h n hl]
theorem s_check_fraction (k : Nat) (q : Rat) (t : List Ob) : call T (k + 5) "check_fraction" [fr q] t = .ok .non t := by
  rw [call_s fn_check_fraction]
  simp [runF, startE, lenLine, c_check_fraction, s_is_fraction_of]
theorem s_check_volume_from (k : Nat) (q : Rat) (t : List Ob) (h : 0 ≤ q) : call T (k + 6) "check_volume_from" [fr q] t = .ok .non t := by
  rw [call_s fn_check_volume_from]
  simp [runF, startE, lenLine, c_check_volume_from, s_is_from_nought, h]
theorem s_check_warmth (k : Nat) (b : List Tap) (q : Rat) (t : List Ob) (h : Pos b) (n : b ≠ []) (hl : b.length ≤ 8) : call T (k + 9) "check_warmth" [brd b, fr q] t = .ok .non t := by
  rw [call_s fn_check_warmth]
  simp [runF, startE, lenLine, c_check_warmth, s_check_board k b t h n hl, s_check_fraction (k + 3)]
theorem s_check_boards (k : Nat) (b o : List Tap) (t : List Ob) (h : Pos b) (n : b ≠ []) (hl : b.length ≤ 8) (h' : Pos o) (n' : o ≠ []) (hl' : o.length ≤ 8) : call T (k + 9) "check_boards" [brd b, brd o] t = .ok .non t := by
  rw [call_s fn_check_boards]
  simp [runF, startE, lenLine, c_check_boards, s_check_board k b t h n hl, s_check_board k o t h' n' hl']
/-! layers -/
def endD (x : Nat × Rat) : D := .tup [.int (x.1 : Int), fr x.2]
theorem endsF_h {b : List Tap} {n m : Nat} (h : Bds n m b) : ∀ (q : List Nat) (z : Rat) (j : Nat), (∀ i ∈ q, i < b.length) → sz z ≤ j → ∀ x ∈ endsF b q z, sz x.2 ≤ j + q.length * (n + 1)
  | [], _, _, _, _, x, hx => by cases hx
  | p :: q, z, j, hq, hz, x, hx => by
    have hp := hq p (by simp)
    have h1 := (h (tapAt b p) (by simp [tapAt, List.getD_eq_getElem?_getD, hp])).1
    have h2 := sz_add z (tapAt b p).1
    rcases List.mem_cons.mp hx with rfl | hx
    · simp; omega
    · have := endsF_h h q (z + (tapAt b p).1) (j + n + 1) (fun i hi => hq i (by simp [hi])) (by omega) x hx
      simp [Nat.add_mul] at this ⊢; omega
theorem tapAt_mem {b : List Tap} {i : Nat} (h : i < b.length) : tapAt b i ∈ b := by simp [tapAt, List.getD_eq_getElem?_getD, h]
theorem at_brd {b : List Tap} {i : Nat} (h : i < b.length) (t : List Ob) : idxD t (brd b) (.int (i : Int)) = some (tp (tapAt b i)) := by
  show L2.atI (b.map tp) (i : Int) = _
  rw [atN]; simp [tapAt, List.getD_eq_getElem?_getD, h]
/-- where the water ahead of the places ends -/
def sumP (b : List Tap) (p : List Nat) : Rat := tot (p.map (tapAt b))
theorem sumP_snoc (b : List Tap) (p : List Nat) (i : Nat) : sumP b (p ++ [i]) = sumP b p + (tapAt b i).1 := by
  simp [sumP, tot_app, tot_cons, tot_nil, Rat.add_zero]
theorem s_ends_of (k : Nat) (b : List Tap) (t : List Ob) (n m : Nat) (h : Bds n m b) (hn : n ≤ 900) (hm : m ≤ 4000) (hl : b.length ≤ 8) : call T (k + 4) "ends_of" [brd b] t = .ok (.lst ((ends b).map endD)) t := by
  rw [call_s fn_ends_of]
  have e1 := s_rising_taps k b t n m h hm (by omega)
  have lt : ∀ i ∈ rp b, i < b.length := fun i hi => by rw [(rp_perm b).mem_iff] at hi; simpa using hi
  have ll : (rp b).length = b.length := by rw [(rp_perm b).length_eq]; simp
  have e := forL_fold (f := bodyF (prm T (call T (k + 3))) (.v 1) (.cons (.mapp 2 (.tup (.cons (.var 1) (.cons (.var 3) .nil)))) (.cons (.set (.v 3) (.call "plus" (.cons (.var 3) (.cons (.idx (.idx (.var 0) (.var 1)) (.int 0)) .nil)))) .nil)))
    (g := fun (i : Nat) => .int (i : Int)) (l := rp b) (m := rp b)
    (st := fun p => ⟨[.val (brd b), lastS (fun (i : Nat) => .int (i : Int)) p, .own (.lst ((endsF b p 0).map endD)), .val (fr (sumP b p))], t⟩) (fun p x r e => by
      have hx := lt x (by rw [e]; simp)
      have hb := tapAt_mem hx
      have pl : p.length ≤ 8 := by have : (p ++ x :: r).length ≤ 8 := by rw [← e]; omega
                                   simp at this; omega
      have hs : sz (sumP b p) ≤ 1 + p.length * (n + 1) := by
        have := sz_sm (n := n) (l := (p.map (tapAt b)).map (·.1)) (fun q hq => by
          simp at hq
          obtain ⟨i, hi, rfl⟩ := hq
          exact (h _ (tapAt_mem (lt i (by rw [e]; simp [hi])))).1)
        simpa [sumP, tot] using this
      have : p.length * (n + 1) ≤ 8 * (n + 1) := Nat.mul_le_mul_right _ pl
      have h1 := (h _ hb).1
      have e2 := s_plus (k + 1) (sumP b p) (tapAt b x).1 t (by omega)
      have el : (endsF b p 0).length = p.length := by
        have : ∀ (p : List Nat) (z : Rat), (endsF b p z).length = p.length := fun p => by
          induction p with
          | nil => intro z; rfl
          | cons y p ih => intro z; simp [endsF, ih]
        exact this p 0
      have e3 : endsF b (p ++ [x]) 0 = endsF b p 0 ++ [(x, sumP b p)] := by rw [endsF_app, Rat.zero_add]; rfl
      simp [bodyF, S.own, el, show p.length < 1000000 by omega, at_brd hx, e2, e3, sumP_snoc, endD])
  simp [sumP, tot_nil, endsF] at e
  simp [runF, startE, lenLine, c_ends_of, fr0, e1, nats, e, ends]
end Cd

set_option linter.all false
set_option maxRecDepth 100000
namespace Cd
open PySem Z ZP Q
theorem Bd_cool {b : List Tap} {n m j i : Nat} {w s : Rat} (h : Bds n m b) (hw : sz w ≤ j) (hs : sz s ≤ i) : Bds n (m + (i + (j + m + 1)) + 1) (b.map (cool w s)) := fun x hx => by
  obtain ⟨y, hy, rfl⟩ := List.mem_map.mp hx
  have h1 := h y hy
  have a1 := sz_sub w y.2
  have a2 := sz_mul s (w - y.2)
  have a3 := sz_add y.2 (s * (w - y.2))
  exact ⟨h1.1, by show sz (y.2 + s * (w - y.2)) ≤ _; omega⟩
theorem s_cooled_by (k : Nat) (b : List Tap) (w s : Rat) (t : List Ob) (n m j i : Nat) (h : Bds n m b) (hw : sz w ≤ j) (hs : sz s ≤ i) (hl : b.length ≤ 8) (h0 : m + (i + (j + m + 1)) + 1 ≤ 9000) :
    call T (k + 3) "cooled_by" [brd b, fr w, fr s] t = .ok (brd (b.map (cool w s))) t := by
  rw [call_s fn_cooled_by]
  have c := compL_map (f := compF (prm T (call T (k + 2))) (.tup (.cons (.var 3) (.cons (.call "plus" (.cons (.var 4) (.cons (.call "times" (.cons (.var 2) (.cons (.call "minus" (.cons (.var 1) (.cons (.var 4) .nil))) .nil))) .nil))) .nil))) (.tup (.cons (.v 3) (.cons (.v 4) .nil))) (.bl true) [3, 4] [.val (brd b), .val (fr w), .val (fr s), .no, .no]) (t := t) (g := tp) (fun x => tp (cool w s x)) (l := b) (fun x hx => by
    have h1 := h x hx
    have a1 := sz_sub w x.2
    have a2 := sz_mul s (w - x.2)
    have e1 := s_minus k w x.2 t (by omega)
    have e2 := s_times k s (w - x.2) t (by omega)
    have e3 := s_plus k x.2 (s * (w - x.2)) t (by omega)
    simp [compF, wipeE, testE, turnE, tp, e1, e2, e3, cool])
  simp [runF, startE, lenLine, c_cooled_by, c, show b.length ≤ 1000000 by omega, bltD]
  simp [brd]
theorem s_is_less_any (k : Nat) (a b : Rat) (t : List Ob) (h : sz a + sz b ≤ 9000) : call T (k + 1) "is_less" [fr a, fr b] t = .ok (.bl (decide (a < b))) t := s_is_less k a b t h
theorem ends_sz {b : List Tap} {n m : Nat} (h : Bds n m b) (hl : b.length ≤ 8) : ∀ x ∈ ends b, sz x.2 ≤ 1 + 8 * (n + 1) ∧ x.1 < b.length := fun x hx => by
  have lt : ∀ i ∈ rp b, i < b.length := fun i hi => by rw [(rp_perm b).mem_iff] at hi; simpa using hi
  have ll : (rp b).length = b.length := by rw [(rp_perm b).length_eq]; simp
  have h1 := endsF_h h (rp b) 0 1 lt (by rw [sz_zero]; omega) x hx
  have : (rp b).length * (n + 1) ≤ 8 * (n + 1) := Nat.mul_le_mul_right _ (by omega)
  have h2 : ∀ (p : List Nat) (z : Rat), ∀ x ∈ endsF b p z, x.1 ∈ p := fun p => by
    induction p with
    | nil => intro z x hx; cases hx
    | cons y p ih =>
      intro z x hx
      rcases List.mem_cons.mp hx with rfl | hx
      · simp
      · exact List.mem_cons_of_mem _ (ih _ x hx)
  exact ⟨by omega, lt _ (h2 _ _ x hx)⟩
theorem s_layer_by (k : Nat) (b : List Tap) (v : Rat) (t : List Ob) (n m j : Nat) (h : Bds n m b) (hn : n ≤ 500) (hm : m ≤ 4000) (hl : b.length ≤ 8) (hb : b ≠ []) (hv : sz v ≤ j) (hj : j ≤ 4000) (h0 : 0 ≤ v) :
    call T (k + 5) "layer_by" [brd b, fr v] t = .ok (fr (lay b v)) t := by
  rw [call_s fn_layer_by]
  have e1 := s_ends_of k b t n m h (by omega) hm hl
  have z := ends_sz h hl
  have c := compL_filter (f := compF (prm T (call T (k + 4))) (.var 3) (.tup (.cons (.v 3) (.cons (.v 4) .nil))) (.not (.call "is_less" (.cons (.var 1) (.cons (.var 4) .nil)))) [3, 4] [.val (brd b), .val (fr v), .no, .no, .no]) (t := t) (g := endD) (fun x => !decide (v < x.2)) (fun x => .int (x.1 : Int)) (l := ends b) (fun x hx => by
    have e2 := s_is_less (k + 3) v x.2 t (by have := (z x hx).1; omega)
    by_cases q : v < x.2 <;> simp [compF, wipeE, testE, turnE, endD, e2, q])
  have ne := ends_ne (b := b) hb h0
  have l1 : (ends b).length ≤ 8 := by
    have : ∀ (p : List Nat) (z : Rat), (endsF b p z).length = p.length := fun p => by
      induction p with
      | nil => intro z; rfl
      | cons y p ih => intro z; simp [endsF, ih]
    have ll : (rp b).length = b.length := by rw [(rp_perm b).length_eq]; simp
    rw [show (ends b).length = (rp b).length from this _ _]; omega
  have l2 : ((ends b).filter fun x => !decide (v < x.2)).length ≤ 8 := Nat.le_trans (List.length_filter_le _ _) l1
  cases hx : ((ends b).filter fun x => !decide (v < x.2)).getLast? with
  | none => exact absurd (List.getLast?_eq_none_iff.mp hx) ne
  | some x =>
    have hm := (List.mem_filter.mp (List.mem_of_getLast? hx)).1
    have a1 : idxD t (.lst (((ends b).filter fun x => !decide (v < x.2)).map fun x => D.int (x.1 : Int))) (.int (-1)) = some (.int (x.1 : Int)) := by
      show L2.atI _ (-1) = _
      rw [at_last _ (by simpa using ne), List.getLast?_map, hx]; rfl
    have a2 : lay b v = (tapAt b x.1).2 := by simp only [lay, layF, hx]
    simp [runF, startE, lenLine, c_layer_by, e1, c, show ((ends b).filter fun x => !decide (v < x.2)).length ≤ 1000000 by omega, a1, at_brd (z x hm).2, a2]
theorem tot_sz {b : List Tap} {n m : Nat} (h : Bds n m b) (hl : b.length ≤ 8) : sz (tot b) ≤ 1 + 8 * (n + 1) := by
  have := sz_sm (n := n) (l := b.map (·.1)) (fun q hq => by obtain ⟨x, hx, rfl⟩ := List.mem_map.mp hq; exact (h x hx).1)
  have : (b.map (·.1)).length * (n + 1) ≤ 8 * (n + 1) := Nat.mul_le_mul_right _ (by simpa using hl)
  unfold tot
  omega
theorem tot_nn' {b : List Tap} (h : Pos b) : 0 ≤ tot b / 2 := by
  have := tot_nn h
  grind
theorem s_middle_by (k : Nat) (b : List Tap) (t : List Ob) (n m : Nat) (h : Bds n m b) (hn : n ≤ 400) (hm : m ≤ 4000) (hl : b.length ≤ 8) (hb : b ≠ []) (hp : Pos b) :
    call T (k + 6) "middle_by" [brd b] t = .ok (fr (lay b (tot b / 2))) t := by
  rw [call_s fn_middle_by]
  have z := tot_sz h hl
  have z2 : sz (2 : Rat) = 2 := by decide
  have e1 := s_total_of (k + 1) b t n m 8 h hl (by omega)
  have e2 := s_over (k + 3) (tot b) 2 t (by decide) (by omega)
  have e3 := s_layer_by k b (tot b / 2) t n m 4000 h (by omega) hm hl hb (by have := sz_div (tot b) 2; omega) (by omega) (tot_nn' hp)
  simp [runF, startE, lenLine, c_middle_by, e1, show D.tup [.int 2, .int 1] = fr 2 from rfl, e2, e3]
theorem filt_len {α : Type} {p : α → Bool} {l : List α} {n : Nat} (h : l.length ≤ n) : (l.filter p).length ≤ n := Nat.le_trans (List.length_filter_le _ _) h
theorem s_colder_by (k : Nat) (b : List Tap) (w : Rat) (t : List Ob) (n m j : Nat) (h : Bds n m b) (hn : n ≤ 900) (hm : m ≤ 4000) (hl : b.length ≤ 8) (hw : sz w ≤ j) (hj : j ≤ 4000) :
    call T (k + 4) "colder_by" [brd b, fr w] t = .ok (fr (cold b w)) t := by
  rw [call_s fn_colder_by]
  have c := compL_filter (f := compF (prm T (call T (k + 3))) (.var 2) (.tup (.cons (.v 2) (.cons (.v 3) .nil))) (.call "is_less" (.cons (.var 3) (.cons (.var 1) .nil))) [2, 3] [.val (brd b), .val (fr w), .no, .no]) (t := t) (g := tp) (fun x => decide (x.2 < w)) (fun x => fr x.1) (l := b) (fun x hx => by
    have e2 := s_is_less (k + 2) x.2 w t (by have := (h x hx).2; omega)
    by_cases q : x.2 < w <;> simp [compF, wipeE, testE, turnE, tp, e2, q])
  have e := s_sum_of' k (·.1) (b.filter fun x => decide (x.2 < w)) t n 8 (fun x hx => (h x (List.mem_filter.mp hx).1).1) (filt_len hl) (by omega)
  have l := filt_len (p := fun x => decide (x.2 < w)) hl
  simp [runF, startE, lenLine, c_colder_by, c, show (b.filter fun x => decide (x.2 < w)).length ≤ 1000000 by omega, e, cold, tot]
theorem s_cooled (k : Nat) (b : List Tap) (w s : Rat) (t : List Ob) (n m j i : Nat) (hp : Pos b) (hb : b ≠ []) (h : Bds n m b) (hw : sz w ≤ j) (hs : sz s ≤ i) (hl : b.length ≤ 8) (h0 : m + (i + (j + m + 1)) + 1 ≤ 8000) (s0 : 0 ≤ s) (s1 : s ≤ 1) :
    call T (k + 10) "cooled" [brd b, fr w, fr s] t = .ok (brd (b.map (cool w s))) t := by
  rw [call_s fn_cooled]
  have z1 : sz (1 : Rat) = 1 := by decide
  have e1 := s_check_warmth k b w t hp hb hl
  have e2 := s_is_from_nought (k + 4) s t
  have e3 := s_is_less (k + 8) 1 s t (by omega)
  have e4 := s_cooled_by (k + 6) b w s t n m j i h hw hs hl (by omega)
  have n1 : ¬ 1 < s := by grind
  simp [runF, startE, lenLine, c_cooled, e1, e2, s0, fr1, e3, n1, e4]
theorem s_layer (k : Nat) (b : List Tap) (v : Rat) (t : List Ob) (n m j : Nat) (hp : Pos b) (hb : b ≠ []) (h : Bds n m b) (hn : n ≤ 400) (hm : m ≤ 4000) (hl : b.length ≤ 8) (hv : sz v ≤ j) (hj : j ≤ 4000) (h0 : 0 ≤ v) :
    call T (k + 9) "layer" [brd b, fr v] t = if v < tot b then .ok (fr (lay b v)) t else .ex ⟨"Unfit", none⟩ t := by
  rw [call_s fn_layer]
  have z := tot_sz h hl
  have e1 := s_check_board k b t hp hb hl
  have e2 := s_check_volume_from (k + 2) v t h0
  have e3 := s_total_of (k + 4) b t n m 8 h hl (by omega)
  have e4 := s_is_less (k + 7) v (tot b) t (by omega)
  have e5 := s_layer_by (k + 3) b v t n m j h (by omega) hm hl hb hv hj h0
  by_cases c : v < tot b
  · simp [runF, startE, lenLine, c_layer, e1, e2, e3, e4, c, e5]
  · simp [runF, startE, lenLine, c_layer, e1, e2, e3, e4, c]
theorem s_middle (k : Nat) (b : List Tap) (t : List Ob) (n m : Nat) (hp : Pos b) (hb : b ≠ []) (h : Bds n m b) (hn : n ≤ 400) (hm : m ≤ 4000) (hl : b.length ≤ 8) :
    call T (k + 9) "middle" [brd b] t = .ok (fr (lay b (tot b / 2))) t := by
  rw [call_s fn_middle]
  have e1 := s_check_board k b t hp hb hl
  have e5 := s_middle_by (k + 2) b t n m h (by omega) hm hl hb hp
  simp [runF, startE, lenLine, c_middle, e1, e5]
theorem s_colder_volume (k : Nat) (b : List Tap) (w : Rat) (t : List Ob) (n m j : Nat) (hp : Pos b) (hb : b ≠ []) (h : Bds n m b) (hn : n ≤ 900) (hm : m ≤ 4000) (hl : b.length ≤ 8) (hw : sz w ≤ j) (hj : j ≤ 4000) :
    call T (k + 10) "colder_volume" [brd b, fr w] t = .ok (fr (cold b w)) t := by
  rw [call_s fn_colder_volume]
  have e1 := s_check_warmth k b w t hp hb hl
  have e5 := s_colder_by (k + 5) b w t n m j h (by omega) hm hl hw hj
  simp [runF, startE, lenLine, c_colder_volume, e1, e5]
/-! covers -/
def barD : Bar → D
  | .vol => .tup [.str (Str.ofString "volume")]
  | .above w => .tup [.str (Str.ofString "above"), fr w]
  | .below w => .tup [.str (Str.ofString "below"), fr w]
theorem s_bars_of (k : Nat) (b : List Tap) (t : List Ob) (hl : b.length ≤ 1000) : call T (k + 1) "bars_of" [brd b] t = .ok (.lst ((bars b).map barD)) t := by
  rw [call_s fn_bars_of]
  have e := forL_fold (f := bodyF (prm T (call T k)) (.tup (.cons (.v 2) (.cons (.v 3) .nil))) (.cons (.mext 1 (.lst (.cons (.tup (.cons (.con "ABOVE") (.cons (.var 3) .nil))) (.cons (.tup (.cons (.con "BELOW") (.cons (.var 3) .nil))) .nil)))) .nil))
    (g := tp) (l := b) (m := b)
    (st := fun p => ⟨[.val (brd b), .own (.lst ((bars p).map barD)), lastS (fun x => fr x.1) p, lastS (fun x => fr x.2) p], t⟩) (fun p x r e => by
      have pl : p.length ≤ 1000 := by have : (p ++ x :: r).length ≤ 1000 := by rw [← e]; omega
                                      simp at this; omega
      have l1 : (bars p).length = 1 + 2 * p.length := by
        have : ∀ q : List Tap, ((q.map fun x => [Bar.above x.2, Bar.below x.2]).flatten).length = 2 * q.length := fun q => by
          induction q with
          | nil => rfl
          | cons y q ih => simp only [List.map_cons, List.flatten_cons, List.length_append, ih, List.length_cons, List.length_nil]; omega
        simp only [bars, List.length_cons, this]; omega
      have l2 : bars (p ++ [x]) = bars p ++ [.above x.2, .below x.2] := by simp [bars]
      simp [bodyF, S.own, tp, l1, l2, show 1 + 2 * p.length + 2 ≤ 1000000 by omega, barD])
  simp [bars, barD] at e
  simp [runF, startE, lenLine, c_bars_of, e, bars, barD]
theorem s_is_text (k : Nat) (x : Str) (t : List Ob) : call T (k + 1) "is_text" [.str x] t = .ok (.bl true) t := by
  rw [call_s fn_is_text]
  simp [runF, startE, lenLine, c_is_text, isiD]
theorem s_is_named (k : Nat) (x y z : Str) (t : List Ob) (hx : (D.str x).plain 30 = true) (hy : (D.str y).plain 29 = true) (hz : (D.str z).plain 29 = true) : call T (k + 1) "is_named" [.str x, .tup [.str y, .str z]] t = .ok (.bl (y == x || z == x)) t := by
  rw [call_s fn_is_named]
  simp only [D.plain] at hx hy hz
  simp [runF, startE, lenLine, c_is_named, isiD, cmpD, inD, D.plain, plains, hx, hy, hz]
theorem s_is_bar (k : Nat) (b : Bar) (t : List Ob) : call T (k + 5) "is_bar" [barD b] t = .ok (.bl true) t := by
  rw [call_s fn_is_bar]
  have p1 := pl_volume 30
  have q1 : (D.str (Str.ofString "volume")).eqv (D.str (Str.ofString "volume")) = true := by decide +kernel
  have r0 := pl_above
  have r1 := pl_below
  cases b with
  | vol =>
    have e1 := s_is_tuple_of (k + 2) [.str (Str.ofString "volume")] 1 t
    simp at e1
    simp [runF, startE, lenLine, c_is_bar, barD, e1, idxD, s_is_text, cmpD, p1, q1]
  | above w =>
    have e1 := s_is_tuple_of (k + 2) [.str (Str.ofString "above"), fr w] 1 t
    have e2 := s_is_pair (k + 1) [.str (Str.ofString "above"), fr w] t
    have e3 := s_is_named (k + 3) (Str.ofString "above") (Str.ofString "above") (Str.ofString "below") t (r0 _) (r0 _) (r1 _)
    simp at e1 e2 e3
    simp [runF, startE, lenLine, c_is_bar, barD, e1, e2, e3, idxD, s_is_fraction_of]
  | below w =>
    have e1 := s_is_tuple_of (k + 2) [.str (Str.ofString "below"), fr w] 1 t
    have e2 := s_is_pair (k + 1) [.str (Str.ofString "below"), fr w] t
    have e3 := s_is_named (k + 3) (Str.ofString "below") (Str.ofString "above") (Str.ofString "below") t (r1 _) (r0 _) (r1 _)
    simp at e1 e2 e3
    simp [runF, startE, lenLine, c_is_bar, barD, e1, e2, e3, idxD, s_is_fraction_of]
/-- sizes for covers: both boards, the bar's warmth -/
structure CovSz (b o : List Tap) (n m n' m' j M : Nat) : Prop where
  hb : Bds n m b
  ho : Bds n' m' o
  lb : b.length ≤ 8
  lo : o.length ≤ M
  h1 : 8 * (n + m + j + 1 + 1) + (n + m + j + 1) + 1 ≤ 1000
  h2 : M * (n' + m' + j + 1 + 1) + (n' + m' + j + 1) + 1 ≤ 7900
theorem sz_smM {l : List Rat} {n M : Nat} (h : ∀ q ∈ l, sz q ≤ n) (hM : l.length ≤ M) : sz (sm l) ≤ 1 + M * (n + 1) := by
  have := sz_sm h
  have : l.length * (n + 1) ≤ M * (n + 1) := Nat.mul_le_mul_right _ hM
  omega
theorem tot_szM {b : List Tap} {n m M : Nat} (h : Bds n m b) (hl : b.length ≤ M) : sz (tot b) ≤ 1 + M * (n + 1) :=
  sz_smM (fun q hq => by obtain ⟨x, hx, rfl⟩ := List.mem_map.mp hq; exact (h x hx).1) (by simpa using hl)
theorem exc_szM {b : List Tap} {n m j M : Nat} {w : Rat} (h : Bds n m b) (hw : sz w ≤ j) (hl : b.length ≤ M) : sz (exc b w) ≤ 1 + M * (n + m + j + 1 + 1) :=
  sz_smM (fun q hq => by obtain ⟨x, hx, rfl⟩ := List.mem_map.mp hq; exact (exc_sz h hw x hx).2.2.1) (by simpa using hl)
theorem lck_szM {b : List Tap} {n m j M : Nat} {w : Rat} (h : Bds n m b) (hw : sz w ≤ j) (hl : b.length ≤ M) : sz (lck b w) ≤ 1 + M * (n + m + j + 1 + 1) :=
  sz_smM (fun q hq => by obtain ⟨x, hx, rfl⟩ := List.mem_map.mp hq; exact (exc_sz h hw x hx).2.2.2) (by simpa using hl)
def barW : Bar → Rat
  | .vol => 0
  | .above w => w
  | .below w => w
theorem s_does_part_by (k : Nat) (b o : List Tap) (x : Bar) (t : List Ob) (n m n' m' j M : Nat) (h : CovSz b o n m n' m' j M) (hx : sz (barW x) ≤ j) :
    call T (k + 6) "does_part_by" [brd b, brd o, barD x] t = .ok (.bl (parts b o x)) t := by
  rw [call_s fn_does_part_by]
  obtain ⟨hb, ho, lb, lo, h1, h2⟩ := h
  have e1 := s_is_bar k x t
  have p0 := pl_volume 30
  have p1 := pl_above 30
  have p2 := pl_below 30
  have q1 : (D.str (Str.ofString "volume")).eqv (D.str (Str.ofString "volume")) = true := by decide +kernel
  have q2 : (D.str (Str.ofString "above")).eqv (D.str (Str.ofString "volume")) = false := by decide +kernel
  have q3 : (D.str (Str.ofString "above")).eqv (D.str (Str.ofString "above")) = true := by decide +kernel
  have q4 : (D.str (Str.ofString "below")).eqv (D.str (Str.ofString "volume")) = false := by decide +kernel
  have q5 : (D.str (Str.ofString "below")).eqv (D.str (Str.ofString "above")) = false := by decide +kernel
  have mm : M * (n' + 1) ≤ M * (n' + m' + j + 1 + 1) := Nat.mul_le_mul_left _ (by omega)
  cases x with
  | vol =>
    have e2 := s_total_of (k + 1) b t n m 8 hb lb (by omega)
    have e3 := s_total_of (k + 1) o t n' m' M ho lo (by omega)
    have z1 := tot_szM hb lb
    have z2 := tot_szM ho lo
    have e4 := s_is_less (k + 4) (tot b) (tot o) t (by omega)
    simp only [barD] at e1
    simp [runF, startE, lenLine, c_does_part_by, barD, e1, idxD, cmpD, p0, q1, e2, e3, e4, parts]
  | above w =>
    have e2 := s_excess_of (k + 1) b w t n m j 8 hb hx lb (by omega) (by omega)
    have e3 := s_excess_of (k + 1) o w t n' m' j M ho hx lo (by omega) (by omega)
    have z1 := exc_szM hb hx lb
    have z2 := exc_szM ho hx lo
    simp only [barW] at z1 z2
    have e4 := s_is_less (k + 4) (exc b w) (exc o w) t (by omega)
    simp only [barD] at e1
    simp [runF, startE, lenLine, c_does_part_by, barD, e1, idxD, cmpD, p0, p1, q2, q3, e2, e3, e4, parts]
  | below w =>
    have e2 := s_lack_of (k + 1) b w t n m j 8 hb hx lb (by omega) (by omega)
    have e3 := s_lack_of (k + 1) o w t n' m' j M ho hx lo (by omega) (by omega)
    have z1 := lck_szM hb hx lb
    have z2 := lck_szM ho hx lo
    simp only [barW] at z1 z2
    have e4 := s_is_less (k + 4) (lck b w) (lck o w) t (by omega)
    simp only [barD] at e1
    simp [runF, startE, lenLine, c_does_part_by, barD, e1, idxD, cmpD, p0, p1, p2, q4, q5, e2, e3, e4, parts]
theorem bars_sz {b : List Tap} {n m j : Nat} (h : Bds n m b) (hm : m ≤ j) (hj : 0 < j) : ∀ x ∈ bars b, sz (barW x) ≤ j := fun x hx => by
  rcases List.mem_cons.mp hx with rfl | hx
  · simp [barW, sz_zero]; omega
  · obtain ⟨l, hl, hal⟩ := List.mem_flatten.mp hx
    obtain ⟨y, hy, rfl⟩ := List.mem_map.mp hl
    have := (h y hy).2
    simp at hal
    rcases hal with rfl | rfl <;> simp only [barW] <;> omega
theorem bars_len (b : List Tap) : (bars b).length = 1 + 2 * b.length := by
  have : ∀ q : List Tap, ((q.map fun x => [Bar.above x.2, Bar.below x.2]).flatten).length = 2 * q.length := fun q => by
    induction q with
    | nil => rfl
    | cons y q ih => simp only [List.map_cons, List.flatten_cons, List.length_append, ih, List.length_cons, List.length_nil]; omega
  simp only [bars, List.length_cons, this]; omega
theorem bar_plain (n : Nat) (x : Bar) : (barD x).plain (n + 2) = true := by
  cases x <;> simp only [barD, pl_tup, pls_cons, pls_nil, pl_volume, pl_above, pl_below, fr_plain, Bool.and_self, Bool.and_true]
theorem s_parting_by (k : Nat) (b o : List Tap) (t : List Ob) (n m n' m' j M : Nat) (h : CovSz b o n m n' m' j M) (hm : m ≤ j) (hj : 0 < j) :
    call T (k + 7) "parting_by" [brd b, brd o] t = .ok (match (bars b).filter (parts b o) with | [] => .non | x :: _ => barD x) t := by
  rw [call_s fn_parting_by]
  have lb := h.lb
  have e1 := s_bars_of (k + 5) b t (by omega)
  have c := compL_filter (f := compF (prm T (call T (k + 6))) (.var 3) (.v 3) (.call "does_part_by" (.cons (.var 0) (.cons (.var 1) (.cons (.var 3) .nil)))) [3] [.val (brd b), .val (brd o), .no, .no]) (t := t) (g := barD) (parts b o) barD (l := bars b) (fun x hx => by
    have e2 := s_does_part_by k b o x t n m n' m' j M h (bars_sz h.hb hm hj x hx)
    cases q : parts b o x <;> simp [compF, wipeE, testE, turnE, e2, q])
  have l := filt_len (p := parts b o) (n := 17) (by rw [bars_len b]; omega)
  have pl := pls_map (n := 29) (bar_plain 27) ((bars b).filter (parts b o))
  cases q : (bars b).filter (parts b o) with
  | nil =>
    rw [q] at c
    simp [runF, startE, lenLine, c_parting_by, e1, c, cmpD, pl_lst, pls_nil]
  | cons x r =>
    rw [q] at c l pl
    simp at l
    simp only [List.map_cons] at pl
    simp [runF, startE, lenLine, c_parting_by, e1, c, cmpD, pl_lst, pls_nil, pl, idxD, show r.length + 1 ≤ 1000000 by omega]
theorem barD_isNon (x : Bar) : (barD x).isNon = false := by cases x <;> rfl
theorem s_does_cover_by (k : Nat) (b o : List Tap) (t : List Ob) (n m n' m' j M : Nat) (h : CovSz b o n m n' m' j M) (hm : m ≤ j) (hj : 0 < j) [Decidable (Cov b o)] :
    call T (k + 8) "does_cover_by" [brd b, brd o] t = .ok (.bl (decide (Cov b o))) t := by
  rw [call_s fn_does_cover_by]
  have e := s_parting_by k b o t n m n' m' j M h hm hj
  by_cases q : Cov b o
  · rw [no_bar.mpr q] at e
    simp [runF, startE, lenLine, c_does_cover_by, e, cmpD, q, D.isNon]
  · cases z : (bars b).filter (parts b o) with
    | nil => exact absurd (no_bar.mp z) q
    | cons x r =>
      rw [z] at e
      simp [runF, startE, lenLine, c_does_cover_by, e, cmpD, q, barD_isNon]
theorem s_does_cover (k : Nat) (b o : List Tap) (t : List Ob) (n m n' m' j M : Nat) (h : CovSz b o n m n' m' j M) (hm : m ≤ j) (hj : 0 < j) (hp : Pos b) (hb : b ≠ []) (hp' : Pos o) (hb' : o ≠ []) (lo : o.length ≤ 8) [Decidable (Cov b o)] :
    call T (k + 10) "does_cover" [brd b, brd o] t = .ok (.bl (decide (Cov b o))) t := by
  rw [call_s fn_does_cover]
  have e1 := s_check_boards k b o t hp hb h.lb hp' hb' lo
  have e2 := s_does_cover_by (k + 1) b o t n m n' m' j M h hm hj
  simp [runF, startE, lenLine, c_does_cover, e1, e2]
end Cd

set_option linter.all false
set_option maxRecDepth 100000
namespace Cd
open PySem Z ZP Q
/-! the law's own fractions -/
theorem s_law_ratio (k : Nat) (a b : Int) (t : List Ob) (n : Nat) (hb : b ≠ 0) (h : b.natAbs < 2 ^ n) (hn : n ≤ 9000) : call T (k + 1) "_law_ratio" [.int a, .int b] t = .ok (fr (Rat.divInt a b)) t := by
  rw [call_s fn__law_ratio]
  have gp : 0 < Int.gcd a b := Int.gcd_pos_of_ne_zero_right a hb
  have gl : Int.gcd a b < 2 ^ n := Nat.lt_of_le_of_lt (Nat.le_of_dvd (by omega) (Int.natAbs_dvd_natAbs.mpr (Int.gcd_dvd_right a b))) h
  have gg : Nat.gcd a.natAbs b.natAbs = Int.gcd a b := rfl
  have ab : ∀ x : Int, (if x < 0 then -x else x) = (x.natAbs : Int) := fun x => by split <;> omega
  have z : szDiv (Int.gcd a b : Int) = true := szDiv_of (n := n) (by omega) (by rw [Int.natAbs_natCast]; exact gl) hn
  have w := euclid (c := ev (prm T (call T k)) (.cmp .gt (.var 3) (.int 0))) (f := evSs (prm T (call T k)) (.cons (.par (.cons (.v 2) (.cons (.v 3) .nil)) (.cons (.var 3) (.cons (.bin .mod (.blt .int (.cons (.var 2) .nil)) (.var 3)) .nil))) .nil))
    (st := fun x y => ⟨[.val (.int a), .val (.int b), .val (.int (x : Int)), .val (.int (y : Int))], t⟩) (fun x y => by simp [cmpD]) (fun x y hy => by simp [bltD, mod_nat, show y ≠ 0 by omega]) n a.natAbs b.natAbs 200000 h (by omega)
  rw [gg] at w
  by_cases hp : 0 < b
  · have e := divInt_fr (a := a) hb (g := (Int.gcd a b : Int)) (by rw [if_pos hp])
    simp [runF, startE, lenLine, c__law_ratio, bltD, ab, w, hp, z, e]
  · have e := divInt_fr' (a := a) (b := b) (by omega)
    simp only [Int.zero_sub] at e
    simp [runF, startE, lenLine, c__law_ratio, bltD, ab, w, hp, z, e]
theorem s_law_plus (k : Nat) (a b : Rat) (t : List Ob) (h : sz a + sz b ≤ 9000) : call T (k + 2) "_law_plus" [fr a, fr b] t = .ok (fr (a + b)) t := by
  rw [call_s fn__law_plus]
  have e := s_law_ratio k (a.num * b.den + b.num * a.den) (a.den * b.den) t (sz a + sz b) (dd_ne a b) (dd_lt a b) h
  rw [add_di] at e
  simp [runF, startE, lenLine, c__law_plus, mu_nd (a := a) (b := b) (by omega), mu_nd (a := b) (b := a) (by omega), mu_dd (a := a) (b := b) (by omega), e]
theorem s_law_less (k : Nat) (a b : Rat) (t : List Ob) (h : sz a + sz b ≤ 9000) : call T (k + 2) "_law_less" [fr a, fr b] t = .ok (fr (a - b)) t := by
  rw [call_s fn__law_less]
  have e := s_law_ratio k (a.num * b.den - b.num * a.den) (a.den * b.den) t (sz a + sz b) (dd_ne a b) (dd_lt a b) h
  rw [sub_di] at e
  simp [runF, startE, lenLine, c__law_less, mu_nd (a := a) (b := b) (by omega), mu_nd (a := b) (b := a) (by omega), mu_dd (a := a) (b := b) (by omega), e]
theorem s_law_times (k : Nat) (a b : Rat) (t : List Ob) (h : sz a + sz b ≤ 9000) : call T (k + 2) "_law_times" [fr a, fr b] t = .ok (fr (a * b)) t := by
  rw [call_s fn__law_times]
  have e := s_law_ratio k (a.num * b.num) (a.den * b.den) t (sz a + sz b) (dd_ne a b) (dd_lt a b) h
  rw [mul_di] at e
  simp [runF, startE, lenLine, c__law_times, mu_nn (a := a) (b := b) (by omega), mu_dd (a := a) (b := b) (by omega), e]
/-- the other one as it was told, two small numbers -/
theorem s_law_times_raw (k : Nat) (a : Rat) (i j : Int) (t : List Ob) (h : sz a ≤ 8900) (hi : i.natAbs < 2 ^ 20) (hj : j.natAbs < 2 ^ 20) (j0 : j ≠ 0) : call T (k + 2) "_law_times" [fr a, .tup [.int i, .int j]] t = .ok (fr (a * Rat.divInt i j)) t := by
  rw [call_s fn__law_times]
  have l2 : ((a.den : Int) * j).natAbs < 2 ^ (sz a + 20) := by
    rw [Int.natAbs_mul, Nat.pow_add]; exact Nat.mul_lt_mul'' (de_lt a) hj
  have e := s_law_ratio k (a.num * i) (a.den * j) t (sz a + 20) (Int.mul_ne_zero (by have := a.den_pos; omega) j0) l2 (by omega)
  rw [← Rat.divInt_mul_divInt, Rat.num_divInt_den] at e
  simp [runF, startE, lenLine, c__law_times, szMul_of (nu_lt a) hi (by omega) (sz_pos a) (by omega), szMul_of (de_lt a) hj (by omega) (sz_pos a) (by omega), e]
theorem s_law_over (k : Nat) (a b : Rat) (t : List Ob) (hb : b ≠ 0) (h : sz a + sz b ≤ 9000) : call T (k + 2) "_law_over" [fr a, fr b] t = .ok (fr (a / b)) t := by
  rw [call_s fn__law_over]
  have e := s_law_ratio k (a.num * b.den) (a.den * b.num) t (sz a + sz b) (dn_ne a hb) (dn_lt a b) h
  rw [div_di] at e
  simp [runF, startE, lenLine, c__law_over, mu_nd (a := a) (b := b) (by omega), mu_dn (a := a) (b := b) (by omega), e]
theorem s_law_is_less (k : Nat) (a b : Rat) (t : List Ob) (h : sz a + sz b ≤ 9000) : call T (k + 1) "_law_is_less" [fr a, fr b] t = .ok (.bl (decide (a < b))) t := by
  rw [call_s fn__law_is_less]
  simp [runF, startE, lenLine, c__law_is_less, mu_nd (a := a) (b := b) (by omega), mu_nd (a := b) (b := a) (by omega), lt_di]
theorem s_law_sum (k : Nat) (l : List Rat) (t : List Ob) (n M : Nat) (h : ∀ q ∈ l, sz q ≤ n) (hM : l.length ≤ M) (hl : M * (n + 1) + n + 1 ≤ 9000) : call T (k + 3) "_law_sum" [.lst (l.map fr)] t = .ok (fr (sm l)) t := by
  rw [call_s fn__law_sum]
  have e := sum_for (f := bodyF (prm T (call T (k + 2))) (.v 2) (.cons (.set (.v 1) (.call "_law_plus" (.cons (.var 1) (.cons (.var 2) .nil)))) .nil)) (l := l) (L := .val (.lst (l.map fr))) (t := t) (n := n) h hM hl (fun a b o ho => by
    have e := s_law_plus k a b t ho
    simp [bodyF, e])
  simp [runF, startE, lenLine, c__law_sum, fr0, e]
theorem s_law_sum' {α : Type} (k : Nat) (f : α → Rat) (l : List α) (t : List Ob) (n M : Nat) (h : ∀ x ∈ l, sz (f x) ≤ n) (hM : l.length ≤ M) (hl : M * (n + 1) + n + 1 ≤ 9000) : call T (k + 3) "_law_sum" [.lst (l.map fun x => fr (f x))] t = .ok (fr (sm (l.map f))) t := by
  have := s_law_sum k (l.map f) t n M (fun q hq => by obtain ⟨x, hx, rfl⟩ := List.mem_map.mp hq; exact h x hx) (by simpa using hM) hl
  simpa [List.map_map, Function.comp_def] using this
theorem s_law_total (k : Nat) (b : List Tap) (t : List Ob) (n m M : Nat) (h : Bds n m b) (hM : b.length ≤ M) (hl : M * (n + 1) + n + 1 ≤ 9000) : call T (k + 4) "_law_total" [brd b] t = .ok (fr (tot b)) t := by
  rw [call_s fn__law_total]
  have e := s_law_sum' k (·.1) b t n M (fun x hx => (h x hx).1) hM hl
  have c := compL_map (f := compF (prm T (call T (k + 3))) (.var 1) (.tup (.cons (.v 1) (.cons (.v 2) .nil))) (.bl true) [1, 2] [.val (brd b), .no, .no]) (t := t) (g := tp) (fun x => fr x.1) (l := b) (fun x hx => by simp [compF, wipeE, testE, turnE, tp])
  have l := len_le hl
  simp [runF, startE, lenLine, c__law_total, c, show b.length ≤ 1000000 by omega, e, tot]
/-! draws -/
/-- the pool: its numbers' bounds -/
def PoolAt (n c : Nat) (t : List Ob) : Prop := ∃ a b d : Int, t[n]? = some (.lst [.int a, .int b, .int d]) ∧ 0 ≤ b ∧ b < 2 ^ 31 ∧ 0 ≤ d ∧ d ≤ c
end Cd

set_option linter.all false
set_option maxRecDepth 100000
namespace Cd
open PySem Z ZP Q
theorem szm {i j : Int} {m n : Nat} (h1 : i.natAbs < 2 ^ m) (h2 : j.natAbs < 2 ^ n) (h : m + n ≤ 1000000) (hm : 0 < m) (hn : 0 < n) : szMul i j = true := szMul_of h1 h2 h hm hn
theorem s_law_below (k n c : Nat) (m : Int) (t : List Ob) (hp : PoolAt n c t) (hc : c ≤ 2 ^ 40) (m0 : 0 < m) (m1 : m < 2 ^ 60) : ∃ (r : Int) (t' : List Ob), call T (k + 1) "_law_below" [.ref n, .int m] t = .ok (.int r) t' ∧ 0 ≤ r ∧ r < m ∧ PoolAt n (c + 1) t' := by
  rw [call_s fn__law_below]
  obtain ⟨a, b, d, e, b0, b1, d0, d1⟩ := hp
  have nl : n < t.length := (List.getElem?_eq_some_iff.mp e).1
  have g : ∀ x, (t.set n x)[n]? = some x := fun x => by simp [nl]
  have zm : szDiv m = true := szDiv_of (n := 60) (by omega) (by omega) (by omega)
  have fm : ∀ x : Int, x.fmod m = x % m := fun x => Int.fmod_eq_emod_of_nonneg x (by omega)
  by_cases q : 0 < a
  · refine ⟨a % m, t.set n (.lst [.int (a.fdiv m), .int b, .int d]), ?_, Int.emod_nonneg _ (by omega), Int.emod_lt_of_pos _ m0, _, _, _, g _, b0, b1, d0, by omega⟩
    simp [runF, startE, lenLine, c__law_below, ix_ref e, e, q, show m ≠ 0 by omega, fm, zm, L2.ixN]
  · have x0 := Int.emod_nonneg (b * 224085 + (d + 1) * 217047 + 5) (b := 2147483647) (by omega)
    have x1 := Int.emod_lt_of_pos (b * 224085 + (d + 1) * 217047 + 5) (b := 2147483647) (by omega)
    generalize hx : (b * 224085 + (d + 1) * 217047 + 5) % 2147483647 = x at x0 x1
    have y0 := Int.emod_nonneg x (b := 4093) (by omega)
    have y1 := Int.emod_lt_of_pos x (b := 4093) (by omega)
    have u0 := Int.emod_nonneg (x * (x % 4093 + 779107) + (d + 1)) (b := 2147483563) (by omega)
    have u1 := Int.emod_lt_of_pos (x * (x % 4093 + 779107) + (d + 1)) (b := 2147483563) (by omega)
    have z1 : szMul b 224085 = true := szm (m := 31) (n := 18) (by omega) (by decide) (by omega) (by omega) (by omega)
    have z2 : szMul (d + 1) 217047 = true := szm (m := 42) (n := 18) (by omega) (by decide) (by omega) (by omega) (by omega)
    have z3 : szMul x (x % 4093 + 779107) = true := szm (m := 32) (n := 22) (by omega) (by omega) (by omega) (by omega) (by omega)
    have z4 : szDiv 61 = true := by decide
    refine ⟨((x * (x % 4093 + 779107) + (d + 1)) % 2147483563 / 61) % m, t.set n (.lst [.int a, .int ((x * (x % 4093 + 779107) + (d + 1)) % 2147483563), .int (d + 1)]), ?_, Int.emod_nonneg _ (by omega), Int.emod_lt_of_pos _ m0, _, _, _, g _, u0, by omega, by omega, by omega⟩
    simp [runF, startE, lenLine, c__law_below, ix_ref e, ix_ref (g _), e, g, q, show m ≠ 0 by omega, fm, zm, z1, z2, z3, z4, L2.ixN, L2.atI, hx]
end Cd

set_option linter.all false
set_option maxRecDepth 100000
namespace Cd
open PySem Z ZP Q
theorem s_law_one (k n c : Nat) (ds : List D) (t : List Ob) (hp : PoolAt n c t) (hc : c ≤ 2 ^ 40) (h0 : ds ≠ []) (hl : ds.length ≤ 1000) : ∃ (d : D) (t' : List Ob), call T (k + 2) "_law_one" [.ref n, .tup ds] t = .ok d t' ∧ d ∈ ds ∧ PoolAt n (c + 1) t' := by
  have l0 : 0 < ds.length := List.length_pos_iff.mpr h0
  obtain ⟨r, t1, e1, r0, r1, p1⟩ := s_law_below k n c ds.length t hp hc (by omega) (by omega)
  have hr : r.toNat < ds.length := by omega
  refine ⟨ds[r.toNat], t1, ?_, List.getElem_mem hr, p1⟩
  rw [call_s fn__law_one]
  have hx : L2.atI ds r = some ds[r.toNat] := by
    have := atN ds r.toNat
    rw [show ((r.toNat : Nat) : Int) = r by omega] at this
    rw [this]; simp [hr]
  simp [runF, startE, lenLine, c__law_one, e1, hx]
theorem s_law_part (k n c : Nat) (t : List Ob) (hp : PoolAt n c t) (hc : c ≤ 2 ^ 40) : ∃ (p : Int) (t' : List Ob), call T (k + 2) "_law_one" [.ref n, .tup [.int 1, .int 1, .int 2, .int 3]] t = .ok (.int p) t' ∧ 1 ≤ p ∧ p ≤ 3 ∧ PoolAt n (c + 1) t' := by
  obtain ⟨d, t1, e1, m1, p1⟩ := s_law_one k n c [.int 1, .int 1, .int 2, .int 3] t hp hc (by simp) (by simp)
  simp only [List.mem_cons, List.not_mem_nil, or_false] at m1
  rcases m1 with rfl | rfl | rfl | rfl <;> exact ⟨_, t1, e1, by omega, by omega, p1⟩
theorem s_law_flow (k n c : Nat) (t : List Ob) (hp : PoolAt n c t) (hc : c + 2 ≤ 2 ^ 40) : ∃ (q : Rat) (t' : List Ob), call T (k + 3) "_law_flow" [.ref n] t = .ok (fr q) t' ∧ 0 < q ∧ sz q ≤ 4 ∧ PoolAt n (c + 2) t' := by
  obtain ⟨p, t1, e1, q1, q2, p1⟩ := s_law_part k n c t hp (by omega)
  obtain ⟨r, t2, e2, r0, r1, p2⟩ := s_law_below (k + 1) n (c + 1) (5 * p) t1 p1 (by omega) (by omega) (by omega)
  have e3 := s_law_ratio (k + 1) (1 + r) p t2 4 (by omega) (by omega) (by omega)
  refine ⟨Rat.divInt (1 + r) p, t2, ?_, divInt_pos (by omega) (by omega), sz_divInt (by omega) (by omega) (by omega), p2⟩
  rw [call_s fn__law_flow]
  have z : szMul 5 p = true := szm (m := 3) (n := 2) (by omega) (by omega) (by omega) (by omega) (by omega)
  simp [runF, startE, lenLine, c__law_flow, e1, z, e2, e3]
theorem s_law_fraction (k n c : Nat) (lo hi : Int) (t : List Ob) (hp : PoolAt n c t) (hc : c + 2 ≤ 2 ^ 40) (h1 : -100 ≤ lo) (h2 : lo ≤ hi) (h3 : hi ≤ 100) : ∃ (q : Rat) (t' : List Ob), call T (k + 3) "_law_fraction" [.ref n, .int lo, .int hi] t = .ok (fr q) t' ∧ sz q ≤ 9 ∧ PoolAt n (c + 2) t' := by
  obtain ⟨p, t1, e1, q1, q2, p1⟩ := s_law_part k n c t hp (by omega)
  have b1 : 0 ≤ (hi - lo) * p := Int.mul_nonneg (by omega) (by omega)
  have b2 : (hi - lo) * p ≤ 200 * 3 := Int.mul_le_mul (by omega) q2 (by omega) (by omega)
  obtain ⟨r, t2, e2, r0, r1, p2⟩ := s_law_below (k + 1) n (c + 1) ((hi - lo) * p + 1) t1 p1 (by omega) (by omega) (by omega)
  have l1 : lo * p ≤ 100 * p := Int.mul_le_mul_of_nonneg_right (by omega) (by omega)
  have l2 : -100 * p ≤ lo * p := Int.mul_le_mul_of_nonneg_right h1 (by omega)
  have l3 : hi * p ≤ 100 * p := Int.mul_le_mul_of_nonneg_right h3 (by omega)
  have l4 : lo * p + (hi - lo) * p = hi * p := by rw [← Int.add_mul]; congr 1; omega
  have e3 := s_law_ratio (k + 1) (lo * p + r) p t2 9 (by omega) (by omega) (by omega)
  refine ⟨Rat.divInt (lo * p + r) p, t2, ?_, sz_divInt (by omega) (by omega) (by omega), p2⟩
  rw [call_s fn__law_fraction]
  have z1 : szMul lo p = true := szm (m := 7) (n := 2) (by omega) (by omega) (by omega) (by omega) (by omega)
  have z2 : szMul (hi - lo) p = true := szm (m := 8) (n := 2) (by omega) (by omega) (by omega) (by omega) (by omega)
  simp [runF, startE, lenLine, c__law_fraction, e1, z1, z2, e2, e3]
/-- a drawn board -/
structure Brd (most : Nat) (b : List Tap) : Prop where
  pos : Pos b
  bd : Bds 4 9 b
  ne : b ≠ []
  len : b.length ≤ most
theorem s_law_board (k n c : Nat) (most : Nat) (t : List Ob) (hp : PoolAt n c t) (hc : c + 100 ≤ 2 ^ 40) (m0 : 0 < most) (m1 : most ≤ 8) : ∃ (b : List Tap) (t' : List Ob) (c' : Nat), call T (k + 4) "_law_board" [.ref n, .int most] t = .ok (brd b) t' ∧ Brd most b ∧ PoolAt n c' t' ∧ c' ≤ c + 40 := by
  obtain ⟨d, t1, e1, m2, p1⟩ := s_law_one (k + 1) n c [.int 2, .int 6, .int 9] t hp (by omega) (by simp) (by simp)
  have ⟨wd, hw, w1, w2⟩ : ∃ wd : Int, d = .int wd ∧ 2 ≤ wd ∧ wd ≤ 9 := by
    simp only [List.mem_cons, List.not_mem_nil, or_false] at m2
    rcases m2 with rfl | rfl | rfl <;> exact ⟨_, rfl, by omega, by omega⟩
  subst hw
  obtain ⟨r, t2, e2, r0, r1, p2⟩ := s_law_below (k + 2) n (c + 1) most t1 p1 (by omega) (by omega) (by omega)
  obtain ⟨xs, t3, e3, p3, l3, x3⟩ := compL_ix (I := fun i t => PoolAt n (c + 2 + 4 * i) t) (R := fun _ x => ∃ a : Tap, x = tp a ∧ 0 < a.1 ∧ sz a.1 ≤ 4 ∧ sz a.2 ≤ 9)
    (f := compF (prm T (call T (k + 3))) (.tup (.cons (.call "_law_flow" (.cons (.var 0) .nil)) (.cons (.call "_law_fraction" (.cons (.var 0) (.cons (.neg (.int 2)) (.cons (.var 2) .nil)))) .nil))) (.v 3) (.bl true) [3] [.val (.ref n), .val (.int most), .val (.int wd), .no])
    (l := rangeD 0 (1 + r)) p2 (fun i d t hi hp => by
      have hl := (List.getElem?_eq_some_iff.mp hi).1
      rw [rngD_len] at hl
      obtain ⟨q, t4, e4, q4, s4, p4⟩ := s_law_flow k n (c + 2 + 4 * i) t hp (by omega)
      obtain ⟨q', t5, e5, s5, p5⟩ := s_law_fraction k n (c + 2 + 4 * i + 2) (-2) wd t4 p4 (by omega) (by omega) (by omega) (by omega)
      exact ⟨tp (q, q'), t5, by simp [compF, wipeE, testE, turnE, e4, e5, tp], by rw [show c + 2 + 4 * (i + 1) = c + 2 + 4 * i + 2 + 2 by omega]; exact p5, (q, q'), rfl, q4, s4, s5⟩)
  obtain ⟨b, rfl, hb⟩ := exists_map (g := tp) (P := fun a => 0 < a.1 ∧ sz a.1 ≤ 4 ∧ sz a.2 ≤ 9) (xs := xs) (fun x hx => by
    obtain ⟨i, hi, rfl⟩ := List.getElem_of_mem hx
    exact x3 i _ (List.getElem?_eq_getElem hi))
  rw [List.length_map, rngD_len] at l3
  rw [rngD_len] at p3
  refine ⟨b, t3, _, ?_, ⟨fun x hx => (hb x hx).1, fun x hx => (hb x hx).2, fun z => by subst z; simp at l3; omega, by omega⟩, p3, by omega⟩
  rw [call_s fn__law_board]
  have zr : szRng (1 + r) = true := by simp [szRng]; omega
  simp [runF, startE, lenLine, c__law_board, e1, e2, zr, e3, show b.length ≤ 1000000 by omega, brd]
end Cd

set_option linter.all false
set_option maxRecDepth 100000
namespace Cd
open PySem Z ZP Q
/-! the law's side: a dict -/
def kk (w : Rat) : List Int := [w.num, (w.den : Int)]
theorem kk_inj {a b : Rat} : kk a = kk b ↔ a = b := by
  constructor
  · intro h
    simp only [kk, List.cons.injEq, and_true] at h
    exact Rat.ext h.1 (by omega)
  · rintro rfl; rfl
def kvs (g : Grp) : List (List Int × D) := g.map fun p => (kk p.1, fr p.2)
@[simp] theorem keyD_fr (q : Rat) : keyD (fr q) = some (kk q) := rfl
theorem keyOf_kk (q : Rat) : keyOf (kk q) = fr q := rfl
theorem kvs_put (w v : Rat) : ∀ g : Grp, putT (kvs g) (kk w) (fr v) = kvs (setG g w v)
  | [] => rfl
  | (u, x) :: g => by
    have ih := kvs_put w v g
    unfold kvs at ih ⊢
    by_cases h : u = w
    · subst h; simp [putT, setG]
    · have : kk u ≠ kk w := fun z => h (kk_inj.mp z)
      simp only [List.map_cons, putT, setG]
      rw [if_neg this, if_neg h, ih, List.map_cons]
theorem kvs_get (w : Rat) : ∀ g : Grp, ((kvs g).lookup (kk w)).getD (fr 0) = fr (getG g w)
  | [] => rfl
  | (u, x) :: g => by
    have ih := kvs_get w g
    rw [get_cons]
    unfold kvs at ih ⊢
    by_cases h : w = u
    · subst h; simp [List.lookup]
    · have : (kk w == kk u) = false := by
        have : kk w ≠ kk u := fun z => h (kk_inj.mp z)
        simpa using this
      simp only [List.map_cons, List.lookup, this]
      rw [if_neg h, ih]
theorem kvs_at {g : Grp} {p : Rat × Rat} (hn : (keys g).Nodup) (h : p ∈ g) : (kvs g).lookup (kk p.1) = some (fr p.2) := by
  have e := kvs_get p.1 g
  rw [get_mem hn p h] at e
  cases q : (kvs g).lookup (kk p.1) with
  | some d => rw [q] at e; simp at e; rw [e]
  | none =>
    exfalso
    have : ∀ {g : Grp}, p ∈ g → (kvs g).lookup (kk p.1) ≠ none := fun {g} => by
      induction g with
      | nil => intro h; cases h
      | cons y g ih =>
        intro h z
        unfold kvs at z ih
        rw [List.map_cons] at z
        by_cases c : kk p.1 = kk y.1
        · simp [List.lookup, c] at z
        · have cb : (kk p.1 == kk y.1) = false := by simpa using c
          simp only [List.lookup, cb] at z
          rcases List.mem_cons.mp h with rfl | h
          · exact c rfl
          · exact ih h z
    exact this h q
theorem kvs_drop (w : Rat) (g : Grp) : (kvs g).filter (fun p => !(p.1 == kk w)) = kvs (dropG g w) := by
  unfold kvs dropG
  rw [List.filter_map]
  congr 1
  apply List.filter_congr
  intro p _
  by_cases h : p.1 = w
  · simp [h]
  · have : kk p.1 ≠ kk w := fun z => h (kk_inj.mp z)
    simp [h, this]
theorem kvs_len (g : Grp) : (kvs g).length = g.length := by simp [kvs]
theorem bools_map {α : Type} (p : α → Bool) : ∀ l : List α, boolsD (l.map fun x => D.bl (p x)) = some (l.map p)
  | [] => rfl
  | x :: l => by simp [boolsD, bools_map p l]
def rowD (p : Rat × Rat) : D := .tup [fr p.1, fr p.2]
theorem s_side_put (k : Nat) (b : List Tap) (t : List Ob) (n m : Nat) (h : Bds n m b) (hl : b.length ≤ 8) (hn : n ≤ 900) :
    forL (bodyF (prm T (call T (k + 2))) (.tup (.cons (.v 4) (.cons (.v 5) .nil))) (.cons (.mput 1 (.var 5) (.call "_law_plus" (.cons (.var 4) (.cons (.mget 1 (.var 5) (.tup (.cons (.int 0) (.cons (.int 1) .nil)))) .nil)))) .nil)) (b.map tp)
      ⟨[.val (brd b), .own (.dT []), .no, .no, .no, .no, .no, .no], t⟩ = .nx ⟨[.val (brd b), .own (.dT (kvs (grp b))), .no, .no, lastS (fun x : Tap => fr x.1) b, lastS (fun x : Tap => fr x.2) b, .no, .no], t⟩ := by
  refine forL_fold (g := tp) (l := b) (m := b) (st := fun p => ⟨[.val (brd b), .own (.dT (kvs (grp p))), .no, .no, lastS (fun x : Tap => fr x.1) p, lastS (fun x : Tap => fr x.2) p, .no, .no], t⟩) (fun p x r e => ?_)
  have pl : p.length ≤ 8 := by have : (p ++ x :: r).length ≤ 8 := by rw [← e]; omega
                               simp at this; omega
  have hx := h x (by rw [e]; simp)
  have s1 : sz (getG (grp p) x.2) ≤ 1 + 8 * (n + 1) := by
    rw [grp_get]
    have := sz_smM (n := n) (M := 8) (l := (p.filter fun y => decide (y.2 = x.2)).map (·.1)) (fun q hq => by
      obtain ⟨y, hy, rfl⟩ := List.mem_map.mp hq
      exact (h y (by rw [e]; simp [(List.mem_filter.mp hy).1])).1) (by rw [List.length_map]; exact filt_len pl)
    exact this
  have e1 := s_law_plus k x.1 (getG (grp p) x.2) t (by omega)
  have l1 := grp_len p
  have gg := kvs_get x.2 (grp p)
  simp [bodyF, tp, S.dob, S.dct, fr0, gg, e1, kvs_put, kvs_len, show (grp p).length < 1000000 by omega, grp_snoc]
theorem s_side_sel (k : Nat) (b : List Tap) (t : List Ob) (L : Sl) (A B : Sl) : ∀ (n i : Nat) (g r : Grp) (o3 o6 o7 : Sl), (keys g).Nodup → g.length = n → n ≤ 8 → r.length + n ≤ 8 → (∀ p ∈ g, sz p.1 ≤ 4000) →
    ∃ u3 u6 u7, forL (bodyF (prm T (call T (k + 2))) (.v 3) (.cons (.set (.v 6) (.idx (.lkd 1 (.comp (.var 5) (.v 5) (.mk 1) (.not (.blt .any (.cons (.comp (.call "_law_is_less" (.cons (.var 7) (.cons (.var 5) .nil))) (.v 7) (.mk 1) (.bl true) [7]) .nil))) [5])) (.int 0))) (.cons (.mapp 2 (.tup (.cons (.var 6) (.cons (.mpopk 1 (.var 6)) .nil)))) .nil))) ((List.range' i n).map fun (j : Nat) => D.int (j : Int))
      ⟨[L, .own (.dT (kvs g)), .own (.lst (r.map rowD)), o3, A, B, o6, o7], t⟩ = .nx ⟨[L, .own (.dT []), .own (.lst ((r ++ sel n g).map rowD)), u3, A, B, u6, u7], t⟩
  | 0, i, g, r, o3, o6, o7, _, hl, _, _, _ => by
    have : g = [] := List.length_eq_zero_iff.mp hl
    subst this
    exact ⟨o3, o6, o7, by simp [forL, kvs, sel]⟩
  | n + 1, i, g, r, o3, o6, o7, hn, hl, hle, hr, hs => by
    obtain ⟨p, e, hp, hm⟩ := minG_some (g := g) (fun z => by subst z; simp at hl)
    have d1 := drop_keys p.1 hn
    have d2 := drop_len (w := p.1) hn (List.mem_map.mpr ⟨p, hp, rfl⟩)
    obtain ⟨u3, u6, u7, ih⟩ := s_side_sel k b t L A B n (i + 1) (dropG g p.1) (r ++ [p]) (.val (.int (i : Int))) (.val (fr p.1)) o7 d1 (by omega) (by omega) (by simp; omega) (fun q hq => hs q (List.mem_filter.mp hq).1)
    refine ⟨u3, u6, u7, ?_⟩
    have km : (kvs g).map (fun p => keyOf p.1) = g.map fun p => fr p.1 := by simp [kvs, keyOf_kk]
    have inner : ∀ (q : Rat × Rat), q ∈ g → compL (compF (prm T (call T (k + 2))) (.call "_law_is_less" (.cons (.var 7) (.cons (.var 5) .nil))) (.v 7) (.bl true) [7] [Sl.lock L, .lk (.dT (kvs g)), .rd (.lst (r.map rowD)), .val (.int (i : Int)), Sl.lock A, .val (fr q.1), Sl.lock o6, Sl.lock o7]) (g.map fun p => fr p.1) t = some (g.map fun x => .bl (decide (x.1 < q.1)), t) := fun q hq => by
      refine compL_map (g := fun p : Rat × Rat => fr p.1) (fun x => .bl (decide (x.1 < q.1))) fun x hx => ?_
      have e1 := s_law_is_less (k + 1) x.1 q.1 t (by have := hs x hx; have := hs q hq; omega)
      simp [compF, wipeE, testE, turnE, e1]
    have outer : compL (compF (prm T (call T (k + 2))) (.var 5) (.v 5) (.not (.blt .any (.cons (.comp (.call "_law_is_less" (.cons (.var 7) (.cons (.var 5) .nil))) (.v 7) (.mk 1) (.bl true) [7]) .nil))) [5] [L, .lk (.dT (kvs g)), .own (.lst (r.map rowD)), .val (.int (i : Int)), A, B, o6, o7]) (g.map fun p => fr p.1) t = some ((g.filter (isMin g)).map fun p => fr p.1, t) := by
      refine compL_filter (g := fun p : Rat × Rat => fr p.1) (isMin g) (fun p => fr p.1) fun q hq => ?_
      have e2 := inner q hq
      by_cases c : isMin g q = true
      · have c' : (g.any fun x => decide (x.1 < q.1)) = false := by simpa [isMin] using c
        simp [compF, wipeE, testE, turnE, km, e2, hl, show n + 1 ≤ 1000000 by omega, bools_map, c, Function.comp_def, c']
      · have c' : (g.any fun x => decide (x.1 < q.1)) = true := by simpa [isMin] using c
        simp [compF, wipeE, testE, turnE, km, e2, hl, show n + 1 ≤ 1000000 by omega, bools_map, c, Function.comp_def, c']
    have fl : (g.filter (isMin g)).length ≤ 1000000 := Nat.le_trans (List.length_filter_le _ _) (by omega)
    have hd : ∃ rest, g.filter (isMin g) = p :: rest := by
      unfold minG at e
      cases z : g.filter (isMin g) with
      | nil => rw [z] at e; cases e
      | cons y rest => rw [z] at e; cases e; exact ⟨rest, rfl⟩
    obtain ⟨rest, hd⟩ := hd
    rw [hd] at outer fl
    have la := kvs_at hn hp
    have rs : (r.map rowD).length < 1000000 := by simp; omega
    have fin : (rowD p) = .tup [fr p.1, fr p.2] := rfl
    simp at fl
    simp [rowD] at ih
    simp [List.range'_succ, forL, bodyF, S.dct, S.own, outer, km, fl, la, kvs_drop, show r.length < 1000000 by omega, sel, e, rowD, ih]
end Cd
namespace Cd
open PySem Z ZP Q
theorem rangeD_nat (n : Nat) : rangeD 0 (n : Int) = (List.range' 0 n).map fun (j : Nat) => D.int (j : Int) := by
  unfold rangeD
  rw [show ((n : Int) - 0).toNat = n by omega, List.range_eq_range']
  congr 1; funext j; simp
theorem s_law_side (k : Nat) (b : List Tap) (t : List Ob) (n m : Nat) (h : Bds n m b) (hl : b.length ≤ 8) (hn : n ≤ 900) (hm : m ≤ 4000) : call T (k + 3) "_law_side" [brd b] t = .ok (.lst ((rows b).map rowD)) t := by
  rw [call_s fn__law_side]
  have e1 := s_side_put k b t n m h hl hn
  have gl := grp_len b
  obtain ⟨u3, u6, u7, e2⟩ := s_side_sel k b t (.val (brd b)) (lastS (fun x : Tap => fr x.1) b) (lastS (fun x : Tap => fr x.2) b) (grp b).length 0 (grp b) [] .no .no .no (grp_nodup b) rfl (by omega) (by simp; omega) (fun p hp => by
    obtain ⟨x, hx, e⟩ := (grp_keys p.1 b).mp (List.mem_map.mpr ⟨p, hp, rfl⟩)
    rw [← e]; have := (h x hx).2; omega)
  simp at e2
  have zr : szRng ((grp b).length : Int) = true := by simp [szRng]; omega
  have rd := rangeD_nat (grp b).length
  show _ = OutC.ok (.lst ((sel (grp b).length (grp b)).map rowD)) t
  generalize grp b = g at e1 e2 zr rd
  simp [runF, startE, lenLine, c__law_side, e1, S.obj, kvs_len, zr, rd, e2]
end Cd

set_option linter.all false
set_option maxRecDepth 100000
namespace Cd
open PySem Z ZP Q
theorem layer_for (k : Nat) (v : Rat) (t : List Ob) (L : Sl) (S : Nat) (hS : S ≤ 500) : ∀ (r : Grp) (h : Rat) (o1 o2 : Sl) (N : Nat), (∀ p ∈ r, sz p.2 ≤ S) → sz h ≤ N → N + r.length * (S + 1) ≤ 8000 → sz v ≤ 900 →
    ∃ s', s'.sto = t ∧ forL (bodyF (prm T (call T (k + 2))) (.tup (.cons (.v 3) (.cons (.v 4) .nil))) (.cons (.set (.v 2) (.call "_law_plus" (.cons (.var 2) (.cons (.var 4) .nil)))) (.cons (.ite (.call "_law_is_less" (.cons (.var 1) (.cons (.var 2) .nil))) (.cons (.ret (.var 3)) .nil) .nil) .nil))) (r.map rowD)
      ⟨[L, .val (fr v), .val (fr h), o1, o2], t⟩ = match layR r h v with | some w => .rt (fr w) s' | none => .nx s'
  | [], h, o1, o2, N, _, _, _, _ => ⟨_, rfl, rfl⟩
  | (w, s) :: r, h, o1, o2, N, hs, hh, hN, hv => by
    have h1 := hs (w, s) (by simp)
    simp only at h1
    have a := sz_add h s
    rw [List.length_cons, Nat.add_mul] at hN
    have e1 := s_law_plus k h s t (by omega)
    have e2 := s_law_is_less (k + 1) v (h + s) t (by omega)
    by_cases c : v < h + s
    · exact ⟨⟨[L, .val (fr v), .val (fr (h + s)), .val (fr w), .val (fr s)], t⟩, rfl, by simp [forL, bodyF, rowD, e1, e2, c, layR]⟩
    · obtain ⟨s', q1, q2⟩ := layer_for k v t L S hS r (h + s) (.val (fr w)) (.val (fr s)) (N + (S + 1)) (fun p hp => hs p (by simp [hp])) (by omega) (by omega) hv
      refine ⟨s', q1, ?_⟩
      simp only [layR, if_neg c]
      rw [← q2]
      simp [forL, bodyF, rowD, e1, e2, c]
theorem s_law_layer (k : Nat) (r : Grp) (v : Rat) (t : List Ob) (hs : ∀ p ∈ r, sz p.2 ≤ 500) (hl : r.length ≤ 8) (hv : sz v ≤ 900) : call T (k + 3) "_law_layer" [.lst (r.map rowD), fr v] t = .ok (match layR r 0 v with | some w => fr w | none => .non) t := by
  rw [call_s fn__law_layer]
  obtain ⟨s', q1, q2⟩ := layer_for k v t (.val (.lst (r.map rowD))) 500 (by omega) r 0 .no .no 1 hs (by rw [sz_zero]; omega) (by
    have : r.length * 501 ≤ 8 * 501 := Nat.mul_le_mul_right _ hl
    omega) hv
  cases e : layR r 0 v with
  | none => rw [e] at q2; simp [runF, startE, lenLine, c__law_layer, fr0, q2, q1]
  | some w => rw [e] at q2; simp [runF, startE, lenLine, c__law_layer, fr0, q2, q1]
/-! the law's sameness -/
/-- what is the same as itself -/
inductive Gd : Nat → D → Prop
  | non (n : Nat) : Gd n .non
  | bl (n : Nat) (b : Bool) : Gd n (.bl b)
  | int (n : Nat) (i : Int) : Gd n (.int i)
  | str (n : Nat) (x : Str) : (D.str x).plain 0 = true → Gd n (.str x)
  | tup (n : Nat) (ds : List D) : ds.length ≤ 1000000 → (∀ d ∈ ds, Gd n d) → Gd (n + 1) (.tup ds)
theorem pairs_self (ds : List D) : pairs ds ds = ds.map fun d => .tup [d, d] := by
  induction ds with
  | nil => rfl
  | cons d ds ih => simp [pairs, ih]
theorem s_same (k : Nat) (t : List Ob) : ∀ (n : Nat) (d : D), Gd n d → call T (k + n + 1) "_law_same" [d, d] t = .ok (.bl true) t
  | n, _, .non _ => by rw [call_s fn__law_same]; simp [runF, startE, lenLine, c__law_same, D.isNon]
  | n, _, .bl _ b => by rw [call_s fn__law_same]; simp [runF, startE, lenLine, c__law_same, D.isNon, isiD]
  | n, _, .int _ i => by rw [call_s fn__law_same]; simp [runF, startE, lenLine, c__law_same, D.isNon, isiD]
  | n, _, .str _ x h => by
    rw [call_s fn__law_same]
    have := str_plain h 30
    simp [runF, startE, lenLine, c__law_same, D.isNon, isiD, this]
  | _, _, .tup n ds hl h => by
    have c : ∀ o1 o2, compL (compF (prm T (call T (k + n + 1))) (.call "_law_same" (.cons (.var 2) (.cons (.var 3) .nil))) (.tup (.cons (.v 2) (.cons (.v 3) .nil))) (.bl true) [2, 3] [.val o1, .val o2, .no, .no]) (ds.map fun d => .tup [d, d]) t = some (ds.map fun _ => .bl true, t) := fun o1 o2 => by
      refine compL_map (g := fun d : D => .tup [d, d]) (fun _ => .bl true) fun d hd => ?_
      have := s_same k t n d (h d hd)
      simp [compF, wipeE, testE, turnE, this]
    rw [show k + (n + 1) + 1 = (k + n + 1) + 1 by omega, call_s fn__law_same]
    have hl : ds.length ≤ 1000000 := hl
    simp [runF, startE, lenLine, c__law_same, D.isNon, isiD, zipD, pairs_self, c, hl, bools_true]
theorem gd_fr (n : Nat) (q : Rat) : Gd (n + 1) (fr q) := .tup _ _ (by simp) fun d hd => by
  simp only [List.mem_cons, List.not_mem_nil, or_false] at hd
  rcases hd with rfl | rfl <;> exact .int _ _
theorem gd_tp (n : Nat) (x : Tap) : Gd (n + 2) (tp x) := .tup _ _ (by simp) fun d hd => by
  simp only [List.mem_cons, List.not_mem_nil, or_false] at hd
  rcases hd with rfl | rfl <;> exact gd_fr _ _
theorem gd_brd (n : Nat) (b : List Tap) (h : b.length ≤ 8) : Gd (n + 3) (brd b) := .tup _ _ (by simp; omega) fun d hd => by
  obtain ⟨x, _, rfl⟩ := List.mem_map.mp hd
  exact gd_tp _ _
theorem s_same_fr (k : Nat) (q : Rat) (t : List Ob) : call T (k + 2) "_law_same" [fr q, fr q] t = .ok (.bl true) t := s_same k t 1 _ (gd_fr 0 q)
theorem s_same_2 (k : Nat) (q : Rat) (t : List Ob) : call T (k + 3) "_law_same" [.tup [fr q, fr q], .tup [fr q, fr q]] t = .ok (.bl true) t := s_same k t 2 _ (gd_tp 0 (q, q))
theorem s_same_brd (k : Nat) (b : List Tap) (t : List Ob) (h : b.length ≤ 8) : call T (k + 4) "_law_same" [brd b, brd b] t = .ok (.bl true) t := s_same k t 3 _ (gd_brd 0 b h)
theorem s_alike_int (k : Nat) (i : Int) (t : List Ob) : call T (k + 1) "_law_alike" [.int i, .int i] t = .ok (.bl true) t := by
  rw [call_s fn__law_alike]; simp [runF, startE, lenLine, c__law_alike, D.isNon, isiD]
theorem s_alike_fr (k : Nat) (q : Rat) (t : List Ob) : call T (k + 2) "_law_alike" [fr q, fr q] t = .ok (.bl true) t := by
  rw [call_s fn__law_alike]
  have c : ∀ o1 o2, compL (compF (prm T (call T (k + 1))) (.call "_law_alike" (.cons (.var 3) (.cons (.var 4) .nil))) (.tup (.cons (.v 3) (.cons (.v 4) .nil))) (.bl true) [3, 4] [.val o1, .val o2, .no, .no, .no]) [.tup [.int q.num, .int q.num], .tup [.int q.den, .int q.den]] t = some ([.bl true, .bl true], t) := fun o1 o2 => by
    simp [compL, compF, wipeE, testE, turnE, s_alike_int]
  simp [runF, startE, lenLine, c__law_alike, fr, D.isNon, isiD, zipD, pairs, c, boolsD]
theorem unf_plain : ∀ n, (D.str (Str.ofString "unfit")).plain n = true := str_plain (by decide +kernel)
theorem s_alike_str (k : Nat) (t : List Ob) : call T (k + 1) "_law_alike" [.str (Str.ofString "unfit"), .str (Str.ofString "unfit")] t = .ok (.bl true) t := by
  have := unf_plain 30
  rw [call_s fn__law_alike]; simp [runF, startE, lenLine, c__law_alike, D.isNon, isiD, this]
theorem s_alike_unfit (k : Nat) (t : List Ob) : call T (k + 2) "_law_alike" [.lst [.str (Str.ofString "unfit")], .lst [.str (Str.ofString "unfit")]] t = .ok (.bl true) t := by
  rw [call_s fn__law_alike]
  have c : ∀ o1 o2, compL (compF (prm T (call T (k + 1))) (.call "_law_alike" (.cons (.var 3) (.cons (.var 4) .nil))) (.tup (.cons (.v 3) (.cons (.v 4) .nil))) (.bl true) [3, 4] [.val o1, .val o2, .no, .no, .no]) [.tup [.str (Str.ofString "unfit"), .str (Str.ofString "unfit")]] t = some ([.bl true], t) := fun o1 o2 => by
    simp [compL, compF, wipeE, testE, turnE, s_alike_str]
  simp [runF, startE, lenLine, c__law_alike, D.isNon, isiD, zipD, pairs, c, boolsD]
theorem s_law_told (k : Nat) (b : List Tap) (v : Rat) (x : Bool) (t : List Ob) (n m j : Nat) (hp : Pos b) (hb : b ≠ []) (h : Bds n m b) (hn : n ≤ 400) (hm : m ≤ 4000) (hl : b.length ≤ 8) (hv : sz v ≤ j) (hj : j ≤ 4000) (h0 : 0 ≤ v) :
    call T (k + 10) "_law_told" [brd b, fr v, .bl x] t = .ok (if v < tot b then fr (lay b v) else .lst [.str (Str.ofString "unfit")]) t := by
  rw [call_s fn__law_told]
  have e1 := s_layer k b v t n m j hp hb h hn hm hl hv hj h0
  by_cases c : v < tot b
  · rw [if_pos c] at e1
    cases x <;> simp [runF, startE, lenLine, c__law_told, hsOk, permArgs, e1, c]
  · rw [if_neg c] at e1
    cases x <;> simp [runF, startE, lenLine, c__law_told, hsOk, permArgs, e1, c]

theorem s_law_same_fr' (k : Nat) (q : Rat) (t : List Ob) : call T (k + 10) "_law_same" [fr q, fr q] t = .ok (.bl true) t := s_same_fr (k + 8) q t
end Cd

set_option linter.all false
set_option maxRecDepth 100000
namespace Cd
open PySem Z ZP Q
theorem pairs_map {α β : Type} (f : α → D) (g : β → D) : ∀ (l : List α) (r : List β), pairs (l.map f) (r.map g) = (l.zip r).map fun p => .tup [f p.1, g p.2]
  | [], _ => by simp [pairs]
  | _ :: _, [] => by simp [pairs]
  | a :: l, b :: r => by simp [pairs, pairs_map f g l r]
def slots (n : Nat) (b : List Tap) (mny : Int) (o3 : Sl) (fl : List Rat) (fd : List Tap) (o6 o7 o8 : Sl) : List Sl := [.val (.ref n), .val (brd b), .val (.int mny), o3, .val (.lst (fl.map fr)), .own (.lst (fd.map tp)), o6, o7, o8, .no, .no, .no]
def pourB : Ss := (.cons (.set (.v 6) (.comp (.call "_law_times" (.cons (.var 9) (.cons (.tup (.cons (.call "_law_one" (.cons (.var 0) (.cons (.tup (.cons (.int 0) (.cons (.int 0) (.cons (.int 1) (.cons (.int 2) (.cons (.int 4) .nil)))))) .nil))) (.cons (.int 4) .nil))) .nil))) (.v 9) (.seq (.var 4)) (.bl true) [9])) (.cons (.set (.v 6) (.comp (.call "_law_ratio" (.cons (.idx (.var 10) (.int 0)) (.cons (.idx (.var 10) (.int 1)) .nil))) (.v 10) (.seq (.var 6)) (.bl true) [10])) (.cons (.set (.v 7) (.call "_law_sum" (.cons (.var 6) .nil))) (.cons (.ite (.cmp .gt (.idx (.var 7) (.int 0)) (.int 0)) (.cons (.set (.v 8) (.call "_law_sum" (.cons (.comp (.call "_law_times" (.cons (.var 10) (.cons (.var 11) .nil))) (.tup (.cons (.v 10) (.cons (.tup (.cons (.v 9) (.cons (.v 11) .nil))) .nil))) (.zip (.var 6) (.var 1)) (.bl true) [10, 9, 11]) .nil))) (.cons (.mapp 5 (.tup (.cons (.var 7) (.cons (.call "_law_over" (.cons (.var 8) (.cons (.var 7) .nil))) .nil)))) (.cons (.set (.v 4) (.comp (.call "_law_less" (.cons (.var 9) (.cons (.var 10) .nil))) (.tup (.cons (.v 9) (.cons (.v 10) .nil))) (.zip (.var 4) (.var 6)) (.bl true) [9, 10])) .nil))) .nil) .nil))))
/-- a turn of the pouring -/
theorem pour_turn (k n c : Nat) (b : List Tap) (mny i : Int) (t : List Ob) (o3 o6 o7 o8 : Sl) (fl : List Rat) (fd : List Tap) (F : Nat) (hF : F ≤ 400) (hb : Bds 4 9 b) (lb : b.length ≤ 8) (hp : PoolAt n c t) (hc : c + 100 ≤ 2 ^ 40)
    (h1 : ∀ q ∈ fl, sz q ≤ F) (l1 : fl.length ≤ 8) (lf : fd.length ≤ 100) : ∃ (o6' o7' o8' : Sl) (fl' : List Rat) (fd' : List Tap) (t' : List Ob) (c' : Nat),
      bodyF (prm T (call T (k + 3))) (.v 3) pourB (.int i) ⟨slots n b mny o3 fl fd o6 o7 o8, t⟩ = .nx ⟨slots n b mny (.val (.int i)) fl' fd' o6' o7' o8', t'⟩ ∧ PoolAt n c' t' ∧ c' ≤ c + 8 ∧
      (∀ q ∈ fl', sz q ≤ F + (F + 3) + 1) ∧ fl'.length ≤ 8 ∧ fd'.length ≤ fd.length + 1 ∧ (∀ x ∈ fd', x ∈ fd ∨ (0 < x.1 ∧ sz x.1 ≤ 1 + 8 * (F + 4) ∧ sz x.2 ≤ 2 + 8 * (F + 13) + 8 * (F + 4))) := by
  obtain ⟨xs, t1, e1, p1, l2, x1⟩ := compL_ix (I := fun i t => PoolAt n (c + i) t) (R := fun _ x => ∃ a : Rat, x = fr a ∧ sz a ≤ F + 3)
    (f := compF (prm T (call T (k + 3))) (.call "_law_times" (.cons (.var 9) (.cons (.tup (.cons (.call "_law_one" (.cons (.var 0) (.cons (.tup (.cons (.int 0) (.cons (.int 0) (.cons (.int 1) (.cons (.int 2) (.cons (.int 4) .nil)))))) .nil))) (.cons (.int 4) .nil))) .nil))) (.v 9) (.bl true) [9] (slots n b mny (.val (.int i)) fl fd o6 o7 o8))
    (l := fl.map fr) hp (fun j d t hj hp => by
      have hl := (List.getElem?_eq_some_iff.mp hj).1
      rw [List.length_map] at hl
      rw [List.getElem?_map, List.getElem?_eq_getElem hl] at hj
      cases hj
      have hq := h1 fl[j] (List.getElem_mem hl)
      obtain ⟨d, t2, e2, m2, p2⟩ := s_law_one (k + 1) n (c + j) [.int 0, .int 0, .int 1, .int 2, .int 4] t hp (by omega) (by simp) (by simp)
      have ⟨r, hr, r0, r1⟩ : ∃ r : Int, d = .int r ∧ 0 ≤ r ∧ r ≤ 4 := by
        simp only [List.mem_cons, List.not_mem_nil, or_false] at m2
        rcases m2 with rfl | rfl | rfl | rfl | rfl <;> exact ⟨_, rfl, by omega, by omega⟩
      subst hr
      have e3 := s_law_times_raw (k + 1) fl[j] r 4 t2 (by omega) (by omega) (by decide) (by decide)
      have z1 : sz (Rat.divInt r 4) ≤ 3 := sz_divInt (by omega) (by decide) (by omega)
      have z2 := sz_mul fl[j] (Rat.divInt r 4)
      exact ⟨fr (fl[j] * Rat.divInt r 4), t2, by simp [compF, wipeE, testE, turnE, slots, e2, e3], p2, _, rfl, by omega⟩)
  obtain ⟨sh, rfl, hs⟩ := exists_map (g := fr) (P := fun a => sz a ≤ F + 3) (xs := xs) (fun x hx => by
    obtain ⟨i, hi, rfl⟩ := List.getElem_of_mem hx
    exact x1 i _ (List.getElem?_eq_getElem hi))
  simp at l2 p1
  have ls : sh.length ≤ 8 := by omega
  have c2 : compL (compF (prm T (call T (k + 3))) (.call "_law_ratio" (.cons (.idx (.var 10) (.int 0)) (.cons (.idx (.var 10) (.int 1)) .nil))) (.v 10) (.bl true) [10] (slots n b mny (.val (.int i)) fl fd (.val (.lst (sh.map fr))) o7 o8)) (sh.map fr) t1 = some (sh.map fr, t1) := by
    refine compL_map (g := fr) fr fun q hq => ?_
    have h2 := hs q hq
    have e := s_law_ratio (k + 2) q.num q.den t1 (sz q) (by have := q.den_pos; omega) (de_lt q) (by omega)
    rw [Rat.num_divInt_den] at e
    simp [compF, wipeE, testE, turnE, slots, e]
  have e3 := s_law_sum k sh t1 (F + 3) 8 hs ls (by omega)
  have z3 := sz_smM (n := F + 3) hs ls
  have lf' : fl.length ≤ 1000000 := by omega
  have ls' : sh.length ≤ 1000000 := by omega
  by_cases hw : 0 < (sm sh).num
  · have hw0 : 0 < sm sh := by rw [← num_pos]; exact hw
    have c4 : compL (compF (prm T (call T (k + 3))) (.call "_law_times" (.cons (.var 10) (.cons (.var 11) .nil))) (.tup (.cons (.v 10) (.cons (.tup (.cons (.v 9) (.cons (.v 11) .nil))) .nil))) (.bl true) [10, 9, 11] (slots n b mny (.val (.int i)) fl fd (.val (.lst (sh.map fr))) (.val (fr (sm sh))) o8)) ((sh.zip b).map fun p => .tup [fr p.1, tp p.2]) t1 = some ((sh.zip b).map fun p => fr (p.1 * p.2.2), t1) := by
      refine compL_map (g := fun p : Rat × Tap => .tup [fr p.1, tp p.2]) _ fun p hp => ?_
      have m := List.of_mem_zip hp
      have h2 := hs _ m.1
      have h3 := (hb _ m.2).2
      have e := s_law_times (k + 1) p.1 p.2.2 t1 (by omega)
      simp [compF, wipeE, testE, turnE, slots, tp, e]
    have lz : (sh.zip b).length ≤ 8 := by rw [List.length_zip]; omega
    have hz : ∀ p ∈ sh.zip b, sz (p.1 * p.2.2) ≤ F + 12 := fun p hp => by
      have m := List.of_mem_zip hp
      have h2 := hs _ m.1
      have h3 := (hb _ m.2).2
      have := sz_mul p.1 p.2.2
      omega
    have e4 := s_law_sum' k (fun p : Rat × Tap => p.1 * p.2.2) (sh.zip b) t1 (F + 12) 8 hz lz (by omega)
    have z4 : sz (sm ((sh.zip b).map fun p => p.1 * p.2.2)) ≤ 1 + 8 * (F + 12 + 1) := sz_smM (M := 8) (n := F + 12) (fun q hq => by obtain ⟨p, hp, rfl⟩ := List.mem_map.mp hq; exact hz p hp) (by simpa using lz)
    have e5 := s_law_over (k + 1) (sm ((sh.zip b).map fun p => p.1 * p.2.2)) (sm sh) t1 (by grind) (by omega)
    have z5 := sz_div (sm ((sh.zip b).map fun p => p.1 * p.2.2)) (sm sh)
    have c6 : ∀ fd2 o8', compL (compF (prm T (call T (k + 3))) (.call "_law_less" (.cons (.var 9) (.cons (.var 10) .nil))) (.tup (.cons (.v 9) (.cons (.v 10) .nil))) (.bl true) [9, 10] (slots n b mny (.val (.int i)) fl fd2 (.val (.lst (sh.map fr))) (.val (fr (sm sh))) o8')) ((fl.zip sh).map fun p => .tup [fr p.1, fr p.2]) t1 = some ((fl.zip sh).map fun p => fr (p.1 - p.2), t1) := fun fd2 o8' => by
      refine compL_map (g := fun p : Rat × Rat => .tup [fr p.1, fr p.2]) _ fun p hp => ?_
      have m := List.of_mem_zip hp
      have h2 := hs _ m.2
      have h3 := h1 _ m.1
      have e := s_law_less (k + 1) p.1 p.2 t1 (by omega)
      simp [compF, wipeE, testE, turnE, slots, e]
    have lz2 : (fl.zip sh).length ≤ 8 := by rw [List.length_zip]; omega
    refine ⟨.val (.lst (sh.map fr)), .val (fr (sm sh)), .val (fr (sm ((sh.zip b).map fun p => p.1 * p.2.2))), (fl.zip sh).map fun p => p.1 - p.2, fd ++ [(sm sh, sm ((sh.zip b).map fun p => p.1 * p.2.2) / sm sh)], t1, _, ?_, p1, by omega, ?_, by simpa using lz2, by simp, ?_⟩
    · have c6' := c6 (fd ++ [(sm sh, sm ((sh.zip b).map fun p => p.1 * p.2.2) / sm sh)]) (.val (fr (sm ((sh.zip b).map fun p => p.1 * p.2.2))))
      simp only [slots] at e1 c2 c4 c6'
      have zp1 : zipD (.lst (sh.map fr)) (brd b) = some ((sh.zip b).map fun p => .tup [fr p.1, tp p.2]) := by show some (pairs _ _) = _; rw [pairs_map]
      have zp2 : zipD (.lst (fl.map fr)) (.lst (sh.map fr)) = some ((fl.zip sh).map fun p => .tup [fr p.1, fr p.2]) := by show some (pairs _ _) = _; rw [pairs_map]
      have lz' : min sh.length b.length ≤ 1000000 := by omega
      have lz2' : min fl.length sh.length ≤ 1000000 := by omega
      have tpe : D.tup [fr (sm sh), fr (sm ((sh.zip b).map fun p => p.1 * p.2.2) / sm sh)] = tp (sm sh, sm ((sh.zip b).map fun p => p.1 * p.2.2) / sm sh) := rfl
      rw [List.map_append, List.map_cons, List.map_nil] at c6'
      simp [bodyF, pourB, slots, e1, lf', ls', c2, e3, hw, zp1, zp2, c4, lz', lz2', e4, e5, S.own, show fd.length < 1000000 by omega, tpe, c6', Function.comp_def]
    · intro q hq
      obtain ⟨p, hp, rfl⟩ := List.mem_map.mp hq
      have m := List.of_mem_zip hp
      have h2 := hs _ m.2
      have h3 := h1 _ m.1
      have := sz_sub p.1 p.2
      omega
    · intro x hx
      rcases List.mem_append.mp hx with hx | hx
      · exact .inl hx
      · simp at hx; subst hx
        exact .inr ⟨hw0, by simp only; omega, by simp only; omega⟩
  · refine ⟨.val (.lst (sh.map fr)), .val (fr (sm sh)), o8, fl, fd, t1, _, ?_, p1, by omega, fun q hq => by have := h1 q hq; omega, l1, by omega, fun x hx => .inl hx⟩
    simp only [slots] at e1 c2
    simp [bodyF, pourB, slots, e1, lf', ls', c2, e3, hw]
/-- poured tubs -/
structure Prd (b : List Tap) : Prop where
  pos : Pos b
  bd : Bds 257 586 b
  ne : b ≠ []
  len : b.length ≤ 3
theorem s_law_poured (k n c : Nat) (b : List Tap) (t : List Ob) (hb : Brd 8 b) (hp : PoolAt n c t) (hc : c + 200 ≤ 2 ^ 40) : ∃ (p : List Tap) (t' : List Ob) (c' : Nat), call T (k + 4) "_law_poured" [.ref n, brd b, .int 3] t = .ok (brd p) t' ∧ Prd p ∧ PoolAt n c' t' ∧ c' ≤ c + 40 := by
  rw [call_s fn__law_poured]
  have lb := hb.len
  have c1 := compL_map (f := compF (prm T (call T (k + 3))) (.var 9) (.tup (.cons (.v 9) (.cons (.v 11) .nil))) (.bl true) [9, 11] [.val (.ref n), .val (brd b), .val (.int 3), .no, .no, .no, .no, .no, .no, .no, .no, .no]) (t := t) (g := tp) (fun x => fr x.1) (l := b) (fun x hx => by simp [compF, wipeE, testE, turnE, tp])
  have b0 : ∀ q ∈ b.map (·.1), sz q ≤ 4 := fun q hq => by obtain ⟨x, hx, rfl⟩ := List.mem_map.mp hq; exact (hb.bd x hx).1
  obtain ⟨a6, a7, a8, f1, d1, t1, k1, e1, p1, q1, z1, l1, m1, w1⟩ := pour_turn k n c b 3 0 t .no .no .no .no (b.map (·.1)) [] 4 (by omega) hb.bd lb hp (by omega) b0 (by simpa using lb) (by simp)
  obtain ⟨b6, b7, b8, f2, d2, t2, k2, e2, p2, q2, z2, l2, m2, w2⟩ := pour_turn k n k1 b 3 1 t1 (.val (.int 0)) a6 a7 a8 f1 d1 12 (by omega) hb.bd lb p1 (by omega) z1 l1 (by simp at m1; omega)
  obtain ⟨c6, c7, c8, f3, d3, t3, k3, e3, p3, q3, z3, l3, m3, w3⟩ := pour_turn k n k2 b 3 2 t2 (.val (.int 1)) b6 b7 b8 f2 d2 28 (by omega) hb.bd lb p2 (by omega) z2 l2 (by simp at m1; omega)
  have rg : rangeD 0 3 = [.int 0, .int 1, .int 2] := rfl
  have hd : ∀ x ∈ d3, 0 < x.1 ∧ sz x.1 ≤ 257 ∧ sz x.2 ≤ 586 := fun x hx => by
    rcases w3 x hx with hx | ⟨g1, g2, g3⟩
    · rcases w2 x hx with hx | ⟨g1, g2, g3⟩
      · rcases w1 x hx with hx | ⟨g1, g2, g3⟩
        · cases hx
        · exact ⟨g1, by omega, by omega⟩
      · exact ⟨g1, by omega, by omega⟩
    · exact ⟨g1, by omega, by omega⟩
  have hs : szRng 3 = true := by decide
  have L3 : d3.length ≤ 3 := by simp at m1; omega
  have key : forL (bodyF (prm T (call T (k + 3))) (.v 3) pourB) [.int 0, .int 1, .int 2] ⟨slots n b 3 .no (b.map (·.1)) [] .no .no .no, t⟩ = .nx ⟨slots n b 3 (.val (.int 2)) f3 d3 c6 c7 c8, t3⟩ := by
    simp only [forL, e1, e2, e3]
  have pl := pls_map (n := 30) (tp_plain 28) d3
  have key' : forL (bodyF (prm T (call T (k + 3))) (.v 3) pourB) [.int 0, .int 1, .int 2] ⟨[.val (.ref n), .val (brd b), .val (.int 3), .no, .val (.lst (b.map fun x => fr x.1)), .own (.lst []), .no, .no, .no, .no, .no, .no], t⟩ = .nx ⟨slots n b 3 (.val (.int 2)) f3 d3 c6 c7 c8, t3⟩ := by
    rw [← key]; simp [slots, Function.comp_def]
  simp only [pourB, slots] at key'
  by_cases hd0 : d3 = []
  · subst hd0
    obtain ⟨x, hx0⟩ : ∃ x, b.head? = some x := by
      cases hh : b.head? with
      | none => exact absurd (List.head?_eq_none_iff.mp hh) hb.ne
      | some x => exact ⟨x, rfl⟩
    have xm : x ∈ b := List.mem_of_head? hx0
    have hx := hb.pos x xm
    have hx2 := hb.bd x xm
    have e4 := s_law_times_raw (k + 1) x.1 1 2 t3 (by omega) (by decide) (by decide) (by decide)
    have z4 : sz (Rat.divInt 1 2) ≤ 2 := by decide
    have z5 := sz_mul x.1 (Rat.divInt 1 2)
    refine ⟨[(x.1 * Rat.divInt 1 2, x.2)], t3, k3, ?_, ⟨fun y hy => ?_, fun y hy => ?_, by simp, by simp⟩, p3, by omega⟩
    · have ix : ∀ t, idxD t (brd b) (.int 0) = some (tp x) := fun t => by
        show L2.atI (b.map tp) 0 = _
        cases b with
        | nil => cases hx0
        | cons y b => cases hx0; simp
      have c1' := c1
      simp [runF, startE, lenLine, c__law_poured, c1, show b.length ≤ 1000000 by omega, hs, rg, key', S.obj, pls_nil, ix, e4]
      simp [brd, tp]
    · simp at hy; subst hy
      exact Rat.mul_pos hx (divInt_pos (by decide) (by decide))
    · simp at hy; subst hy
      exact ⟨by show sz (x.1 * Rat.divInt 1 2) ≤ _; omega, by show sz x.2 ≤ _; omega⟩
  · refine ⟨d3, t3, k3, ?_, ⟨fun x hx => (hd x hx).1, fun x hx => (hd x hx).2, hd0, L3⟩, p3, by omega⟩
    have he : d3.isEmpty = false := by simpa using hd0
    simp [runF, startE, lenLine, c__law_poured, c1, show b.length ≤ 1000000 by omega, hs, rg, key', S.obj, pl, he]
    simp [brd]
end Cd

set_option linter.all false
set_option maxRecDepth 100000
namespace Cd
open PySem Z ZP Q
def lay1 : Ss := (.cons (.set (.v 9) (.ite (.cmp .eq (.call "_law_below" (.cons (.var 0) (.cons (.int 2) .nil))) (.int 0)) (.callk "colder_volume" 0 ["warmth", "board"] [1, 0] .nil (.cons (.var 7) (.cons (.var 1) .nil))) (.call "colder_volume" (.cons (.var 1) (.cons (.var 7) .nil))))) (.cons (.ite (.or (.not (.call "_law_same" (.cons (.var 9) (.cons (.var 6) .nil)))) (.or (.cmp .ne (.call "layer" (.cons (.var 1) (.cons (.var 9) .nil))) (.var 7)) (.call "_law_is_less" (.cons (.var 6) (.cons (.call "colder_volume" (.cons (.var 1) (.cons (.call "_law_less" (.cons (.var 7) (.cons (.tup (.cons (.int 1) (.cons (.int 99) .nil))) .nil))) .nil))) .nil))))) (.cons (.ret (.bl false)) .nil) .nil) (.cons (.set (.v 6) (.call "_law_plus" (.cons (.var 6) (.cons (.var 8) .nil)))) (.cons (.mapp 5 (.var 6)) .nil))))
def lay2 : Ss := (.cons (.set (.v 10) (.call "_law_layer" (.cons (.var 3) (.cons (.var 2) .nil)))) (.cons (.ite (.not (.call "_law_alike" (.cons (.call "_law_told" (.cons (.var 1) (.cons (.var 2) (.cons (.cmp .eq (.call "_law_below" (.cons (.var 0) (.cons (.int 2) .nil))) (.int 0)) .nil)))) (.cons (.ite (.cmp .isn (.var 10) .non) (.var 10) (.lst (.cons (.str "unfit") .nil))) .nil)))) (.cons (.ret (.bl false)) .nil) .nil) .nil))
theorem q99 : D.tup [.int 1, .int 99] = fr (Rat.divInt 1 99) := fr_mk _ _ _ (by decide) (by decide)
theorem q2 : D.tup [.int 1, .int 2] = fr (Rat.divInt 1 2) := fr_mk _ _ _ (by decide) (by decide)
theorem q5 : D.tup [.int 1, .int 5] = fr (Rat.divInt 1 5) := fr_mk _ _ _ (by decide) (by decide)
theorem Bd_sub {n m : Nat} {b : List Tap} (h : Bds n m b) (p : Tap → Bool) : Bds n m (b.filter p) := fun x hx => h x (List.mem_filter.mp hx).1
theorem cold_sz {b : List Tap} {n m : Nat} (h : Bds n m b) (hl : b.length ≤ 8) (w : Rat) : sz (cold b w) ≤ 1 + 8 * (n + 1) := tot_sz (Bd_sub h _) (filt_len hl)
theorem atw_sz {b : List Tap} {n m : Nat} (h : Bds n m b) (hl : b.length ≤ 8) (w : Rat) : sz (atw b w) ≤ 1 + 8 * (n + 1) := tot_sz (Bd_sub h _) (filt_len hl)
theorem lay_turn (k n c : Nat) (b : List Tap) (hb : Brd 8 b) (p r : Grp) (w s : Rat) (e : rows b = p ++ (w, s) :: r) (mk : List Rat) (hm : mk.length ≤ 100) (t : List Ob) (hp : PoolAt n c t) (hc : c + 100 ≤ 2 ^ 40) (V R W o7 o8 o9 o10 : Sl) :
    ∃ t', bodyF (prm T (call T (k + 10))) (.tup (.cons (.v 7) (.cons (.v 8) .nil))) lay1 (rowD (w, s)) ⟨[.val (.ref n), .val (brd b), V, R, W, .own (.lst (mk.map fr)), .val (fr (part p)), o7, o8, o9, o10], t⟩ =
      .nx ⟨[.val (.ref n), .val (brd b), V, R, W, .own (.lst ((mk ++ [part (p ++ [(w, s)])]).map fr)), .val (fr (part (p ++ [(w, s)]))), .val (fr w), .val (fr s), .val (fr (cold b w)), o10], t'⟩ ∧ PoolAt n (c + 1) t' := by
  obtain ⟨x, t1, e1, x0, x1, p1⟩ := s_law_below (k + 9) n c 2 t hp (by omega) (by omega) (by omega)
  have hs := rows_split e
  simp only at hs
  obtain ⟨y, hy, hyw⟩ := (rows_mem (b := b) (p := (w, s)) (by rw [e]; simp)).2
  simp only at hyw
  have lb := hb.len
  have zw : sz w ≤ 9 := by rw [← hyw]; exact (hb.bd y hy).2
  have zc := cold_sz hb.bd lb w
  have za := atw_sz hb.bd lb w
  have ap : 0 < atw b w := by rw [← hyw]; exact atw_pos hb.pos hy
  have ct := cold_at_tot w hb.pos
  have cn := cold_nn hb.pos w
  have z9 : sz (Rat.divInt 1 99) ≤ 7 := by decide
  have zs := sz_sub w (Rat.divInt 1 99)
  have cm := cold_mono (w := w - Rat.divInt 1 99) (u := w) (by have : 0 < Rat.divInt 1 99 := divInt_pos (by decide) (by decide)
                                                               grind) hb.pos
  have zc2 := cold_sz hb.bd lb (w - Rat.divInt 1 99)
  have e2 := s_colder_volume k b w t1 4 9 9 hb.pos hb.ne hb.bd (by omega) (by omega) lb zw (by omega)
  have e3 := s_law_same_fr' k (cold b w) t1
  have e4 := s_layer (k + 1) b (cold b w) t1 4 9 41 hb.pos hb.ne hb.bd (by omega) (by omega) lb (by omega) (by omega) cn
  rw [if_pos (by grind), lay_uniq hb.pos (lay_is hb.pos cn (by grind)) (u := w) ⟨Rat.le_refl, by grind⟩] at e4
  have e5 := s_law_less (k + 8) w (Rat.divInt 1 99) t1 (by omega)
  have e6 := s_colder_volume k b (w - Rat.divInt 1 99) t1 4 9 30 hb.pos hb.ne hb.bd (by omega) (by omega) lb (by omega) (by omega)
  have e7 := s_law_is_less (k + 9) (cold b w) (cold b (w - Rat.divInt 1 99)) t1 (by omega)
  have nl : ¬ cold b w < cold b (w - Rat.divInt 1 99) := by grind
  have e8 := s_law_plus (k + 8) (cold b w) (atw b w) t1 (by omega)
  refine ⟨t1, ?_, p1⟩
  rw [part_snoc, ← hs.1, hs.2]
  by_cases q : x = 0
  · subst q
    simp [bodyF, lay1, rowD, e1, permArgs, e2, e3, e4, q99, e5, e6, e7, nl, e8, S.own, show mk.length < 1000000 by omega]
  · have : x = 1 := by omega
    subst this
    simp [bodyF, lay1, rowD, e1, e2, e3, e4, q99, e5, e6, e7, nl, e8, S.own, show mk.length < 1000000 by omega]
theorem loop1 (k n : Nat) (b : List Tap) (hb : Brd 8 b) (V R W o10 : Sl) : ∀ (r p : Grp), rows b = p ++ r → ∀ (c : Nat) (mk : List Rat) (t : List Ob) (o7 o8 o9 : Sl), mk.length + r.length ≤ 50 → PoolAt n c t → c + 100 + r.length ≤ 2 ^ 40 → (∀ q ∈ mk, 0 ≤ q ∧ sz q ≤ 100) →
    ∃ (t' : List Ob) (mk' : List Rat) (h : Rat) (o7' o8' o9' : Sl), forL (bodyF (prm T (call T (k + 10))) (.tup (.cons (.v 7) (.cons (.v 8) .nil))) lay1) (r.map rowD) ⟨[.val (.ref n), .val (brd b), V, R, W, .own (.lst (mk.map fr)), .val (fr (part p)), o7, o8, o9, o10], t⟩ =
      .nx ⟨[.val (.ref n), .val (brd b), V, R, W, .own (.lst (mk'.map fr)), .val (fr h), o7', o8', o9', o10], t'⟩ ∧ PoolAt n (c + r.length) t' ∧ (∀ q ∈ mk', 0 ≤ q ∧ sz q ≤ 100) ∧ mk'.length ≤ 50
  | [], p, e, c, mk, t, o7, o8, o9, hl, hp, hc, hm => ⟨t, mk, part p, o7, o8, o9, rfl, hp, hm, by omega⟩
  | (w, s) :: r, p, e, c, mk, t, o7, o8, o9, hl, hp, hc, hm => by
    simp at hl hc
    obtain ⟨t1, e1, p1⟩ := lay_turn k n c b hb p r w s e mk (by omega) t hp (by omega) V R W o7 o8 o9 o10
    have e' : rows b = (p ++ [(w, s)]) ++ r := by rw [e]; simp
    have hs := rows_split e
    simp only at hs
    have hh : part (p ++ [(w, s)]) = cold b w + atw b w := by rw [part_snoc, ← hs.1, ← hs.2]
    have zc := cold_sz hb.bd hb.len w
    have za := atw_sz hb.bd hb.len w
    have zz := sz_add (cold b w) (atw b w)
    have n1 := cold_nn hb.pos w
    have n2 := atw_nn hb.pos w
    obtain ⟨t2, mk', h, a, d, f, e2, p2, m2, l2⟩ := loop1 k n b hb V R W o10 r (p ++ [(w, s)]) e' (c + 1) (mk ++ [part (p ++ [(w, s)])]) t1 (.val (fr w)) (.val (fr s)) (.val (fr (cold b w))) (by simp; omega) p1 (by omega) (fun q hq => by
      rcases List.mem_append.mp hq with hq | hq
      · exact hm q hq
      · simp at hq; subst hq; rw [hh]; exact ⟨by grind, by omega⟩)
    refine ⟨t2, mk', h, a, d, f, ?_, by rw [show c + ((w, s) :: r).length = c + 1 + r.length by simp; omega]; exact p2, m2, l2⟩
    rw [List.map_cons, forL, e1]
    exact e2
theorem mark_turn (k n c : Nat) (b : List Tap) (hb : Brd 8 b) (q : Rat) (q0 : 0 ≤ q) (qs : sz q ≤ 100) (t : List Ob) (hp : PoolAt n c t) (hc : c + 100 ≤ 2 ^ 40) (V W M H o7 o8 o9 o10 : Sl) :
    ∃ t' o10', bodyF (prm T (call T (k + 10))) (.v 2) lay2 (fr q) ⟨[.val (.ref n), .val (brd b), V, .val (.lst ((rows b).map rowD)), W, M, H, o7, o8, o9, o10], t⟩ =
      .nx ⟨[.val (.ref n), .val (brd b), .val (fr q), .val (.lst ((rows b).map rowD)), W, M, H, o7, o8, o9, o10'], t'⟩ ∧ PoolAt n (c + 1) t' := by
  obtain ⟨x, t1, e1, x0, x1, p1⟩ := s_law_below (k + 9) n c 2 t hp (by omega) (by omega) (by omega)
  have lb := hb.len
  have rz : ∀ p ∈ rows b, sz p.2 ≤ 500 := fun p hp => by rw [(rows_mem hp).1]; have := atw_sz hb.bd lb p.1; omega
  have e2 := s_law_layer (k + 7) (rows b) q t rz (Nat.le_trans (rows_len b) lb) (by omega)
  rw [lay_layR hb.pos q0] at e2
  have e3 := fun x => s_law_told k b q x t1 4 9 100 hb.pos hb.ne hb.bd (by omega) (by omega) lb qs (by omega) q0
  have e4 := s_alike_fr (k + 8) (lay b q) t1
  have e5 := s_alike_unfit (k + 8) t1
  have dx : ∃ y : Bool, (D.int x).eqv (.int 0) = y := ⟨_, rfl⟩
  by_cases cc : q < tot b
  · rw [if_pos cc] at e2 e3
    exact ⟨t1, .val (fr (lay b q)), by simp [bodyF, lay2, e1, e2, e3, e4], p1⟩
  · rw [if_neg cc] at e2 e3
    exact ⟨t1, .val .non, by simp [bodyF, lay2, e1, e2, e3, e5, D.isNon], p1⟩
theorem loop2 (k n : Nat) (b : List Tap) (hb : Brd 8 b) (W M H o7 o8 o9 : Sl) : ∀ (mk : List Rat) (c : Nat) (t : List Ob) (V o10 : Sl), (∀ q ∈ mk, 0 ≤ q ∧ sz q ≤ 100) → PoolAt n c t → c + 100 + mk.length ≤ 2 ^ 40 →
    ∃ t' V' o10', forL (bodyF (prm T (call T (k + 10))) (.v 2) lay2) (mk.map fr) ⟨[.val (.ref n), .val (brd b), V, .val (.lst ((rows b).map rowD)), W, M, H, o7, o8, o9, o10], t⟩ =
      .nx ⟨[.val (.ref n), .val (brd b), V', .val (.lst ((rows b).map rowD)), W, M, H, o7, o8, o9, o10'], t'⟩ ∧ PoolAt n (c + mk.length) t'
  | [], c, t, V, o10, _, hp, _ => ⟨t, V, o10, rfl, hp⟩
  | q :: mk, c, t, V, o10, hm, hp, hc => by
    have hq := hm q (by simp)
    simp at hc
    obtain ⟨t1, a, e1, p1⟩ := mark_turn k n c b hb q hq.1 hq.2 t hp (by omega) V W M H o7 o8 o9 o10
    obtain ⟨t2, V2, a2, e2, p2⟩ := loop2 k n b hb W M H o7 o8 o9 mk (c + 1) t1 (.val (fr q)) a (fun q hq => hm q (by simp [hq])) p1 (by omega)
    refine ⟨t2, V2, a2, ?_, by rw [show c + (q :: mk).length = c + 1 + mk.length by simp; omega]; exact p2⟩
    rw [List.map_cons, forL, e1]
    exact e2
end Cd

set_option linter.all false
set_option maxRecDepth 100000
namespace Cd
open PySem Z ZP Q
theorem mul2 (d : D) : binD .mul (.tup [d]) (.int 2) = some (.tup [d, d]) := by simp [binD, List.replicate]
theorem half (q : Rat) : q * Rat.divInt 1 2 = q / 2 := by
  have : Rat.divInt 1 2 = 1 / 2 := by decide +kernel
  rw [this]; grind
theorem cold_all {b : List Tap} {u : Rat} (h : ∀ x ∈ b, x.2 < u) : cold b u = tot b := by
  unfold cold
  rw [List.filter_eq_self.mpr fun x hx => by simp [h x hx]]
theorem rows_last {b : List Tap} (h : b ≠ []) : ∃ p, (rows b).getLast? = some p ∧ ∀ x ∈ b, x.2 ≤ p.1 := by
  cases e : (rows b).getLast? with
  | none => exact absurd (List.getLast?_eq_none_iff.mp e) (rows_ne h)
  | some p =>
    refine ⟨p, rfl, fun x hx => ?_⟩
    obtain ⟨r, hr⟩ := List.getLast?_eq_some_iff.mp e
    have l := rows_lt b
    rw [hr, List.pairwise_append] at l
    obtain ⟨y, hy, hyx⟩ := List.mem_map.mp (rows_all hx)
    rw [hr] at hy
    rcases List.mem_append.mp hy with hy | hy
    · have := l.2.2 y hy p (by simp); rw [← hyx]; grind
    · simp at hy; subst hy; rw [← hyx]; exact Rat.le_refl
theorem s_layers_right (k n c : Nat) (b : List Tap) (t : List Ob) (hb : Brd 8 b) (hp : PoolAt n c t) (hc : c + 300 ≤ 2 ^ 40) : ∃ (t' : List Ob) (c' : Nat), call T (k + 11) "_law_are_layers_right" [.ref n, brd b] t = .ok (.bl true) t' ∧ PoolAt n c' t' ∧ c' ≤ c + 100 := by
  rw [call_s fn__law_are_layers_right]
  have lb := hb.len
  have z2 : sz (Rat.divInt 1 2) ≤ 2 := by decide
  have z5 : sz (Rat.divInt 1 5) ≤ 3 := by decide
  have zt := tot_sz hb.bd lb
  have tn := tot_pos hb.pos hb.ne
  have rl := rows_len b
  have e1 := s_law_side (k + 7) b t 4 9 hb.bd lb (by omega) (by omega)
  have e2 := s_law_total (k + 6) b t 4 9 8 hb.bd lb (by omega)
  have e3 := s_law_times (k + 8) (tot b) (Rat.divInt 1 2) t (by omega)
  have e4 := s_law_plus (k + 8) (tot b) (Rat.divInt 1 5) t (by omega)
  obtain ⟨x, t1, e5, x0, x1, p1⟩ := s_law_below (k + 9) n c 13 t hp (by omega) (by omega) (by omega)
  have e6 := s_law_times_raw (k + 8) (tot b) x 13 t1 (by omega) (by omega) (by decide) (by decide)
  have zx : sz (Rat.divInt x 13) ≤ 4 := sz_divInt (by omega) (by decide) (by omega)
  have m1 := sz_mul (tot b) (Rat.divInt 1 2)
  have m2 := sz_add (tot b) (Rat.divInt 1 5)
  have m3 := sz_mul (tot b) (Rat.divInt x 13)
  have g2 : 0 < Rat.divInt 1 2 := divInt_pos (by decide) (by decide)
  have g5 : 0 < Rat.divInt 1 5 := divInt_pos (by decide) (by decide)
  have gx : 0 ≤ Rat.divInt x 13 := Rat.divInt_nonneg (by omega) (by decide)
  have mk0 : ∀ q ∈ [0, tot b * Rat.divInt 1 2, tot b, tot b + Rat.divInt 1 5, tot b * Rat.divInt x 13], 0 ≤ q ∧ sz q ≤ 100 := fun q hq => by
    simp only [List.mem_cons, List.not_mem_nil, or_false] at hq
    rcases hq with rfl | rfl | rfl | rfl | rfl
    · exact ⟨Rat.le_refl, by rw [sz_zero]; omega⟩
    · exact ⟨Rat.mul_nonneg (by grind) (by grind), by omega⟩
    · exact ⟨by grind, by omega⟩
    · exact ⟨by grind, by omega⟩
    · exact ⟨Rat.mul_nonneg (by grind) gx, by omega⟩
  obtain ⟨t2, mk, h, a7, a8, a9, e7, p2, q2, l2⟩ := loop1 k n b hb .no (.val (.lst ((rows b).map rowD))) (.val (fr (tot b))) .no (rows b) [] rfl (c + 1) [0, tot b * Rat.divInt 1 2, tot b, tot b + Rat.divInt 1 5, tot b * Rat.divInt x 13] t1 .no .no .no (by simp; omega) p1 (by omega) mk0
  obtain ⟨t3, b2, b10, e8, p3⟩ := loop2 k n b hb (.val (fr (tot b))) (.val (.lst (mk.map fr))) (.val (fr h)) a7 a8 a9 mk (c + 1 + (rows b).length) t2 .no .no q2 p2 (by omega)
  obtain ⟨pl, hl, hle⟩ := rows_last hb.ne
  have hpl := List.mem_of_getLast? hl
  obtain ⟨y, hy, hyw⟩ := (rows_mem hpl).2
  have zl : sz pl.1 ≤ 9 := by rw [← hyw]; exact (hb.bd y hy).2
  have ix : ∀ t, idxD t (.lst ((rows b).map rowD)) (.int (-1)) = some (rowD pl) := fun t => by
    show L2.atI _ (-1) = _
    rw [at_last _ (by simpa using rows_ne hb.ne), List.getLast?_map, hl]; rfl
  have zp := sz_add pl.1 (Rat.divInt 1 2)
  have e9 := s_law_plus (k + 8) pl.1 (Rat.divInt 1 2) t3 (by omega)
  have e10 := s_colder_volume k b (pl.1 + Rat.divInt 1 2) t3 4 9 30 hb.pos hb.ne hb.bd (by omega) (by omega) lb (by omega) (by omega)
  rw [cold_all fun x hx => by have := hle x hx; grind] at e10
  have e11 := s_law_same_fr' k (tot b) t3
  have e12 := s_middle (k + 1) b t3 4 9 hb.pos hb.ne hb.bd (by omega) (by omega) lb
  have e13 := s_law_times (k + 8) (tot b) (Rat.divInt 1 2) t3 (by omega)
  have rz : ∀ p ∈ rows b, sz p.2 ≤ 500 := fun p hp => by rw [(rows_mem hp).1]; have := atw_sz hb.bd lb p.1; omega
  have e14 := s_law_layer (k + 7) (rows b) (tot b * Rat.divInt 1 2) t3 rz (Nat.le_trans (rows_len b) lb) (by omega)
  rw [lay_layR hb.pos (Rat.mul_nonneg (by grind) (by grind)), half, if_pos (by grind)] at e14
  rw [half] at e13
  have e15 := s_same_2 (k + 7) (lay b (tot b / 2)) t3
  refine ⟨t3, c + 1 + (rows b).length + mk.length, ?_, p3, by omega⟩
  have pn : part [] = 0 := rfl
  rw [pn] at e7
  simp only [List.map_cons, List.map_nil, lay1] at e7
  simp only [lay2] at e8
  have ir : ∀ t, idxD t (rowD pl) (.int 0) = some (fr pl.1) := fun t => by simp [rowD]
  simp [runF, startE, lenLine, c__law_are_layers_right, e1, e2, Cd.q2, Cd.q5, fr0, e3, e4, e5, e6, e7, e8, ix, ir, e9, e10, e11, e12, e13, e14, e15, mul2, permArgs]
end Cd

set_option linter.all false
set_option maxRecDepth 100000
namespace Cd
open PySem Z ZP Q
noncomputable instance (b o : List Tap) : Decidable (Cov b o) := Classical.propDecidable _
def rightB : Ss := (.cons (.par (.cons (.v 2) (.cons (.v 5) .nil)) (.cons (.call "_law_board" (.cons (.var 0) (.cons (.int 8) .nil))) (.cons (.call "_law_board" (.cons (.var 0) (.cons (.int 4) .nil))) .nil))) (.cons (.ite (.not (.call "_law_are_layers_right" (.cons (.var 0) (.cons (.var 2) .nil)))) (.cons (.ret (.bl false)) .nil) .nil) (.cons (.set (.tup (.cons (.v 6) (.cons (.v 7) .nil))) (.tup (.cons (.call "_law_fraction" (.cons (.var 0) (.cons (.neg (.int 9)) (.cons (.int 20) .nil)))) (.cons (.call "_law_one" (.cons (.var 0) (.cons (.tup (.cons (.tup (.cons (.int 0) (.cons (.int 1) .nil))) (.cons (.tup (.cons (.int 1) (.cons (.int 1) .nil))) (.cons (.tup (.cons (.int 1) (.cons (.int 2) .nil))) (.cons (.tup (.cons (.int 1) (.cons (.int 3) .nil))) (.cons (.tup (.cons (.int 4) (.cons (.int 5) .nil))) .nil)))))) .nil))) .nil)))) (.cons (.set (.v 3) (.blt .tuple (.cons (.comp (.tup (.cons (.var 10) (.cons (.call "_law_plus" (.cons (.var 11) (.cons (.call "_law_times" (.cons (.var 7) (.cons (.call "_law_less" (.cons (.var 6) (.cons (.var 11) .nil))) .nil))) .nil))) .nil))) (.tup (.cons (.v 10) (.cons (.v 11) .nil))) (.seq (.var 2)) (.bl true) [10, 11]) .nil))) (.cons (.set (.v 4) (.ite (.cmp .eq (.call "_law_below" (.cons (.var 0) (.cons (.int 2) .nil))) (.int 0)) (.callk "cooled" 0 ["share", "warmth", "board"] [2, 1, 0] .nil (.cons (.var 7) (.cons (.var 6) (.cons (.var 2) .nil)))) (.call "cooled" (.cons (.var 2) (.cons (.var 6) (.cons (.var 7) .nil)))))) (.cons (.ite (.not (.call "_law_same" (.cons (.var 4) (.cons (.var 3) .nil)))) (.cons (.ret (.bl false)) .nil) .nil) (.cons (.ite (.cmp .gt (.var 1) (.int 6)) (.cons (.set (.v 5) (.call "_law_poured" (.cons (.var 0) (.cons (.var 2) (.cons (.int 3) .nil))))) .nil) .nil) (.cons (.par (.cons (.v 8) (.cons (.v 9) .nil)) (.cons (.call "does_cover" (.cons (.var 2) (.cons (.var 5) .nil))) (.cons (.call "does_cover" (.cons (.var 4) (.cons (.call "cooled" (.cons (.var 5) (.cons (.var 6) (.cons (.var 7) .nil)))) .nil))) .nil))) (.cons (.ite (.or (.and (.var 8) (.not (.var 9))) (.and (.cmp .ne (.var 7) (.tup (.cons (.int 1) (.cons (.int 1) .nil)))) (.and (.var 9) (.not (.var 8))))) (.cons (.ret (.bl false)) .nil) .nil) .nil)))))))))
structure Oth (b : List Tap) : Prop where
  pos : Pos b
  bd : Bds 257 586 b
  ne : b ≠ []
  len : b.length ≤ 4
theorem Bd_le {n m n' m' : Nat} {b : List Tap} (h : Bds n m b) (h1 : n ≤ n') (h2 : m ≤ m') : Bds n' m' b := fun x hx => ⟨Nat.le_trans (h x hx).1 h1, Nat.le_trans (h x hx).2 h2⟩
theorem pos_cool {b : List Tap} (w s : Rat) (h : Pos b) : Pos (b.map (cool w s)) := fun x hx => by
  obtain ⟨y, hy, rfl⟩ := List.mem_map.mp hx
  exact h y hy
/-- both covers' tests -/
theorem covers2 (k : Nat) (b o : List Tap) (w s : Rat) (t : List Ob) (hb : Brd 8 b) (ho : Oth o) (hw : sz w ≤ 9) (hs : sz s ≤ 3) (s0 : 0 ≤ s) (s1 : s ≤ 1) :
    call T (k + 11) "does_cover" [brd b, brd o] t = .ok (.bl (decide (Cov b o))) t ∧ call T (k + 11) "cooled" [brd o, fr w, fr s] t = .ok (brd (o.map (cool w s))) t ∧
      call T (k + 11) "does_cover" [brd (b.map (cool w s)), brd (o.map (cool w s))] t = .ok (.bl (decide (Cov (b.map (cool w s)) (o.map (cool w s))))) t := by
  have lb := hb.len
  have lo := ho.len
  refine ⟨?_, ?_, ?_⟩
  · exact s_does_cover (k + 1) b o t 4 9 257 586 9 4 ⟨hb.bd, ho.bd, lb, lo, by omega, by omega⟩ (by omega) (by omega) hb.pos hb.ne ho.pos ho.ne (by omega)
  · exact s_cooled (k + 1) o w s t 257 586 9 3 ho.pos ho.ne ho.bd hw hs (by omega) (by omega) s0 s1
  · have c1 := Bd_cool hb.bd hw hs
    have c2 := Bd_cool ho.bd hw hs
    exact s_does_cover (k + 1) _ _ t 4 32 257 1186 32 4 ⟨c1, c2, by simpa using lb, by simpa using lo, by omega, by omega⟩ (by omega) (by omega) (pos_cool w s hb.pos) (by simpa using hb.ne) (pos_cool w s ho.pos) (by simpa using ho.ne) (by simp; omega)
theorem right_turn (k n c : Nat) (i : Int) (t : List Ob) (hp : PoolAt n c t) (hc : c + 1000 ≤ 2 ^ 40) (o1 o2 o3 o4 o5 o6 o7 o8 o9 o10 o11 : Sl) :
    ∃ t' c' b3 b4 b5 b6 b7 b8 b9 b2, bodyF (prm T (call T (k + 11))) (.v 1) rightB (.int i) ⟨[.val (.ref n), o1, o2, o3, o4, o5, o6, o7, o8, o9, o10, o11], t⟩ =
      .nx ⟨[.val (.ref n), .val (.int i), b2, b3, b4, b5, b6, b7, b8, b9, o10, o11], t'⟩ ∧ PoolAt n c' t' ∧ c' ≤ c + 500 := by
  obtain ⟨b, t1, c1, e1, hb, p1, q1⟩ := s_law_board (k + 7) n c 8 t hp (by omega) (by omega) (by omega)
  obtain ⟨o, t2, c2, e2, ho, p2, q2⟩ := s_law_board (k + 7) n c1 4 t1 p1 (by omega) (by omega) (by omega)
  obtain ⟨t3, c3, e3, p3, q3⟩ := s_layers_right k n c2 b t2 hb p2 (by omega)
  obtain ⟨w, t4, e4, z4, p4⟩ := s_law_fraction (k + 8) n c3 (-9) 20 t3 p3 (by omega) (by omega) (by omega) (by omega)
  obtain ⟨d, t5, e5, m5, p5⟩ := s_law_one (k + 9) n (c3 + 2) [.tup [.int 0, .int 1], .tup [.int 1, .int 1], .tup [.int 1, .int 2], .tup [.int 1, .int 3], .tup [.int 4, .int 5]] t4 p4 (by omega) (by simp) (by simp)
  have ⟨s, hd, s0, s1, zs⟩ : ∃ s : Rat, d = fr s ∧ 0 ≤ s ∧ s ≤ 1 ∧ sz s ≤ 3 := by
    simp only [List.mem_cons, List.not_mem_nil, or_false] at m5
    rcases m5 with rfl | rfl | rfl | rfl | rfl
    · exact ⟨0, rfl, by decide, by decide, by decide⟩
    · exact ⟨1, rfl, by decide, by decide, by decide⟩
    · exact ⟨Rat.divInt 1 2, fr_mk _ _ _ (by decide) (by decide), by decide +kernel, by decide +kernel, by decide +kernel⟩
    · exact ⟨Rat.divInt 1 3, fr_mk _ _ _ (by decide) (by decide), by decide +kernel, by decide +kernel, by decide +kernel⟩
    · exact ⟨Rat.divInt 4 5, fr_mk _ _ _ (by decide) (by decide), by decide +kernel, by decide +kernel, by decide +kernel⟩
  subst hd
  have lb := hb.len
  have c6 := compL_map (f := compF (prm T (call T (k + 11))) (.tup (.cons (.var 10) (.cons (.call "_law_plus" (.cons (.var 11) (.cons (.call "_law_times" (.cons (.var 7) (.cons (.call "_law_less" (.cons (.var 6) (.cons (.var 11) .nil))) .nil))) .nil))) .nil))) (.tup (.cons (.v 10) (.cons (.v 11) .nil))) (.bl true) [10, 11] [.val (.ref n), .val (.int i), .val (brd b), o3, o4, .val (brd o), .val (fr w), .val (fr s), o8, o9, o10, o11]) (t := t5) (g := tp) (fun x => tp (cool w s x)) (l := b) (fun x hx => by
    have h1 := (hb.bd x hx).2
    have a1 := sz_sub w x.2
    have a2 := sz_mul s (w - x.2)
    have e1 := s_law_less (k + 9) w x.2 t5 (by omega)
    have e2 := s_law_times (k + 9) s (w - x.2) t5 (by omega)
    have e3 := s_law_plus (k + 9) x.2 (s * (w - x.2)) t5 (by omega)
    simp [compF, wipeE, testE, turnE, tp, e1, e2, e3, cool])
  obtain ⟨x, t6, e6, x0, x1, p6⟩ := s_law_below (k + 10) n (c3 + 3) 2 t5 p5 (by omega) (by omega) (by omega)
  have e7 := s_cooled (k + 1) b w s t6 4 9 9 3 hb.pos hb.ne hb.bd z4 zs lb (by omega) s0 s1
  have e8 := s_same_brd (k + 7) (b.map (cool w s)) t6 (by simpa using lb)
  have cb : D.tup (b.map fun x => tp (cool w s x)) = brd (b.map (cool w s)) := by simp [brd]
  have step : ∀ (o' : List Tap) (t7 : List Ob), Oth o' → ∃ b8 b9, evSs (prm T (call T (k + 11))) (.cons (.par (.cons (.v 8) (.cons (.v 9) .nil)) (.cons (.call "does_cover" (.cons (.var 2) (.cons (.var 5) .nil))) (.cons (.call "does_cover" (.cons (.var 4) (.cons (.call "cooled" (.cons (.var 5) (.cons (.var 6) (.cons (.var 7) .nil)))) .nil))) .nil))) (.cons (.ite (.or (.and (.var 8) (.not (.var 9))) (.and (.cmp .ne (.var 7) (.tup (.cons (.int 1) (.cons (.int 1) .nil)))) (.and (.var 9) (.not (.var 8))))) (.cons (.ret (.bl false)) .nil) .nil) .nil)) ⟨[.val (.ref n), .val (.int i), .val (brd b), .val (brd (b.map (cool w s))), .val (brd (b.map (cool w s))), .val (brd o'), .val (fr w), .val (fr s), o8, o9, o10, o11], t7⟩ =
      .nx ⟨[.val (.ref n), .val (.int i), .val (brd b), .val (brd (b.map (cool w s))), .val (brd (b.map (cool w s))), .val (brd o'), .val (fr w), .val (fr s), b8, b9, o10, o11], t7⟩ := fun o' t7 ho' => by
    obtain ⟨f1, f2, f3⟩ := covers2 k b o' w s t7 hb ho' z4 zs s0 s1
    have imp1 := @cov_cool b o' w s s1
    have imp2 := @cov_uncool b o' w s
    refine ⟨.val (.bl (decide (Cov b o'))), .val (.bl (decide (Cov (b.map (cool w s)) (o'.map (cool w s))))), ?_⟩
    by_cases g1 : Cov b o'
    · have g2 := imp1 g1
      by_cases h1 : s = 1
      · simp [f1, f2, f3, g1, g2, fr1, eq_true h1]
      · simp [f1, f2, f3, g1, g2, fr1, eq_false h1]
    · by_cases g2 : Cov (b.map (cool w s)) (o'.map (cool w s))
      · have h1 : s = 1 := by
          by_cases h : s < 1
          · exact absurd (imp2 h g2) g1
          · grind
        simp [f1, f2, f3, g1, g2, fr1, eq_true h1]
      · by_cases h1 : s = 1
        · simp [f1, f2, f3, g1, g2, fr1, eq_true h1]
        · simp [f1, f2, f3, g1, g2, fr1, eq_false h1]
  have key : ∀ f, evSs (prm T (call T (k + 11))) (.cons (.set (.v 4) (.ite (.cmp .eq (.call "_law_below" (.cons (.var 0) (.cons (.int 2) .nil))) (.int 0)) (.callk "cooled" 0 ["share", "warmth", "board"] [2, 1, 0] .nil (.cons (.var 7) (.cons (.var 6) (.cons (.var 2) .nil)))) (.call "cooled" (.cons (.var 2) (.cons (.var 6) (.cons (.var 7) .nil)))))) f) ⟨[.val (.ref n), .val (.int i), .val (brd b), .val (brd (b.map (cool w s))), o4, .val (brd o), .val (fr w), .val (fr s), o8, o9, o10, o11], t5⟩ =
      evSs (prm T (call T (k + 11))) f ⟨[.val (.ref n), .val (.int i), .val (brd b), .val (brd (b.map (cool w s))), .val (brd (b.map (cool w s))), .val (brd o), .val (fr w), .val (fr s), o8, o9, o10, o11], t6⟩ := fun f => by
    by_cases q : x = 0
    · subst q
      simp [e6, permArgs, e7]
    · have : x = 1 := by omega
      subst this
      simp [e6, e7]
  have e2' : call T (k + 11) "_law_board" [.ref n, .int 4] t1 = .ok (brd o) t2 := e2
  have e1' : call T (k + 11) "_law_board" [.ref n, .int 8] t = .ok (brd b) t1 := e1
  have l6 : b.length ≤ 1000000 := by omega
  by_cases gi : 6 < i
  · obtain ⟨pd, t7, c7, e9, hpd, p7, q7⟩ := s_law_poured (k + 7) n (c3 + 4) b t6 hb p6 (by omega)
    obtain ⟨b8, b9, e10⟩ := step pd t7 ⟨hpd.pos, hpd.bd, hpd.ne, by have := hpd.len; omega⟩
    refine ⟨t7, c7, .val (brd (b.map (cool w s))), .val (brd (b.map (cool w s))), .val (brd pd), .val (fr w), .val (fr s), b8, b9, .val (brd b), ?_, p7, by omega⟩
    simp [-ss_cons, bodyF, rightB]
    rw [ss_cons]
    simp [-ss_cons, e1', e2']
    rw [ss_cons]
    simp [-ss_cons, e3]
    rw [ss_cons]
    simp [-ss_cons, e4, e5]
    rw [ss_cons]
    simp [-ss_cons, c6, cb, l6]
    rw [key, ss_cons]
    simp [-ss_cons, e8]
    rw [ss_cons]
    simp [-ss_cons, gi]
    rw [ss_cons]
    simp [-ss_cons, e9]
    exact e10
  · obtain ⟨b8, b9, e10⟩ := step o t6 ⟨ho.pos, Bd_le ho.bd (by omega) (by omega), ho.ne, ho.len⟩
    refine ⟨t6, c3 + 4, .val (brd (b.map (cool w s))), .val (brd (b.map (cool w s))), .val (brd o), .val (fr w), .val (fr s), b8, b9, .val (brd b), ?_, p6, by omega⟩
    simp [-ss_cons, bodyF, rightB]
    rw [ss_cons]
    simp [-ss_cons, e1', e2']
    rw [ss_cons]
    simp [-ss_cons, e3]
    rw [ss_cons]
    simp [-ss_cons, e4, e5]
    rw [ss_cons]
    simp [-ss_cons, c6, cb, l6]
    rw [key, ss_cons]
    simp [-ss_cons, e8]
    rw [ss_cons]
    simp [-ss_cons, gi]
    exact e10
end Cd

set_option linter.all false
set_option maxRecDepth 100000
namespace Cd
open PySem Z ZP Q
def b0 : List Tap := [(3, 60), (2, 20), (5, 10)]
theorem cb0 : D.tup [.tup [.tup [.int 3, .int 1], .tup [.int 60, .int 1]], .tup [.tup [.int 2, .int 1], fr 20], .tup [fr 5, fr 10]] = brd b0 := rfl
theorem b0_pos : Pos b0 := by unfold Q.Pos b0; simp; decide
theorem b0_bd : Bds 4 9 b0 := by unfold Bds b0; simp; decide
theorem s_law_right (k n : Nat) (t : List Ob) (hp : PoolAt n 0 t) : ∃ t', call T (k + 12) "_law_right" [.ref n] t = .ok (.bl true) t' := by
  rw [call_s fn__law_right]
  obtain ⟨s1, e1, c1, t1, o1, o2, o3, o4, o5, o6, o7, o8, o9, o10, o11, rfl, p1, q1⟩ := forL_inv (f := bodyF (prm T (call T (k + 11))) (.v 1) rightB) (l := rangeD 0 14) (fun i s => ∃ (c : Nat) (t : List Ob) (o1 o2 o3 o4 o5 o6 o7 o8 o9 o10 o11 : Sl), s = ⟨[.val (.ref n), o1, o2, o3, o4, o5, o6, o7, o8, o9, o10, o11], t⟩ ∧ PoolAt n c t ∧ c ≤ i * 500) (s := ⟨[.val (.ref n), .no, .no, .no, .no, .no, .no, .no, .no, .no, .no, .no], t⟩)
    ⟨0, t, .no, .no, .no, .no, .no, .no, .no, .no, .no, .no, .no, rfl, hp, by omega⟩ (fun i d s hd ⟨c, t, o1, o2, o3, o4, o5, o6, o7, o8, o9, o10, o11, hs, hp, hc⟩ => by
      subst hs
      have hl := (List.getElem?_eq_some_iff.mp hd).1
      rw [rngD_len] at hl
      have ⟨j, hj⟩ : ∃ j : Int, d = .int j := by
        have := List.mem_of_getElem? hd
        simp [rangeD] at this
        obtain ⟨a, _, rfl⟩ := this
        exact ⟨_, rfl⟩
      subst hj
      obtain ⟨t', c', b3, b4, b5, b6, b7, b8, b9, b2, e, p, q⟩ := right_turn k n c j t hp (by omega) o1 o2 o3 o4 o5 o6 o7 o8 o9 o10 o11
      exact ⟨_, e, c', t', _, _, _, _, _, _, _, _, _, _, _, rfl, p, by omega⟩)
  have z5 : sz (5 : Rat) ≤ 3 := by decide
  have z9 : sz (Rat.divInt 9 2) ≤ 4 := by decide
  have n0 : b0 ≠ [] := by decide
  have e2 := s_layer (k + 2) b0 5 t1 4 9 10 b0_pos n0 b0_bd (by omega) (by omega) (by decide) (by omega) (by omega) (by decide)
  have e3 := s_layer (k + 2) b0 (Rat.divInt 9 2) t1 4 9 10 b0_pos n0 b0_bd (by omega) (by omega) (by decide) (by omega) (by omega) (by decide +kernel)
  have e4 := s_middle (k + 2) b0 t1 4 9 b0_pos n0 b0_bd (by omega) (by omega) (by decide)
  rw [if_pos (by decide +kernel), show lay b0 5 = 20 by decide +kernel] at e2
  rw [if_pos (by decide +kernel), show lay b0 (Rat.divInt 9 2) = 10 by decide +kernel] at e3
  rw [show lay b0 (tot b0 / 2) = 20 by decide +kernel] at e4
  have f5 : D.tup [.int 5, .int 1] = fr 5 := rfl
  have f9 : D.tup [.int 9, .int 2] = fr (Rat.divInt 9 2) := fr_mk _ _ _ (by decide) (by decide)
  have f20 : D.tup [.int 20, .int 1] = fr 20 := rfl
  have f10 : D.tup [.int 10, .int 1] = fr 10 := rfl
  have hs : szRng 14 = true := by decide
  refine ⟨t1, ?_⟩
  simp only [rightB] at e1
  simp [runF, startE, lenLine, c__law_right, hs, e1]
  simp only [cb0, f5, f9, f20, f10]
  simp [e2, e3, e4]
theorem s_law_pool (k : Nat) (is : List Int) (lap : Int) (t : List Ob) (h0 : 0 ≤ lap) (h1 : lap ≤ 10) : ∃ (x y : Int), 0 ≤ y ∧ y < 2 ^ 31 ∧ call T (k + 1) "_law_pool" [.scr is, .int lap] t = .ok (.ref t.length) (t ++ [.lst [.int x, .int y, .int 0]]) := by
  rw [call_s fn__law_pool]
  have ⟨cell, hcell⟩ : ∃ cell : Int, cell = (if lap < is.length then is.getD lap.toNat 0 else 16453 * lap + 55860) := ⟨_, rfl⟩
  have gi : lap < is.length → L2.atI is lap = some (is.getD lap.toNat 0) := fun h => by
    have := atN is lap.toNat
    rw [show ((lap.toNat : Nat) : Int) = lap by omega] at this
    rw [this]; simp [List.getD_eq_getElem?_getD, show lap.toNat < is.length by omega]
  obtain ⟨s1, e1, st, o4, rfl, b0, b1⟩ := forL_inv (f := bodyF (prm T (call T k)) (.v 4) (.cons (.set (.v 3) (.bin .mod (.blt .int (.cons (.bin .add (.bin .add (.bin .mul (.var 3) (.int 48271)) (.bin .mod (.blt .int (.cons (.var 4) .nil)) (.int 2147483629))) (.int 11)) .nil)) (.int 2147483647))) .nil)) (l := (cutD is none (some 63)).map .int)
    (fun i s => ∃ (st : Int) (o4 : Sl), s = ⟨[.val (.scr is), .val (.int lap), .val (.int cell), .val (.int st), o4], t⟩ ∧ 0 ≤ st ∧ st < 2 ^ 32) (s := ⟨[.val (.scr is), .val (.int lap), .val (.int cell), .val (.int (3235659 + 7919 * lap)), .no], t⟩) ⟨_, _, rfl, by omega, by omega⟩ (fun i d s hd ⟨st, o4, hs, b0, b1⟩ => by
      subst hs
      have ⟨j, hj⟩ : ∃ j : Int, d = .int j := by
        have := List.mem_of_getElem? hd
        obtain ⟨a, _, rfl⟩ := List.mem_map.mp this
        exact ⟨_, rfl⟩
      subst hj
      have z : szMul st 48271 = true := szm (m := 32) (n := 16) (by omega) (by decide) (by omega) (by omega) (by omega)
      refine ⟨⟨[.val (.scr is), .val (.int lap), .val (.int cell), .val (.int ((st * 48271 + j % 2147483629 + 11) % 2147483647)), .val (.int j)], t⟩, ?_, _, _, rfl, Int.emod_nonneg _ (by omega), ?_⟩
      · simp [bodyF, z]
      · have := Int.emod_lt_of_pos (st * 48271 + j % 2147483629 + 11) (b := 2147483647) (by omega)
        omega)
  have z1 : szMul 7919 lap = true := szm (m := 13) (n := 4) (by decide) (by omega) (by omega) (by omega) (by omega)
  have z2 : szMul 16453 lap = true := szm (m := 15) (n := 4) (by decide) (by omega) (by omega) (by omega) (by omega)
  have z3 : szMul st 69621 = true := szm (m := 32) (n := 17) (by omega) (by decide) (by omega) (by omega) (by omega)
  have y0 := Int.emod_nonneg cell (b := 2147483629) (by omega)
  have y1 := Int.emod_lt_of_pos cell (b := 2147483629) (by omega)
  have z4 : szMul (cell % 2147483629) 16807 = true := szm (m := 31) (n := 15) (by omega) (by decide) (by omega) (by omega) (by omega)
  have w0 := Int.emod_nonneg (st * 69621 + cell % 2147483629 * 16807 + 7) (b := 2147483647) (by omega)
  have w1 := Int.emod_lt_of_pos (st * 69621 + cell % 2147483629 * 16807 + 7) (b := 2147483647) (by omega)
  have pw : binD .pow (.int 10) (.int 18) = some (.int 1000000000000000000) := by
    show (if szPow 10 18 then some (D.int ((10 : Int) ^ (18 : Int).toNat)) else none) = _
    rw [if_pos (by decide +kernel)]; rfl
  refine ⟨if cell < 0 ∨ 1000000000000000000 ≤ cell then (if cell < 0 then -cell else cell) else 0, (st * 69621 + cell % 2147483629 * 16807 + 7) % 2147483647, w0, by omega, ?_⟩
  have sl : slcD (.scr is) none (some 63) = some (.lst ((cutD is none (some 63)).map .int)) := rfl
  by_cases c : lap < is.length
  · rw [if_pos c] at hcell
    have gi := gi c
    rw [← hcell] at gi
    by_cases c2 : cell < 0
    · simp [runF, startE, lenLine, c__law_pool, c, gi, z1, sl, e1, z3, z4, pw, c2]
    · by_cases c3 : 1000000000000000000 ≤ cell
      · simp [runF, startE, lenLine, c__law_pool, c, gi, z1, sl, e1, z3, z4, pw, c2, c3]
      · simp [runF, startE, lenLine, c__law_pool, c, gi, z1, sl, e1, z3, z4, pw, c2, c3]
  · rw [if_neg c] at hcell
    have ce : 16453 * lap + 55860 = cell := hcell.symm
    by_cases c2 : cell < 0
    · simp [runF, startE, lenLine, c__law_pool, c, z2, ce, z1, sl, e1, z3, z4, pw, c2]
    · by_cases c3 : 1000000000000000000 ≤ cell
      · simp [runF, startE, lenLine, c__law_pool, c, z2, ce, z1, sl, e1, z3, z4, pw, c2, c3]
      · simp [runF, startE, lenLine, c__law_pool, c, z2, ce, z1, sl, e1, z3, z4, pw, c2, c3]
theorem law_plain (is : List Int) : ∃ t, call T 13 "law" [.scr is] [] = .ok (.bl true) t := by
  rw [call_s fn_law]
  have ⟨m, hm, m0, m1⟩ : ∃ m : Int, m = (if 1 < (if 2 < (is.length : Int) then 2 else (is.length : Int)) then (if 2 < (is.length : Int) then 2 else (is.length : Int)) else 1) ∧ 1 ≤ m ∧ m ≤ 2 := ⟨_, rfl, by split <;> split <;> omega, by split <;> split <;> omega⟩
  obtain ⟨xs, t', e, _, l, r⟩ := compL_ix (I := fun _ _ => True) (R := fun _ x => x = .bl true) (f := compF (prm T (call T 12)) (.call "_law_right" (.cons (.call "_law_pool" (.cons (.var 0) (.cons (.var 1) .nil))) .nil)) (.v 1) (.bl true) [1] [.val (.scr is), .no]) (l := rangeD 0 m) (t := []) True.intro (fun i d t hd _ => by
    have hl := (List.getElem?_eq_some_iff.mp hd).1
    rw [rngD_len] at hl
    have ⟨j, hj, j0, j1⟩ : ∃ j : Int, d = .int j ∧ 0 ≤ j ∧ j ≤ 10 := by
      have := List.mem_of_getElem? hd
      simp [rangeD] at this
      obtain ⟨a, ha, rfl⟩ := this
      exact ⟨_, rfl, by omega, by omega⟩
    subst hj
    obtain ⟨x, y, y0, y1, e1⟩ := s_law_pool 11 is j t j0 j1
    obtain ⟨t2, e2⟩ := s_law_right 0 t.length (t ++ [.lst [.int x, .int y, .int 0]]) ⟨x, y, 0, by simp, y0, y1, by omega, by omega⟩
    exact ⟨_, t2, by simp [compF, wipeE, testE, turnE, e1, e2], True.intro, rfl⟩)
  have hx : xs = xs.map fun _ => D.bl true := by
    apply List.ext_getElem
    · simp
    · intro i h1 h2
      simp; exact r i _ (List.getElem?_eq_getElem h1)
  have bs : boolsD xs = some (xs.map fun _ => true) := by rw [hx]; simpa using bools_true xs
  rw [rngD_len] at l
  refine ⟨t', ?_⟩
  have zr : szRng m = true := by simp [szRng]; omega
  have lx : xs.length ≤ 1000000 := by omega
  simp [runF, startE, lenLine, c_law, ← hm, zr, e, lx, bs]
end Cd

set_option linter.all false
set_option maxRecDepth 100000
namespace Hd
open PySem PySem.Spec PyProof.Rows L2 Z
section
variable {K : PySem.W.Frag} {h : Heap} {mg : Str → Option Value} (X : K.In h) (G : h.Ns mainGlobals mg) (c : He.SaysD fa fn K)
include X G c
theorem def_plain_of : DefF K mg "plain_of" Cd.c_plain_of :=
  mkDef X G c 0 0 (d := dOf "plain_of" none "plain_of" (top 4)) rfl rfl rfl rfl rfl rfl (N := Cd.n_plain_of) (ps := ["top", "bottom"]) ⟨rfl, rfl, rfl, by decide +kernel, rfl, by decide +kernel, by decide +kernel⟩
    (fun _ _ _ _ _ _ us hl => match us, hl with | [_, _], _ => rfl) (fun _ hq => nomatch hq) rfl rfl (by decide +kernel)
theorem def_plus : DefF K mg "plus" Cd.c_plus :=
  mkDef X G c 1 1 (d := dOf "plus" none "plus" (top 5)) rfl rfl rfl rfl rfl rfl (N := Cd.n_plus) (ps := ["one", "other"]) ⟨rfl, rfl, rfl, by decide +kernel, rfl, by decide +kernel, by decide +kernel⟩
    (fun _ _ _ _ _ _ us hl => match us, hl with | [_, _], _ => rfl) (fun _ hq => nomatch hq) rfl rfl (by decide +kernel)
theorem def_minus : DefF K mg "minus" Cd.c_minus :=
  mkDef X G c 2 2 (d := dOf "minus" none "minus" (top 6)) rfl rfl rfl rfl rfl rfl (N := Cd.n_minus) (ps := ["one", "other"]) ⟨rfl, rfl, rfl, by decide +kernel, rfl, by decide +kernel, by decide +kernel⟩
    (fun _ _ _ _ _ _ us hl => match us, hl with | [_, _], _ => rfl) (fun _ hq => nomatch hq) rfl rfl (by decide +kernel)
theorem def_times : DefF K mg "times" Cd.c_times :=
  mkDef X G c 3 3 (d := dOf "times" none "times" (top 7)) rfl rfl rfl rfl rfl rfl (N := Cd.n_times) (ps := ["one", "other"]) ⟨rfl, rfl, rfl, by decide +kernel, rfl, by decide +kernel, by decide +kernel⟩
    (fun _ _ _ _ _ _ us hl => match us, hl with | [_, _], _ => rfl) (fun _ hq => nomatch hq) rfl rfl (by decide +kernel)
theorem def_over : DefF K mg "over" Cd.c_over :=
  mkDef X G c 4 4 (d := dOf "over" none "over" (top 8)) rfl rfl rfl rfl rfl rfl (N := Cd.n_over) (ps := ["one", "other"]) ⟨rfl, rfl, rfl, by decide +kernel, rfl, by decide +kernel, by decide +kernel⟩
    (fun _ _ _ _ _ _ us hl => match us, hl with | [_, _], _ => rfl) (fun _ hq => nomatch hq) rfl rfl (by decide +kernel)
theorem def_is_less : DefF K mg "is_less" Cd.c_is_less :=
  mkDef X G c 5 5 (d := dOf "is_less" none "is_less" (top 9)) rfl rfl rfl rfl rfl rfl (N := Cd.n_is_less) (ps := ["one", "other"]) ⟨rfl, rfl, rfl, by decide +kernel, rfl, by decide +kernel, by decide +kernel⟩
    (fun _ _ _ _ _ _ us hl => match us, hl with | [_, _], _ => rfl) (fun _ hq => nomatch hq) rfl rfl (by decide +kernel)
theorem def_greater_of : DefF K mg "greater_of" Cd.c_greater_of :=
  mkDef X G c 6 6 (d := dOf "greater_of" none "greater_of" (top 10)) rfl rfl rfl rfl rfl rfl (N := Cd.n_greater_of) (ps := ["one", "other"]) ⟨rfl, rfl, rfl, by decide +kernel, rfl, by decide +kernel, by decide +kernel⟩
    (fun _ _ _ _ _ _ us hl => match us, hl with | [_, _], _ => rfl) (fun _ hq => nomatch hq) rfl rfl (by decide +kernel)
theorem def_above_of : DefF K mg "above_of" Cd.c_above_of :=
  mkDef X G c 7 7 (d := dOf "above_of" none "above_of" (top 11)) rfl rfl rfl rfl rfl rfl (N := Cd.n_above_of) (ps := ["fraction"]) ⟨rfl, rfl, rfl, by decide +kernel, rfl, by decide +kernel, by decide +kernel⟩
    (fun _ _ _ _ _ _ us hl => match us, hl with | [_], _ => rfl) (fun _ hq => nomatch hq) rfl rfl (by decide +kernel)
theorem def_sum_of : DefF K mg "sum_of" Cd.c_sum_of :=
  mkDef X G c 8 8 (d := dOf "sum_of" none "sum_of" (top 12)) rfl rfl rfl rfl rfl rfl (N := Cd.n_sum_of) (ps := ["fractions"]) ⟨rfl, rfl, rfl, by decide +kernel, rfl, by decide +kernel, by decide +kernel⟩
    (fun _ _ _ _ _ _ us hl => match us, hl with | [_], _ => rfl) (fun _ hq => nomatch hq) rfl rfl (by decide +kernel)
theorem def_rising_places : DefF K mg "rising_places" Cd.c_rising_places :=
  mkDef X G c 9 9 (d := dOf "rising_places" none "rising_places" (top 13)) rfl rfl rfl rfl rfl rfl (N := Cd.n_rising_places) (ps := ["fractions"]) ⟨rfl, rfl, rfl, by decide +kernel, rfl, by decide +kernel, by decide +kernel⟩
    (fun _ _ _ _ _ _ us hl => match us, hl with | [_], _ => rfl) (fun _ hq => nomatch hq) rfl rfl (by decide +kernel)
theorem def_total_of : DefF K mg "total_of" Cd.c_total_of :=
  mkDef X G c 10 10 (d := dOf "total_of" none "total_of" (top 15)) rfl rfl rfl rfl rfl rfl (N := Cd.n_total_of) (ps := ["board"]) ⟨rfl, rfl, rfl, by decide +kernel, rfl, by decide +kernel, by decide +kernel⟩
    (fun _ _ _ _ _ _ us hl => match us, hl with | [_], _ => rfl) (fun _ hq => nomatch hq) rfl rfl (by decide +kernel)
theorem def_excess_of : DefF K mg "excess_of" Cd.c_excess_of :=
  mkDef X G c 11 11 (d := dOf "excess_of" none "excess_of" (top 16)) rfl rfl rfl rfl rfl rfl (N := Cd.n_excess_of) (ps := ["board", "warmth"]) ⟨rfl, rfl, rfl, by decide +kernel, rfl, by decide +kernel, by decide +kernel⟩
    (fun _ _ _ _ _ _ us hl => match us, hl with | [_, _], _ => rfl) (fun _ hq => nomatch hq) rfl rfl (by decide +kernel)
theorem def_lack_of : DefF K mg "lack_of" Cd.c_lack_of :=
  mkDef X G c 12 12 (d := dOf "lack_of" none "lack_of" (top 17)) rfl rfl rfl rfl rfl rfl (N := Cd.n_lack_of) (ps := ["board", "warmth"]) ⟨rfl, rfl, rfl, by decide +kernel, rfl, by decide +kernel, by decide +kernel⟩
    (fun _ _ _ _ _ _ us hl => match us, hl with | [_, _], _ => rfl) (fun _ hq => nomatch hq) rfl rfl (by decide +kernel)
theorem def_rising_taps : DefF K mg "rising_taps" Cd.c_rising_taps :=
  mkDef X G c 13 13 (d := dOf "rising_taps" none "rising_taps" (top 18)) rfl rfl rfl rfl rfl rfl (N := Cd.n_rising_taps) (ps := ["board"]) ⟨rfl, rfl, rfl, by decide +kernel, rfl, by decide +kernel, by decide +kernel⟩
    (fun _ _ _ _ _ _ us hl => match us, hl with | [_], _ => rfl) (fun _ hq => nomatch hq) rfl rfl (by decide +kernel)
theorem def_is_whole : DefF K mg "is_whole" Cd.c_is_whole :=
  mkDef X G c 16 18 (d := dOf "is_whole" none "is_whole" (top 25)) rfl rfl rfl rfl rfl rfl (N := Cd.n_is_whole) (ps := ["value"]) ⟨rfl, rfl, rfl, by decide +kernel, rfl, by decide +kernel, by decide +kernel⟩
    (fun _ _ _ _ _ _ us hl => match us, hl with | [_], _ => rfl) (fun _ hq => nomatch hq) rfl rfl (by decide +kernel)
theorem def_is_from : DefF K mg "is_from" Cd.c_is_from :=
  mkDef X G c 17 19 (d := dOf "is_from" none "is_from" (top 26)) rfl rfl rfl rfl rfl rfl (N := Cd.n_is_from) (ps := ["value", "least"]) ⟨rfl, rfl, rfl, by decide +kernel, rfl, by decide +kernel, by decide +kernel⟩
    (fun _ _ _ _ _ _ us hl => match us, hl with | [_, _], _ => rfl) (fun _ hq => nomatch hq) rfl rfl (by decide +kernel)
theorem def_is_text : DefF K mg "is_text" Cd.c_is_text :=
  mkDef X G c 18 20 (d := dOf "is_text" none "is_text" (top 27)) rfl rfl rfl rfl rfl rfl (N := Cd.n_is_text) (ps := ["value"]) ⟨rfl, rfl, rfl, by decide +kernel, rfl, by decide +kernel, by decide +kernel⟩
    (fun _ _ _ _ _ _ us hl => match us, hl with | [_], _ => rfl) (fun _ hq => nomatch hq) rfl rfl (by decide +kernel)
theorem def_is_named : DefF K mg "is_named" Cd.c_is_named :=
  mkDef X G c 19 21 (d := dOf "is_named" none "is_named" (top 28)) rfl rfl rfl rfl rfl rfl (N := Cd.n_is_named) (ps := ["value", "names"]) ⟨rfl, rfl, rfl, by decide +kernel, rfl, by decide +kernel, by decide +kernel⟩
    (fun _ _ _ _ _ _ us hl => match us, hl with | [_, _], _ => rfl) (fun _ hq => nomatch hq) rfl rfl (by decide +kernel)
theorem def_is_tuple_up_to : DefF K mg "is_tuple_up_to" Cd.c_is_tuple_up_to :=
  mkDef X G c 20 22 (d := dOf "is_tuple_up_to" none "is_tuple_up_to" (top 29)) rfl rfl rfl rfl rfl rfl (N := Cd.n_is_tuple_up_to) (ps := ["value", "low", "high"]) ⟨rfl, rfl, rfl, by decide +kernel, rfl, by decide +kernel, by decide +kernel⟩
    (fun _ _ _ _ _ _ us hl => match us, hl with | [_, _, _], _ => rfl) (fun _ hq => nomatch hq) rfl rfl (by decide +kernel)
theorem def_is_tuple_of : DefF K mg "is_tuple_of" Cd.c_is_tuple_of :=
  mkDef X G c 21 23 (d := dOf "is_tuple_of" none "is_tuple_of" (top 30)) rfl rfl rfl rfl rfl rfl (N := Cd.n_is_tuple_of) (ps := ["value", "many"]) ⟨rfl, rfl, rfl, by decide +kernel, rfl, by decide +kernel, by decide +kernel⟩
    (fun _ _ _ _ _ _ us hl => match us, hl with | [_, _], _ => rfl) (fun _ hq => nomatch hq) rfl rfl (by decide +kernel)
theorem def_is_pair : DefF K mg "is_pair" Cd.c_is_pair :=
  mkDef X G c 22 24 (d := dOf "is_pair" none "is_pair" (top 31)) rfl rfl rfl rfl rfl rfl (N := Cd.n_is_pair) (ps := ["value"]) ⟨rfl, rfl, rfl, by decide +kernel, rfl, by decide +kernel, by decide +kernel⟩
    (fun _ _ _ _ _ _ us hl => match us, hl with | [_], _ => rfl) (fun _ hq => nomatch hq) rfl rfl (by decide +kernel)
theorem def_is_fraction_of : DefF K mg "is_fraction_of" Cd.c_is_fraction_of :=
  mkDef X G c 23 29 (d := dOf "is_fraction_of" none "is_fraction_of" (top 37)) rfl rfl rfl rfl rfl rfl (N := Cd.n_is_fraction_of) (ps := ["value"]) ⟨rfl, rfl, rfl, by decide +kernel, rfl, by decide +kernel, by decide +kernel⟩
    (fun _ _ _ _ _ _ us hl => match us, hl with | [_], _ => rfl) (fun _ hq => nomatch hq) rfl rfl (by decide +kernel)
theorem def_is_from_nought : DefF K mg "is_from_nought" Cd.c_is_from_nought :=
  mkDef X G c 24 30 (d := dOf "is_from_nought" none "is_from_nought" (top 38)) rfl rfl rfl rfl rfl rfl (N := Cd.n_is_from_nought) (ps := ["value"]) ⟨rfl, rfl, rfl, by decide +kernel, rfl, by decide +kernel, by decide +kernel⟩
    (fun _ _ _ _ _ _ us hl => match us, hl with | [_], _ => rfl) (fun _ hq => nomatch hq) rfl rfl (by decide +kernel)
theorem def_is_above_nought : DefF K mg "is_above_nought" Cd.c_is_above_nought :=
  mkDef X G c 25 31 (d := dOf "is_above_nought" none "is_above_nought" (top 39)) rfl rfl rfl rfl rfl rfl (N := Cd.n_is_above_nought) (ps := ["value"]) ⟨rfl, rfl, rfl, by decide +kernel, rfl, by decide +kernel, by decide +kernel⟩
    (fun _ _ _ _ _ _ us hl => match us, hl with | [_], _ => rfl) (fun _ hq => nomatch hq) rfl rfl (by decide +kernel)
theorem def_is_tap : DefF K mg "is_tap" Cd.c_is_tap :=
  mkDef X G c 26 32 (d := dOf "is_tap" none "is_tap" (top 40)) rfl rfl rfl rfl rfl rfl (N := Cd.n_is_tap) (ps := ["value"]) ⟨rfl, rfl, rfl, by decide +kernel, rfl, by decide +kernel, by decide +kernel⟩
    (fun _ _ _ _ _ _ us hl => match us, hl with | [_], _ => rfl) (fun _ hq => nomatch hq) rfl rfl (by decide +kernel)
theorem def_is_board_of : DefF K mg "is_board_of" Cd.c_is_board_of :=
  mkDef X G c 27 33 (d := dOf "is_board_of" none "is_board_of" (top 41)) rfl rfl rfl rfl rfl rfl (N := Cd.n_is_board_of) (ps := ["value"]) ⟨rfl, rfl, rfl, by decide +kernel, rfl, by decide +kernel, by decide +kernel⟩
    (fun _ _ _ _ _ _ us hl => match us, hl with | [_], _ => rfl) (fun _ hq => nomatch hq) rfl rfl (by decide +kernel)
theorem def_is_bar : DefF K mg "is_bar" Cd.c_is_bar :=
  mkDef X G c 28 34 (d := dOf "is_bar" none "is_bar" (top 42)) rfl rfl rfl rfl rfl rfl (N := Cd.n_is_bar) (ps := ["value"]) ⟨rfl, rfl, rfl, by decide +kernel, rfl, by decide +kernel, by decide +kernel⟩
    (fun _ _ _ _ _ _ us hl => match us, hl with | [_], _ => rfl) (fun _ hq => nomatch hq) rfl rfl (by decide +kernel)
theorem def_check_fraction : DefF K mg "check_fraction" Cd.c_check_fraction :=
  mkDef X G c 29 35 (d := dOf "check_fraction" none "check_fraction" (top 43)) rfl rfl rfl rfl rfl rfl (N := Cd.n_check_fraction) (ps := ["value"]) ⟨rfl, rfl, rfl, by decide +kernel, rfl, by decide +kernel, by decide +kernel⟩
    (fun _ _ _ _ _ _ us hl => match us, hl with | [_], _ => rfl) (fun _ hq => nomatch hq) rfl rfl (by decide +kernel)
theorem def_check_volume_from : DefF K mg "check_volume_from" Cd.c_check_volume_from :=
  mkDef X G c 30 36 (d := dOf "check_volume_from" none "check_volume_from" (top 44)) rfl rfl rfl rfl rfl rfl (N := Cd.n_check_volume_from) (ps := ["value"]) ⟨rfl, rfl, rfl, by decide +kernel, rfl, by decide +kernel, by decide +kernel⟩
    (fun _ _ _ _ _ _ us hl => match us, hl with | [_], _ => rfl) (fun _ hq => nomatch hq) rfl rfl (by decide +kernel)
theorem def_check_board : DefF K mg "check_board" Cd.c_check_board :=
  mkDef X G c 31 37 (d := dOf "check_board" none "check_board" (top 45)) rfl rfl rfl rfl rfl rfl (N := Cd.n_check_board) (ps := ["board"]) ⟨rfl, rfl, rfl, by decide +kernel, rfl, by decide +kernel, by decide +kernel⟩
    (fun _ _ _ _ _ _ us hl => match us, hl with | [_], _ => rfl) (fun _ hq => nomatch hq) rfl rfl (by decide +kernel)
theorem def_check_warmth : DefF K mg "check_warmth" Cd.c_check_warmth :=
  mkDef X G c 32 38 (d := dOf "check_warmth" none "check_warmth" (top 47)) rfl rfl rfl rfl rfl rfl (N := Cd.n_check_warmth) (ps := ["board", "warmth"]) ⟨rfl, rfl, rfl, by decide +kernel, rfl, by decide +kernel, by decide +kernel⟩
    (fun _ _ _ _ _ _ us hl => match us, hl with | [_, _], _ => rfl) (fun _ hq => nomatch hq) rfl rfl (by decide +kernel)
theorem def_ends_of : DefF K mg "ends_of" Cd.c_ends_of :=
  mkDef X G c 33 39 (d := dOf "ends_of" none "ends_of" (top 49)) rfl rfl rfl rfl rfl rfl (N := Cd.n_ends_of) (ps := ["board"]) ⟨rfl, rfl, rfl, by decide +kernel, rfl, by decide +kernel, by decide +kernel⟩
    (fun _ _ _ _ _ _ us hl => match us, hl with | [_], _ => rfl) (fun _ hq => nomatch hq) rfl rfl (by decide +kernel)
theorem def_bars_of : DefF K mg "bars_of" Cd.c_bars_of :=
  mkDef X G c 34 40 (d := dOf "bars_of" none "bars_of" (top 50)) rfl rfl rfl rfl rfl rfl (N := Cd.n_bars_of) (ps := ["board"]) ⟨rfl, rfl, rfl, by decide +kernel, rfl, by decide +kernel, by decide +kernel⟩
    (fun _ _ _ _ _ _ us hl => match us, hl with | [_], _ => rfl) (fun _ hq => nomatch hq) rfl rfl (by decide +kernel)
theorem def_cooled_by : DefF K mg "cooled_by" Cd.c_cooled_by :=
  mkDef X G c 35 41 (d := dOf "cooled_by" none "cooled_by" (top 52)) rfl rfl rfl rfl rfl rfl (N := Cd.n_cooled_by) (ps := ["board", "ambient", "share"]) ⟨rfl, rfl, rfl, by decide +kernel, rfl, by decide +kernel, by decide +kernel⟩
    (fun _ _ _ _ _ _ us hl => match us, hl with | [_, _, _], _ => rfl) (fun _ hq => nomatch hq) rfl rfl (by decide +kernel)
theorem def_layer_by : DefF K mg "layer_by" Cd.c_layer_by :=
  mkDef X G c 36 42 (d := dOf "layer_by" none "layer_by" (top 53)) rfl rfl rfl rfl rfl rfl (N := Cd.n_layer_by) (ps := ["board", "volume"]) ⟨rfl, rfl, rfl, by decide +kernel, rfl, by decide +kernel, by decide +kernel⟩
    (fun _ _ _ _ _ _ us hl => match us, hl with | [_, _], _ => rfl) (fun _ hq => nomatch hq) rfl rfl (by decide +kernel)
theorem def_middle_by : DefF K mg "middle_by" Cd.c_middle_by :=
  mkDef X G c 37 43 (d := dOf "middle_by" none "middle_by" (top 54)) rfl rfl rfl rfl rfl rfl (N := Cd.n_middle_by) (ps := ["board"]) ⟨rfl, rfl, rfl, by decide +kernel, rfl, by decide +kernel, by decide +kernel⟩
    (fun _ _ _ _ _ _ us hl => match us, hl with | [_], _ => rfl) (fun _ hq => nomatch hq) rfl rfl (by decide +kernel)
theorem def_colder_by : DefF K mg "colder_by" Cd.c_colder_by :=
  mkDef X G c 38 44 (d := dOf "colder_by" none "colder_by" (top 55)) rfl rfl rfl rfl rfl rfl (N := Cd.n_colder_by) (ps := ["board", "warmth"]) ⟨rfl, rfl, rfl, by decide +kernel, rfl, by decide +kernel, by decide +kernel⟩
    (fun _ _ _ _ _ _ us hl => match us, hl with | [_, _], _ => rfl) (fun _ hq => nomatch hq) rfl rfl (by decide +kernel)
theorem def_cooled : DefF K mg "cooled" Cd.c_cooled :=
  mkDef X G c 39 45 (d := dOf "cooled" none "cooled" (top 57)) rfl rfl rfl rfl rfl rfl (N := Cd.n_cooled) (ps := ["board", "warmth", "share"]) ⟨rfl, rfl, rfl, by decide +kernel, rfl, by decide +kernel, by decide +kernel⟩
    (fun _ _ _ _ _ _ us hl => match us, hl with | [_, _, _], _ => rfl) (fun q hq => by
      simp only [Cd.c_cooled, List.mem_cons, List.not_mem_nil, or_false] at hq
      rcases hq with rfl
      · exact (fun _ _ _ _ _ _ us ws h1 h2 => match us, ws, h1, h2 with | [], [_, _, _], _, _ => rfl)) rfl rfl (by decide +kernel)
theorem def_layer : DefF K mg "layer" Cd.c_layer :=
  mkDef X G c 40 46 (d := dOf "layer" none "layer" (top 58)) rfl rfl rfl rfl rfl rfl (N := Cd.n_layer) (ps := ["board", "volume_from"]) ⟨rfl, rfl, rfl, by decide +kernel, rfl, by decide +kernel, by decide +kernel⟩
    (fun _ _ _ _ _ _ us hl => match us, hl with | [_, _], _ => rfl) (fun q hq => by
      simp only [Cd.c_layer, List.mem_cons, List.not_mem_nil, or_false] at hq
      rcases hq with rfl
      · exact (fun _ _ _ _ _ _ us ws h1 h2 => match us, ws, h1, h2 with | [], [_, _], _, _ => rfl)) rfl rfl (by decide +kernel)
theorem def_middle : DefF K mg "middle" Cd.c_middle :=
  mkDef X G c 41 47 (d := dOf "middle" none "middle" (top 59)) rfl rfl rfl rfl rfl rfl (N := Cd.n_middle) (ps := ["board"]) ⟨rfl, rfl, rfl, by decide +kernel, rfl, by decide +kernel, by decide +kernel⟩
    (fun _ _ _ _ _ _ us hl => match us, hl with | [_], _ => rfl) (fun q hq => by
      simp only [Cd.c_middle, List.mem_cons, List.not_mem_nil, or_false] at hq
      rcases hq with rfl
      · exact (fun _ _ _ _ _ _ us ws h1 h2 => match us, ws, h1, h2 with | [], [_], _, _ => rfl)) rfl rfl (by decide +kernel)
theorem def_colder_volume : DefF K mg "colder_volume" Cd.c_colder_volume :=
  mkDef X G c 42 48 (d := dOf "colder_volume" none "colder_volume" (top 60)) rfl rfl rfl rfl rfl rfl (N := Cd.n_colder_volume) (ps := ["board", "warmth"]) ⟨rfl, rfl, rfl, by decide +kernel, rfl, by decide +kernel, by decide +kernel⟩
    (fun _ _ _ _ _ _ us hl => match us, hl with | [_, _], _ => rfl) (fun q hq => by
      simp only [Cd.c_colder_volume, List.mem_cons, List.not_mem_nil, or_false] at hq
      rcases hq with rfl
      · exact (fun _ _ _ _ _ _ us ws h1 h2 => match us, ws, h1, h2 with | [], [_, _], _, _ => rfl)) rfl rfl (by decide +kernel)
theorem def_does_part_by : DefF K mg "does_part_by" Cd.c_does_part_by :=
  mkDef X G c 43 49 (d := dOf "does_part_by" none "does_part_by" (top 62)) rfl rfl rfl rfl rfl rfl (N := Cd.n_does_part_by) (ps := ["board", "other", "value"]) ⟨rfl, rfl, rfl, by decide +kernel, rfl, by decide +kernel, by decide +kernel⟩
    (fun _ _ _ _ _ _ us hl => match us, hl with | [_, _, _], _ => rfl) (fun _ hq => nomatch hq) rfl rfl (by decide +kernel)
theorem def_parting_by : DefF K mg "parting_by" Cd.c_parting_by :=
  mkDef X G c 44 50 (d := dOf "parting_by" none "parting_by" (top 63)) rfl rfl rfl rfl rfl rfl (N := Cd.n_parting_by) (ps := ["board", "other"]) ⟨rfl, rfl, rfl, by decide +kernel, rfl, by decide +kernel, by decide +kernel⟩
    (fun _ _ _ _ _ _ us hl => match us, hl with | [_, _], _ => rfl) (fun _ hq => nomatch hq) rfl rfl (by decide +kernel)
theorem def_does_cover_by : DefF K mg "does_cover_by" Cd.c_does_cover_by :=
  mkDef X G c 45 51 (d := dOf "does_cover_by" none "does_cover_by" (top 64)) rfl rfl rfl rfl rfl rfl (N := Cd.n_does_cover_by) (ps := ["board", "other"]) ⟨rfl, rfl, rfl, by decide +kernel, rfl, by decide +kernel, by decide +kernel⟩
    (fun _ _ _ _ _ _ us hl => match us, hl with | [_, _], _ => rfl) (fun _ hq => nomatch hq) rfl rfl (by decide +kernel)
theorem def_check_boards : DefF K mg "check_boards" Cd.c_check_boards :=
  mkDef X G c 46 52 (d := dOf "check_boards" none "check_boards" (top 66)) rfl rfl rfl rfl rfl rfl (N := Cd.n_check_boards) (ps := ["board", "other"]) ⟨rfl, rfl, rfl, by decide +kernel, rfl, by decide +kernel, by decide +kernel⟩
    (fun _ _ _ _ _ _ us hl => match us, hl with | [_, _], _ => rfl) (fun _ hq => nomatch hq) rfl rfl (by decide +kernel)
theorem def_does_cover : DefF K mg "does_cover" Cd.c_does_cover :=
  mkDef X G c 47 53 (d := dOf "does_cover" none "does_cover" (top 67)) rfl rfl rfl rfl rfl rfl (N := Cd.n_does_cover) (ps := ["board", "other"]) ⟨rfl, rfl, rfl, by decide +kernel, rfl, by decide +kernel, by decide +kernel⟩
    (fun _ _ _ _ _ _ us hl => match us, hl with | [_, _], _ => rfl) (fun _ hq => nomatch hq) rfl rfl (by decide +kernel)
theorem def__law_pool : DefF K mg "_law_pool" Cd.c__law_pool :=
  mkDef X G c 48 54 (d := dOf "_law_pool" none "_law_pool" (top 69)) rfl rfl rfl rfl rfl rfl (N := Cd.n__law_pool) (ps := ["script", "lap"]) ⟨rfl, rfl, rfl, by decide +kernel, rfl, by decide +kernel, by decide +kernel⟩
    (fun _ _ _ _ _ _ us hl => match us, hl with | [_, _], _ => rfl) (fun _ hq => nomatch hq) rfl rfl (by decide +kernel)
theorem def__law_plus : DefF K mg "_law_plus" Cd.c__law_plus :=
  mkDef X G c 49 55 (d := dOf "_law_plus" none "_law_plus" (top 70)) rfl rfl rfl rfl rfl rfl (N := Cd.n__law_plus) (ps := ["one", "two"]) ⟨rfl, rfl, rfl, by decide +kernel, rfl, by decide +kernel, by decide +kernel⟩
    (fun _ _ _ _ _ _ us hl => match us, hl with | [_, _], _ => rfl) (fun _ hq => nomatch hq) rfl rfl (by decide +kernel)
theorem def__law_is_less : DefF K mg "_law_is_less" Cd.c__law_is_less :=
  mkDef X G c 50 56 (d := dOf "_law_is_less" none "_law_is_less" (top 71)) rfl rfl rfl rfl rfl rfl (N := Cd.n__law_is_less) (ps := ["one", "two"]) ⟨rfl, rfl, rfl, by decide +kernel, rfl, by decide +kernel, by decide +kernel⟩
    (fun _ _ _ _ _ _ us hl => match us, hl with | [_, _], _ => rfl) (fun _ hq => nomatch hq) rfl rfl (by decide +kernel)
theorem def__law_side : DefF K mg "_law_side" Cd.c__law_side :=
  mkDef X G c 51 57 (d := dOf "_law_side" none "_law_side" (top 72)) rfl rfl rfl rfl rfl rfl (N := Cd.n__law_side) (ps := ["board"]) ⟨rfl, rfl, rfl, by decide +kernel, rfl, by decide +kernel, by decide +kernel⟩
    (fun _ _ _ _ _ _ us hl => match us, hl with | [_], _ => rfl) (fun _ hq => nomatch hq) rfl rfl (by decide +kernel)
theorem def__law_total : DefF K mg "_law_total" Cd.c__law_total :=
  mkDef X G c 52 58 (d := dOf "_law_total" none "_law_total" (top 73)) rfl rfl rfl rfl rfl rfl (N := Cd.n__law_total) (ps := ["board"]) ⟨rfl, rfl, rfl, by decide +kernel, rfl, by decide +kernel, by decide +kernel⟩
    (fun _ _ _ _ _ _ us hl => match us, hl with | [_], _ => rfl) (fun _ hq => nomatch hq) rfl rfl (by decide +kernel)
theorem def__law_times : DefF K mg "_law_times" Cd.c__law_times :=
  mkDef X G c 53 59 (d := dOf "_law_times" none "_law_times" (top 74)) rfl rfl rfl rfl rfl rfl (N := Cd.n__law_times) (ps := ["one", "two"]) ⟨rfl, rfl, rfl, by decide +kernel, rfl, by decide +kernel, by decide +kernel⟩
    (fun _ _ _ _ _ _ us hl => match us, hl with | [_, _], _ => rfl) (fun _ hq => nomatch hq) rfl rfl (by decide +kernel)
theorem def__law_same : DefF K mg "_law_same" Cd.c__law_same :=
  mkDef X G c 54 60 (d := dOf "_law_same" none "_law_same" (top 75)) rfl rfl rfl rfl rfl rfl (N := Cd.n__law_same) (ps := ["told", "due"]) ⟨rfl, rfl, rfl, by decide +kernel, rfl, by decide +kernel, by decide +kernel⟩
    (fun _ _ _ _ _ _ us hl => match us, hl with | [_, _], _ => rfl) (fun _ hq => nomatch hq) rfl rfl (by decide +kernel)
theorem def__law_less : DefF K mg "_law_less" Cd.c__law_less :=
  mkDef X G c 55 61 (d := dOf "_law_less" none "_law_less" (top 76)) rfl rfl rfl rfl rfl rfl (N := Cd.n__law_less) (ps := ["one", "two"]) ⟨rfl, rfl, rfl, by decide +kernel, rfl, by decide +kernel, by decide +kernel⟩
    (fun _ _ _ _ _ _ us hl => match us, hl with | [_, _], _ => rfl) (fun _ hq => nomatch hq) rfl rfl (by decide +kernel)
theorem def__law_alike : DefF K mg "_law_alike" Cd.c__law_alike :=
  mkDef X G c 56 62 (d := dOf "_law_alike" none "_law_alike" (top 77)) rfl rfl rfl rfl rfl rfl (N := Cd.n__law_alike) (ps := ["told", "due"]) ⟨rfl, rfl, rfl, by decide +kernel, rfl, by decide +kernel, by decide +kernel⟩
    (fun _ _ _ _ _ _ us hl => match us, hl with | [_, _], _ => rfl) (fun _ hq => nomatch hq) rfl rfl (by decide +kernel)
theorem def__law_board : DefF K mg "_law_board" Cd.c__law_board :=
  mkDef X G c 57 63 (d := dOf "_law_board" none "_law_board" (top 78)) rfl rfl rfl rfl rfl rfl (N := Cd.n__law_board) (ps := ["pool", "most"]) ⟨rfl, rfl, rfl, by decide +kernel, rfl, by decide +kernel, by decide +kernel⟩
    (fun _ _ _ _ _ _ us hl => match us, hl with | [_, _], _ => rfl) (fun _ hq => nomatch hq) rfl rfl (by decide +kernel)
theorem def__law_fraction : DefF K mg "_law_fraction" Cd.c__law_fraction :=
  mkDef X G c 58 64 (d := dOf "_law_fraction" none "_law_fraction" (top 79)) rfl rfl rfl rfl rfl rfl (N := Cd.n__law_fraction) (ps := ["pool", "low", "high"]) ⟨rfl, rfl, rfl, by decide +kernel, rfl, by decide +kernel, by decide +kernel⟩
    (fun _ _ _ _ _ _ us hl => match us, hl with | [_, _, _], _ => rfl) (fun _ hq => nomatch hq) rfl rfl (by decide +kernel)
theorem def__law_poured : DefF K mg "_law_poured" Cd.c__law_poured :=
  mkDef X G c 59 65 (d := dOf "_law_poured" none "_law_poured" (top 80)) rfl rfl rfl rfl rfl rfl (N := Cd.n__law_poured) (ps := ["pool", "board", "many"]) ⟨rfl, rfl, rfl, by decide +kernel, rfl, by decide +kernel, by decide +kernel⟩
    (fun _ _ _ _ _ _ us hl => match us, hl with | [_, _, _], _ => rfl) (fun _ hq => nomatch hq) rfl rfl (by decide +kernel)
theorem def__law_ratio : DefF K mg "_law_ratio" Cd.c__law_ratio :=
  mkDef X G c 60 66 (d := dOf "_law_ratio" none "_law_ratio" (top 81)) rfl rfl rfl rfl rfl rfl (N := Cd.n__law_ratio) (ps := ["top", "low"]) ⟨rfl, rfl, rfl, by decide +kernel, rfl, by decide +kernel, by decide +kernel⟩
    (fun _ _ _ _ _ _ us hl => match us, hl with | [_, _], _ => rfl) (fun _ hq => nomatch hq) rfl rfl (by decide +kernel)
theorem def__law_sum : DefF K mg "_law_sum" Cd.c__law_sum :=
  mkDef X G c 61 67 (d := dOf "_law_sum" none "_law_sum" (top 82)) rfl rfl rfl rfl rfl rfl (N := Cd.n__law_sum) (ps := ["some"]) ⟨rfl, rfl, rfl, by decide +kernel, rfl, by decide +kernel, by decide +kernel⟩
    (fun _ _ _ _ _ _ us hl => match us, hl with | [_], _ => rfl) (fun _ hq => nomatch hq) rfl rfl (by decide +kernel)
theorem def__law_flow : DefF K mg "_law_flow" Cd.c__law_flow :=
  mkDef X G c 62 68 (d := dOf "_law_flow" none "_law_flow" (top 83)) rfl rfl rfl rfl rfl rfl (N := Cd.n__law_flow) (ps := ["pool"]) ⟨rfl, rfl, rfl, by decide +kernel, rfl, by decide +kernel, by decide +kernel⟩
    (fun _ _ _ _ _ _ us hl => match us, hl with | [_], _ => rfl) (fun _ hq => nomatch hq) rfl rfl (by decide +kernel)
theorem def__law_over : DefF K mg "_law_over" Cd.c__law_over :=
  mkDef X G c 63 69 (d := dOf "_law_over" none "_law_over" (top 84)) rfl rfl rfl rfl rfl rfl (N := Cd.n__law_over) (ps := ["one", "two"]) ⟨rfl, rfl, rfl, by decide +kernel, rfl, by decide +kernel, by decide +kernel⟩
    (fun _ _ _ _ _ _ us hl => match us, hl with | [_, _], _ => rfl) (fun _ hq => nomatch hq) rfl rfl (by decide +kernel)
theorem def__law_below : DefF K mg "_law_below" Cd.c__law_below :=
  mkDef X G c 64 70 (d := dOf "_law_below" none "_law_below" (top 85)) rfl rfl rfl rfl rfl rfl (N := Cd.n__law_below) (ps := ["pool", "many"]) ⟨rfl, rfl, rfl, by decide +kernel, rfl, by decide +kernel, by decide +kernel⟩
    (fun _ _ _ _ _ _ us hl => match us, hl with | [_, _], _ => rfl) (fun _ hq => nomatch hq) rfl rfl (by decide +kernel)
theorem def__law_one : DefF K mg "_law_one" Cd.c__law_one :=
  mkDef X G c 65 71 (d := dOf "_law_one" none "_law_one" (top 86)) rfl rfl rfl rfl rfl rfl (N := Cd.n__law_one) (ps := ["pool", "some"]) ⟨rfl, rfl, rfl, by decide +kernel, rfl, by decide +kernel, by decide +kernel⟩
    (fun _ _ _ _ _ _ us hl => match us, hl with | [_, _], _ => rfl) (fun _ hq => nomatch hq) rfl rfl (by decide +kernel)
theorem def__law_layer : DefF K mg "_law_layer" Cd.c__law_layer :=
  mkDef X G c 66 72 (d := dOf "_law_layer" none "_law_layer" (top 87)) rfl rfl rfl rfl rfl rfl (N := Cd.n__law_layer) (ps := ["rows", "volume"]) ⟨rfl, rfl, rfl, by decide +kernel, rfl, by decide +kernel, by decide +kernel⟩
    (fun _ _ _ _ _ _ us hl => match us, hl with | [_, _], _ => rfl) (fun _ hq => nomatch hq) rfl rfl (by decide +kernel)
theorem def__law_told : DefF K mg "_law_told" Cd.c__law_told :=
  mkDef X G c 67 73 (d := dOf "_law_told" none "_law_told" (top 88)) rfl rfl rfl rfl rfl rfl (N := Cd.n__law_told) (ps := ["board", "volume", "is_named_v"]) ⟨rfl, rfl, rfl, by decide +kernel, rfl, by decide +kernel, by decide +kernel⟩
    (fun _ _ _ _ _ _ us hl => match us, hl with | [_, _, _], _ => rfl) (fun _ hq => nomatch hq) rfl rfl (by decide +kernel)
theorem def__law_are_layers_right : DefF K mg "_law_are_layers_right" Cd.c__law_are_layers_right :=
  mkDef X G c 68 74 (d := dOf "_law_are_layers_right" none "_law_are_layers_right" (top 89)) rfl rfl rfl rfl rfl rfl (N := Cd.n__law_are_layers_right) (ps := ["pool", "board"]) ⟨rfl, rfl, rfl, by decide +kernel, rfl, by decide +kernel, by decide +kernel⟩
    (fun _ _ _ _ _ _ us hl => match us, hl with | [_, _], _ => rfl) (fun _ hq => nomatch hq) rfl rfl (by decide +kernel)
theorem def__law_right : DefF K mg "_law_right" Cd.c__law_right :=
  mkDef X G c 69 75 (d := dOf "_law_right" none "_law_right" (top 90)) rfl rfl rfl rfl rfl rfl (N := Cd.n__law_right) (ps := ["pool"]) ⟨rfl, rfl, rfl, by decide +kernel, rfl, by decide +kernel, by decide +kernel⟩
    (fun _ _ _ _ _ _ us hl => match us, hl with | [_], _ => rfl) (fun _ hq => nomatch hq) rfl rfl (by decide +kernel)
theorem def_law : DefF K mg "law" Cd.c_law :=
  mkDef X G c 70 76 (d := dOf "law" none "law" (top 91)) rfl rfl rfl rfl rfl rfl (N := Cd.n_law) (ps := ["script"]) ⟨rfl, rfl, rfl, by decide +kernel, rfl, by decide +kernel, by decide +kernel⟩
    (fun _ _ _ _ _ _ us hl => match us, hl with | [_], _ => rfl) (fun _ hq => nomatch hq) rfl rfl (by decide +kernel)
theorem all : ∀ f fn, Cd.T.fn f = some fn → DefF K mg f fn := lookup_all (l := Cd.tbl) (List.forall_mem_cons.mpr ⟨def_plain_of X G c, List.forall_mem_cons.mpr ⟨def_plus X G c, List.forall_mem_cons.mpr ⟨def_minus X G c, List.forall_mem_cons.mpr ⟨def_times X G c, List.forall_mem_cons.mpr ⟨def_over X G c, List.forall_mem_cons.mpr ⟨def_is_less X G c, List.forall_mem_cons.mpr ⟨def_greater_of X G c, List.forall_mem_cons.mpr ⟨def_above_of X G c, List.forall_mem_cons.mpr ⟨def_sum_of X G c, List.forall_mem_cons.mpr ⟨def_rising_places X G c, List.forall_mem_cons.mpr ⟨def_total_of X G c, List.forall_mem_cons.mpr ⟨def_excess_of X G c, List.forall_mem_cons.mpr ⟨def_lack_of X G c, List.forall_mem_cons.mpr ⟨def_rising_taps X G c, List.forall_mem_cons.mpr ⟨def_is_whole X G c, List.forall_mem_cons.mpr ⟨def_is_from X G c, List.forall_mem_cons.mpr ⟨def_is_text X G c, List.forall_mem_cons.mpr ⟨def_is_named X G c, List.forall_mem_cons.mpr ⟨def_is_tuple_up_to X G c, List.forall_mem_cons.mpr ⟨def_is_tuple_of X G c, List.forall_mem_cons.mpr ⟨def_is_pair X G c, List.forall_mem_cons.mpr ⟨def_is_fraction_of X G c, List.forall_mem_cons.mpr ⟨def_is_from_nought X G c, List.forall_mem_cons.mpr ⟨def_is_above_nought X G c, List.forall_mem_cons.mpr ⟨def_is_tap X G c, List.forall_mem_cons.mpr ⟨def_is_board_of X G c, List.forall_mem_cons.mpr ⟨def_is_bar X G c, List.forall_mem_cons.mpr ⟨def_check_fraction X G c, List.forall_mem_cons.mpr ⟨def_check_volume_from X G c, List.forall_mem_cons.mpr ⟨def_check_board X G c, List.forall_mem_cons.mpr ⟨def_check_warmth X G c, List.forall_mem_cons.mpr ⟨def_ends_of X G c, List.forall_mem_cons.mpr ⟨def_bars_of X G c, List.forall_mem_cons.mpr ⟨def_cooled_by X G c, List.forall_mem_cons.mpr ⟨def_layer_by X G c, List.forall_mem_cons.mpr ⟨def_middle_by X G c, List.forall_mem_cons.mpr ⟨def_colder_by X G c, List.forall_mem_cons.mpr ⟨def_cooled X G c, List.forall_mem_cons.mpr ⟨def_layer X G c, List.forall_mem_cons.mpr ⟨def_middle X G c, List.forall_mem_cons.mpr ⟨def_colder_volume X G c, List.forall_mem_cons.mpr ⟨def_does_part_by X G c, List.forall_mem_cons.mpr ⟨def_parting_by X G c, List.forall_mem_cons.mpr ⟨def_does_cover_by X G c, List.forall_mem_cons.mpr ⟨def_check_boards X G c, List.forall_mem_cons.mpr ⟨def_does_cover X G c, List.forall_mem_cons.mpr ⟨def__law_pool X G c, List.forall_mem_cons.mpr ⟨def__law_plus X G c, List.forall_mem_cons.mpr ⟨def__law_is_less X G c, List.forall_mem_cons.mpr ⟨def__law_side X G c, List.forall_mem_cons.mpr ⟨def__law_total X G c, List.forall_mem_cons.mpr ⟨def__law_times X G c, List.forall_mem_cons.mpr ⟨def__law_same X G c, List.forall_mem_cons.mpr ⟨def__law_less X G c, List.forall_mem_cons.mpr ⟨def__law_alike X G c, List.forall_mem_cons.mpr ⟨def__law_board X G c, List.forall_mem_cons.mpr ⟨def__law_fraction X G c, List.forall_mem_cons.mpr ⟨def__law_poured X G c, List.forall_mem_cons.mpr ⟨def__law_ratio X G c, List.forall_mem_cons.mpr ⟨def__law_sum X G c, List.forall_mem_cons.mpr ⟨def__law_flow X G c, List.forall_mem_cons.mpr ⟨def__law_over X G c, List.forall_mem_cons.mpr ⟨def__law_below X G c, List.forall_mem_cons.mpr ⟨def__law_one X G c, List.forall_mem_cons.mpr ⟨def__law_layer X G c, List.forall_mem_cons.mpr ⟨def__law_told X G c, List.forall_mem_cons.mpr ⟨def__law_are_layers_right X G c, List.forall_mem_cons.mpr ⟨def__law_right X G c, List.forall_mem_cons.mpr ⟨def_law X G c, fun _ hq => nomatch hq⟩⟩⟩⟩⟩⟩⟩⟩⟩⟩⟩⟩⟩⟩⟩⟩⟩⟩⟩⟩⟩⟩⟩⟩⟩⟩⟩⟩⟩⟩⟩⟩⟩⟩⟩⟩⟩⟩⟩⟩⟩⟩⟩⟩⟩⟩⟩⟩⟩⟩⟩⟩⟩⟩⟩⟩⟩⟩⟩⟩⟩⟩⟩⟩⟩⟩⟩⟩⟩)
theorem bt : ∀ n ∈ bNames, mg (Str.ofString n) = none := by
  intro n hn
  simp only [bNames, List.mem_cons, List.not_mem_nil, or_false] at hn
  rcases hn with rfl | rfl | rfl | rfl | rfl | rfl | rfl | rfl | rfl | rfl | rfl | rfl | rfl | rfl | rfl | rfl
  · exact He.free_ok X G (c.fact 77 (f := .free "len") rfl)
  · exact He.free_ok X G (c.fact 78 (f := .free "abs") rfl)
  · exact He.free_ok X G (c.fact 79 (f := .free "all") rfl)
  · exact He.free_ok X G (c.fact 80 (f := .free "any") rfl)
  · exact He.free_ok X G (c.fact 81 (f := .free "tuple") rfl)
  · exact He.free_ok X G (c.fact 82 (f := .free "int") rfl)
  · exact He.free_ok X G (c.fact 83 (f := .free "isinstance") rfl)
  · exact He.free_ok X G (c.fact 84 (f := .free "max") rfl)
  · exact He.free_ok X G (c.fact 85 (f := .free "min") rfl)
  · exact He.free_ok X G (c.fact 86 (f := .free "list") rfl)
  · exact He.free_ok X G (c.fact 87 (f := .free "bool") rfl)
  · exact He.free_ok X G (c.fact 88 (f := .free "str") rfl)
  · exact He.free_ok X G (c.fact 89 (f := .free "dict") rfl)
  · exact He.free_ok X G (c.fact 90 (f := .free "range") rfl)
  · exact He.free_ok X G (c.fact 91 (f := .free "enumerate") rfl)
  · exact He.free_ok X G (c.fact 92 (f := .free "zip") rfl)
theorem gcd (he : ex K = true) : mg (Str.ofString "gcd") = some (.builtin "math.gcd") := by
  unfold ex at he
  simp only [Bool.and_eq_true] at he
  obtain ⟨g0, t0, t1, r0, e0, e1⟩ := he
  exact PySem.W.mg_of X G (of_decide_eq_true g0)
theorem gl (he : ex K = true) : ∀ x d, Cd.T.gl x = some d → ∃ u v, mg (Str.ofString x) = some u ∧ RelV v u ∧ Rep K mg ⟨[], fun _ => none⟩ d v := by
  unfold ex at he
  simp only [Bool.and_eq_true] at he
  obtain ⟨g0, t0, t1, r0, e0, e1⟩ := he
  intro x d e
  have e : Cd.glT x = some d := e
  unfold Cd.glT at e
  repeat' split at e
  · rename_i q; subst q; cases e
    exact ⟨_, .ref (He.ga K "NOUGHT"), He.glo_ok X G (c.fact 93 (f := .glo "NOUGHT") rfl), rfl, He.ga K "NOUGHT", _, rfl, He.tupB_ok t0 _, ⟨_, _, rfl, rfl, ⟨_, _, rfl, rfl, rfl⟩⟩⟩
  · rename_i q; subst q; cases e
    exact ⟨_, .ref (He.ga K "ONE"), He.glo_ok X G (c.fact 94 (f := .glo "ONE") rfl), rfl, He.ga K "ONE", _, rfl, He.tupB_ok t1 _, ⟨_, _, rfl, rfl, ⟨_, _, rfl, rfl, rfl⟩⟩⟩
  · rename_i q; subst q; cases e
    obtain ⟨t, q⟩ := He.int_ok X G (c.fact 25 (f := .int "MOST_TAPS" 8) rfl)
    exact ⟨_, .int 8, q, ⟨t, rfl⟩, rfl⟩
  · rename_i q; subst q; cases e
    obtain ⟨t, q⟩ := He.str_ok X G (c.fact 26 (f := .str "VOLUME" "volume") rfl)
    exact ⟨_, .str _, q, ⟨t, rfl⟩, rfl⟩
  · rename_i q; subst q; cases e
    obtain ⟨t, q⟩ := He.str_ok X G (c.fact 27 (f := .str "ABOVE" "above") rfl)
    exact ⟨_, .str _, q, ⟨t, rfl⟩, rfl⟩
  · rename_i q; subst q; cases e
    obtain ⟨t, q⟩ := He.str_ok X G (c.fact 28 (f := .str "BELOW" "below") rfl)
    exact ⟨_, .str _, q, ⟨t, rfl⟩, rfl⟩
  · cases e
theorem rai (he : ex K = true) : ∀ x, Cd.T.rai x = true → RaiOk K mg x := by
  unfold ex at he
  simp only [Bool.and_eq_true] at he
  obtain ⟨g0, t0, t1, r0, e0, e1⟩ := he
  intro x hx
  have hx : decide (x = "Unfit") = true := hx
  have hx := of_decide_eq_true hx
  subst hx
  · exact raiB_ok X G r0
theorem exm (he : ex K = true) : ∀ x y, Cd.T.rai x = true → Cd.T.exc y = true → ∃ C D, mg (Str.ofString x) = some (.ref C) ∧ mg (Str.ofString y) = some (.ref D) ∧ PySem.W.exmOne K (.ref C) (.ref D) = some (Cd.T.sub x y) := by
  unfold ex at he
  simp only [Bool.and_eq_true] at he
  obtain ⟨g0, t0, t1, r0, e0, e1⟩ := he
  intro x y hx hy
  have hx := of_decide_eq_true (show decide (x = "Unfit") = true from hx)
  subst hx
  have hy : (decide (y = "Unfit") || decide (y = "WarmError")) = true := hy
  simp only [Bool.or_eq_true, decide_eq_true_eq] at hy
  rcases hy with rfl | rfl
  · exact exmB_ok X G e0
  · exact exmB_ok X G e1
theorem exn (he : ex K = true) : ∀ y, Cd.T.exc y = true → ∃ D, mg (Str.ofString y) = some (.ref D) := fun y hy => by
  obtain ⟨_, D, _, h, _⟩ := exm X G c he "Unfit" y rfl hy
  exact ⟨D, h⟩
end
end Hd
open PySem PySem.W PySem.Calls PyProof.Rows
set_option maxHeartbeats 0 in
theorem PySem.Challenge.cw_warmtubs_k76_whole_layers_and_cooled_boa_holds : PySem.Challenge.rw_warmtubs_k76_whole_layers_and_cooled_boa.Holds := by
  w_on; o_law
  refine HandSHeadRun.head_imp (r := OpenLaw.row PySem.Challenge.rw_warmtubs_k76_whole_layers_and_cooled_boa) (q := view (OpenLaw.row PySem.Challenge.rw_warmtubs_k76_whole_layers_and_cooled_boa).prog [0, 91]) (H := Hd.hk) (ob := Hd.ob) (M := 9000) (loose := Hd.names) (d := HandSHeadRun.topDef (OpenLaw.row PySem.Challenge.rw_warmtubs_k76_whole_layers_and_cooled_boa).prog 91) (kwd := []) Hd.ob_eq Hd.run
    (by kernel_rfl) (by kernel_rfl) (by kernel_rfl) (by rfl) (by first | assumption | decide +kernel) (by decide +kernel) ⟨rfl, rfl, rfl, rfl, rfl, by decide +kernel⟩ ?hw ?hc
  case hw => w_witness2
  case hc =>
    refine Z.walk_mine (l := PySem.Challenge.rw_warmtubs_k76_whole_layers_and_cooled_boa) (n := 63) (k := 13) (x := "script") (fun w => L2.CX (PySem.Challenge.rw_warmtubs_k76_whole_layers_and_cooled_boa).prog w) rfl (by decide) (by kernel_rfl) ⟨rfl, by decide, by decide⟩ ?F (fun _ _ _ _ _ ⟨_, _, _, _, _, _, _, _, _, _, _, _, q⟩ => q)
    intro w mg fa h Y G hmg0
    obtain ⟨K, KX, he, c⟩ := Y
    have hmg : mg ("law" : PySem.Str) = some (.ref fa) := by
      have e : (HandSHeadRun.topDef (OpenLaw.row PySem.Challenge.rw_warmtubs_k76_whole_layers_and_cooled_boa).prog 91).name = ("law" : PySem.Str) := by kernel_rfl
      rw [← e]
      exact hmg0
    have cd := He.SaysT.d he
    obtain ⟨fd, F⟩ := cd.def_ 70 (d := Hd.dOf "law" none "law" (Hd.top 91)) rfl
    have e := hmg.symm.trans (He.glo_ok KX G (cd.fact 76 (f := .glo "law") rfl))
    cases e
    have b := L2.FunD.bindsA (ps := ["script"]) F fun _ _ _ _ _ _ us hl => match us, hl with | [_], _ => rfl
    refine ⟨K, fd, _, KX, fun s v => b s [v] rfl, fun H a ns hl _ hS => Z.law_sp (T := Cd.T) (mg := mg) (k := 13) (f := "law") hS (Cd.law_plain ns), fun base _ _ => ?_⟩
    exact Z.top_ok (P := (PySem.Challenge.rw_warmtubs_k76_whole_layers_and_cooled_boa).prog) (w := w) (Hd.bt KX G cd) (Hd.gl KX G cd c) (Hd.gcd KX G cd c) (Hd.exn KX G cd c) (Hd.rai KX G cd c) (Hd.exm KX G cd c) (Hd.all KX G cd) 12 (f := "law") Cd.fn_law (N := Cd.n_law) F ⟨rfl, rfl, rfl, by decide +kernel, rfl, by decide +kernel, by decide +kernel⟩ rfl rfl (by decide +kernel) base
