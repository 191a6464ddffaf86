import PyProof.Rows.All
import Wide.All
import OpenK.AllK
import Wide.FinOn
import HandS.ForMost
import HandS.ForExc
import HandS.Wide
import HandS.CallSlots
import HandS.HeadHook2
import HandS.Walk
import PyProof.DictRoadsH
import HandS.TryOnly
import HandS.ExcIs
import HandS.IsInst
import HandS.TupAny
import HandS.Flow
import HandS.EndBits
import HandS.IntHex
import HandS.Head0
import HandS.Head1
import HandS.Head2
import HandS.HeadEnd
import HandS.HeadHook1
import HandS.Ends
import KE.KUnpackStar
import HandS.Iter
import HandS.Zip
import HandS.Rev
import HandS.List
import HandS.SortInts
import HandS.Defaults
import HandS.Zip0
import HandS.Style
import KE.SortData
import KE.DataMinMax
import HandS.Deep
import KE.DataEq
import HandS.DictComp
import HandS.Small
import KE.KDictWalk
import KE.KDictList
import HandS.DictSubView
import KE.GoesMore
import HandS.Sort
import PyProof.NeKinds
import HandS.TupMul
import HandS.ExcInit
import HandS.ExcField
import HandS.ClsMeth
import PyProof.WalkInts
import KE.KIsAll
import HandS.HotCalls
import HandS.RevRange
import HandS.Conv
import KE.KDictZip
import KE.KDictPairs
import PyProof.ReprRoads
import HandS.Strs
import HandS.TryMany
import HandS.FStr
import HandS.Text
import PyProof.SliceStr2
import HandS.SuiteRaise
import HandS.RaiseFrom
import HandS.ExcInitHot
import PyProof.CompFree
import HandS.Comp
import HandS.More
import PyProof.RowDictHeap
import PySem.Challenge.RW_restbodies_k19_whole_apart_or_over
set_option Elab.async false
set_option linter.all false
set_option maxRecDepth 100000
set_option maxHeartbeats 4000000
namespace MM
open PySem PySem.Spec PyProof.Rows L2
inductive D where
  | non | bl (b : Bool) | int (i : Int) | str (x : Str)
  | tup (xs : List D) | lst (xs : List D) | dct (ks vs : List D) | obj (C : Str) (ns : List Str) (vs : List D) | at (a : Addr) | ty (n : String) | cls (C : Str) | scr (ns : List Int)

abbrev Fg := PySem.W.Frag

abbrev Chk := List (Fg → Bool)
def obsM (chk : Chk) (fn : List He.DefD) (K : Fg) : He.AlD := ((chk.all fun f => f K) && fn.all fun d => d.ok K, fn.map fun d => He.fnW K d.at_)
def SaysM (chk : Chk) (fn : List He.DefD) (K : Fg) : Prop := obsM chk fn K = He.valD fn
def strN {α : Type} (n : Nat) (k : Nat → α) : α := match n with
  | 0 => k 0
  | m + 1 => k (m + 1)
def bitIn (s r : Nat) : Bool := Nat.beq (Nat.land (Nat.shiftRight s r) 1) 1
def seeK {α : Type} : List Addr → Nat → List Addr → (Nat → List Addr → α) → α
  | [], s, acc, k => k s acc
  | r :: rs, s, acc, k => match bitIn s r with
    | true => seeK rs s acc k
    | false => strN (Nat.lor s (Nat.shiftLeft 1 r)) fun s => seeK rs s (r :: acc) k
def growK {α : Type} (g : Addr → Option Obj) : List Addr → Nat → List Addr → (Nat → List Addr → α) → α
  | [], s, acc, k => k s acc
  | a :: as, s, acc, k => match g a with
    | some o => seeK (He.refsD o) s acc fun s acc => growK g as s acc k
    | none => growK g as s acc k
def bfsK (g : Addr → Option Obj) : Nat → List Addr → Nat → List Addr → List Addr
  | 0, _, _, all => all
  | n + 1, fr, s, all => growK g fr s [] fun s new => bfsK g n new s (all ++ new)
def asM (g : Addr → Option Obj) (n : Nat) : List Addr := bfsK g n [mainGlobals] (Nat.shiftLeft 1 mainGlobals) [mainGlobals] ++ [cStatics]
def obsMG (n : Nat) (chk : Chk) (fn : List He.DefD) (g : Addr → Option Obj) : He.AlD := obsM chk fn (He.frG g (asM g n))
def hookM (n : Nat) (chk : Chk) (fn : List He.DefD) : PySem.W.Hook where
  α := He.AlD
  obs := fun s => obsMG n chk fn s.heap.get?
  val := fun _ => He.valD fn
  says := fun _ h => ∃ K : Fg, K.In h ∧ SaysM chk fn K
  of := fun _ _ e => ⟨_, He.frG_in, e⟩
  keeps := fun _ _ _ ⟨K, hK, c⟩ k => ⟨K, PySem.W.Frag.In.keeps hK k, c⟩
theorem obsMG_eq {n : Nat} {chk : Chk} {fn : List He.DefD} {g : Addr → Option Obj} {s : Shared} (h : ∀ a, g a = s.heap.get? a) : obsMG n chk fn g = (hookM n chk fn).obs s := by
  have e : g = s.heap.get? := funext h
  rw [e] <;> rfl
def cGlo (x : Str) : Fg → Bool := fun K => He.Fa.ok K (.glo x)
def cFree (x : Str) : Fg → Bool := fun K => He.Fa.ok K (.free x)
def cExc (x : Str) : Fg → Bool := fun K => He.Fa.ok K (.exc x) && He.Fa.ok K (.glo x)
def cExcC (x : Str) : Fg → Bool := fun K => decide (PySem.W.findIn K (.ref (He.ga K x)) "__getattribute__" = some (some (.builtin "BaseException.__getattribute__"))) && (decide (PySem.W.findIn K (.ref (He.ga K x)) "__getattr__" = some none) &&
  (decide (PySem.W.subIn K (.ref (He.ga K x)) (.type "BaseException") = some true) && (PySem.W.hasDictIn K (He.ga K x) && (decide (PySem.W.findIn K (.ref (He.ga K x)) "__class__" = some (some (.builtin "object.__class__"))) &&
  (decide (PySem.W.specialIn K (.builtin "object.__class__") "__get__" = some (some (.builtin "getset_descriptor.__get__"))) && (decide (PySem.W.takesIn K (.builtin "object.__class__") = some true) && decide (PySem.W.mroIn K (He.ga K x) (.type "object") = some true)))))))
def cKit (x : Str) (c : Fg → Value) (b : Bool) : Fg → Bool := fun K => decide (PySem.W.kitOne K (.ref (He.ga K x)) (c K) = some b)
def cExm (x : Str) (c : Fg → Value) (b : Bool) : Fg → Bool := fun K => decide (PySem.W.exmOne K (.ref (He.ga K x)) (c K) = some b)
def cLim : Fg → Bool := fun K => decide (PySem.W.nsIn K cStatics "sys.int_max_str_digits" = some none)
mutual
def isDV (K : Fg) : Nat → Value → D → Bool
  | _, .none, .non => true
  | _, .bool b, .bl c => b == c
  | _, .int i _, .int j => decide (i = j)
  | _, .str x _, .str y => decide (x = y)
  | n + 1, .ref a, .tup ds => (match K.lookup a with
    | some ⟨.type c, _, .seq its _, _⟩ => decide (c = "tuple") && (decide (its.size ≤ sizeLine) && isDVs K n its.toList ds)
    | _ => false)
  | _, _, _ => false
def isDVs (K : Fg) : Nat → List Value → List D → Bool
  | _, [], [] => true
  | n, v :: vs, d :: ds => isDV K n v d && isDVs K n vs ds
  | _, _, _ => false
end
def cVal (x : Str) (d : D) : Fg → Bool := fun K => match PySem.W.nsIn K mainGlobals x with
  | some (some v) => isDV K 8 v d
  | _ => false
def clsBody : Stmt → List Stmt
  | .ClassDef _ _ _ body _ _ _ _ _ _ _ => body
  | _ => []
def cClsF (x : Str) : Fg → Bool := fun K => He.Fa.ok K (.cls x) && (decide (PySem.W.findIn K (.ref (He.ga K x)) "__class__" = some (some (.builtin "object.__class__"))) && (decide (PySem.W.specialIn K (.builtin "object.__class__") "__get__" = some (some (.builtin "getset_descriptor.__get__"))) &&
  (decide (PySem.W.takesIn K (.builtin "object.__class__") = some true) && decide (PySem.W.mroIn K (He.ga K x) (.type "object") = some true))))
def cNoat (x f : Str) : Fg → Bool := fun K => decide (PySem.W.findIn K (.ref (He.ga K x)) f = some none)
def cMeth (x m : Str) : Fg → Bool := fun K => He.Fa.ok K (.meth x m)
def cMkr (x : Str) : Fg → Bool := fun K => He.Fa.ok K (.mkr x)
def cBaseX (B : Str) : Fg → Bool := fun K => He.Fa.ok K (.glo B) && (PySem.W.readsIn K (He.ga K B) (.type "type") && (decide (PySem.W.specialIn K (.ref (He.ga K B)) "__getattribute__" = some (some (.builtin "type.__getattribute__"))) &&
  match PySem.W.findCls K (.ref (He.ga K B)) (.type "type") "__init__" with
  | some (.val v) => v == .builtin "ValueError.__init__"
  | _ => false))
def oexB (K : Fg) (C : Addr) : Bool := match K.lookup C with
  | some ⟨.type "type", _, .cls cd, sl⟩ => (match cd.mro, sl.toList with
    | .ref C' :: bm, [_, _, _, _, some (.builtin n), _] => C' == C && n == "ValueError.__new__" && !cd.hasDel && cd.hasDict && PySem.HandSPX.refsVE bm
    | _, _ => false)
  | _ => false
def cOexX (C : Str) (fs : List Str) : Fg → Bool := fun K => He.Fa.ok K (.glo C) && (oexB K (He.ga K C) && (decide (PySem.W.findIn K (.ref (He.ga K C)) "__setattr__" = some (some (.builtin "object.__setattr__"))) && (decide (PySem.W.subIn K (.ref (He.ga K C)) (.type "BaseException") = some true) &&
  (decide (PySem.W.typeIn K (.ref (He.ga K C)) = some (.type "type")) && (PySem.W.keepIn K (.ref (He.ga K C)) && (decide (PySem.W.findIn K (.ref (He.ga K C)) "__init__" = some (some (.ref (He.ma K (He.ga K C) "__init__")))) &&
  (decide (PySem.W.typeIn K (.ref (He.ma K (He.ga K C) "__init__")) = some (.type "function")) && ((fs.all fun f => decide (PySem.W.findIn K (.ref (He.ga K C)) f = some none)) && xfB K (He.ga K C)))))))))
def nsEq : List Nat → List Nat → Bool
  | [], [] => true
  | a :: x, b :: y => Nat.beq a b && nsEq x y
  | _, _ => false
def sEqL (a b : Str) : Bool := nsEq a.cps.toList b.cps.toList
def linKeys (own : List Str) : List Str → List Str → Bool
  | [], _ => true
  | k :: ks, [] => (startupNames.contains k || own.contains k) && linKeys own ks []
  | k :: ks, x :: xs => match sEqL k x with
    | true => linKeys own ks xs
    | false => (startupNames.contains k || own.contains k) && linKeys own ks (x :: xs)
noncomputable def seenL (q : Program) (loose mods : List Str) (Xt : Shared → Bool) (s : Shared) :=
  ((HandSHeadRun.seenQ q [] mods Xt s).1, (HandSHeadRun.seenQ q [] mods Xt s).2.1,
   linKeys ((recsOf q).map (·.name)) (s.heap.nsKeys mainGlobals) loose && s.heap.accountedOkI mods && s.heap.isNs mainGlobals && s.heap.isNs builtinsNs && tablesOk q s.heap && Xt s && (s.gens.size == 0),
   (HandSHeadRun.seenQ q [] mods Xt s).2.2.2)
def RunEqL (r : PySem.W.OpenRow) (q : Program) (H : PySem.W.Hook) (ob : PySem.W.SharedT → H.α) (M : Nat) (loose : List Str) (w : World) : Prop :=
  ∀ os : OsState, (HandSHeadRun.endF (HandSHeadRun.stepQ (HandSHeadRun.denQ HandSHeadRun.tabQ) r.prog w) M r.prog w os).map (fun s => (HandSHeadRun.looksF r.prog (PySem.W.boot_heap w.params) s.abs, seenL q loose (importedModules r.prog.main.body) (fun s => PySem.W.xlAt q [] s && PySem.W.recOk r.toRowW.records s) s.abs, ob s)) = some (true, PySem.W.openGood q [], H.val w)
def cSys : Fg → Bool := fun K => match K.lookup sysModules with
  | some o => decide (o.cls = .type "dict")
  | none => false
end MM
noncomputable section
namespace MM
open PySem PySem.Spec PyProof.Rows L2
def top (i : Nat) : Stmt := PySem.Challenge.pw_restbodies_k19_whole_apart_or_over.main.body.getD i (.Pass ⟨0, 0, 0, 0⟩)
def mth (i j : Nat) : Stmt := (clsBody (top i)).getD j (.Pass ⟨0, 0, 0, 0⟩)
def lawChk0 : Chk := [cFree "int", cFree "isinstance", cFree "bool", cGlo "is_whole", cFree "abs", cGlo "divisor", cFree "tuple", cFree "len", cGlo "is_share", cExc "NoShare", cGlo "share", cGlo "plus", cGlo "minus", cGlo "times", cGlo "over", cGlo "order", cFree "all", cGlo "is_spot", cGlo "is_way", cExc "NoWay", cGlo "way_of", cGlo "along", cFree "zip", cGlo "spot_plus", cGlo "spot_minus", cGlo "spot_times", cGlo "sides", cFree "max", cGlo "reach", cGlo "within"]
def lawChk1 : Chk := [cGlo "turned_way", cFree "list", cFree "sorted", cGlo "pair_ways", cGlo "rate", cGlo "gap", cGlo "place_after", cGlo "corners_after", cGlo "crossing", cFree "enumerate", cGlo "cut_by", cVal "STILL" (.tup [(.tup [(.int 0), (.int 1)]), (.tup [(.int 0), (.int 1)])]), cGlo "common_spot", cGlo "apart", cGlo "apart_held", cGlo "_law_cell", cGlo "_law_deck", cGlo "_law_take", cFree "range", cGlo "_law_long", cGlo "_law_gcd", cGlo "_law_share", cGlo "_law_plus", cGlo "_law_times", cGlo "_law_spot", cGlo "_law_spot_plus", cGlo "_law_spot_times", cGlo "_law_left", cGlo "_law_half", cGlo "_law_number"]
def lawChk2 : Chk := [cGlo "_law_eight", cGlo "_law_shape", cGlo "_law_way", cGlo "_law_ways", cGlo "_law_pair_ways", cGlo "_law_names", cGlo "_law_drawn", cGlo "_law_row", cGlo "_law_pair", cGlo "_law_corner", cGlo "_law_mean", cGlo "_law_spots", cGlo "_law_some_ways", cGlo "_law_turned", cGlo "law"]
def lawChk : Chk := List.flatten [lawChk0, lawChk1, lawChk2]
def lawFn0 : List He.DefD := [⟨("is_whole", none), "is_whole", "is_whole", defArgs (top 6), defBody (top 6), defScope (top 6), [], []⟩, ⟨("divisor", none), "divisor", "divisor", defArgs (top 7), defBody (top 7), defScope (top 7), [], []⟩, ⟨("is_share", none), "is_share", "is_share", defArgs (top 8), defBody (top 8), defScope (top 8), [], []⟩, ⟨("share", none), "share", "share", defArgs (top 9), defBody (top 9), defScope (top 9), [.int 1], []⟩, ⟨("plus", none), "plus", "plus", defArgs (top 10), defBody (top 10), defScope (top 10), [], []⟩, ⟨("minus", none), "minus", "minus", defArgs (top 11), defBody (top 11), defScope (top 11), [], []⟩, ⟨("times", none), "times", "times", defArgs (top 12), defBody (top 12), defScope (top 12), [], []⟩, ⟨("over", none), "over", "over", defArgs (top 13), defBody (top 13), defScope (top 13), [], []⟩, ⟨("order", none), "order", "order", defArgs (top 14), defBody (top 14), defScope (top 14), [], []⟩, ⟨("is_spot", none), "is_spot", "is_spot", defArgs (top 17), defBody (top 17), defScope (top 17), [], []⟩, ⟨("is_way", none), "is_way", "is_way", defArgs (top 18), defBody (top 18), defScope (top 18), [], []⟩, ⟨("way_of", none), "way_of", "way_of", defArgs (top 19), defBody (top 19), defScope (top 19), [], []⟩, ⟨("along", none), "along", "along", defArgs (top 20), defBody (top 20), defScope (top 20), [], []⟩, ⟨("spot_plus", none), "spot_plus", "spot_plus", defArgs (top 21), defBody (top 21), defScope (top 21), [], []⟩, ⟨("spot_minus", none), "spot_minus", "spot_minus", defArgs (top 22), defBody (top 22), defScope (top 22), [], []⟩, ⟨("spot_times", none), "spot_times", "spot_times", defArgs (top 23), defBody (top 23), defScope (top 23), [], []⟩, ⟨("sides", none), "sides", "sides", defArgs (top 25), defBody (top 25), defScope (top 25), [], []⟩, ⟨("reach", none), "reach", "reach", defArgs (top 26), defBody (top 26), defScope (top 26), [], []⟩, ⟨("within", none), "within", "within", defArgs (top 27), defBody (top 27), defScope (top 27), [], []⟩, ⟨("turned_way", none), "turned_way", "turned_way", defArgs (top 29), defBody (top 29), defScope (top 29), [], []⟩, ⟨("pair_ways", none), "pair_ways", "pair_ways", defArgs (top 30), defBody (top 30), defScope (top 30), [], []⟩, ⟨("rate", none), "rate", "rate", defArgs (top 31), defBody (top 31), defScope (top 31), [], []⟩, ⟨("gap", none), "gap", "gap", defArgs (top 32), defBody (top 32), defScope (top 32), [.glo "NOUGHT"], []⟩, ⟨("place_after", none), "place_after", "place_after", defArgs (top 34), defBody (top 34), defScope (top 34), [], []⟩, ⟨("corners_after", none), "corners_after", "corners_after", defArgs (top 35), defBody (top 35), defScope (top 35), [], []⟩, ⟨("crossing", none), "crossing", "crossing", defArgs (top 36), defBody (top 36), defScope (top 36), [], []⟩, ⟨("cut_by", none), "cut_by", "cut_by", defArgs (top 37), defBody (top 37), defScope (top 37), [], []⟩, ⟨("common_spot", none), "common_spot", "common_spot", defArgs (top 38), defBody (top 38), defScope (top 38), [], []⟩, ⟨("apart", none), "apart", "apart", defArgs (top 39), defBody (top 39), defScope (top 39), [.glo "NOUGHT"], []⟩, ⟨("apart_held", none), "apart_held", "apart_held", defArgs (top 40), defBody (top 40), defScope (top 40), [.glo "NOUGHT"], []⟩]
def lawFn1 : List He.DefD := [⟨("_law_cell", none), "_law_cell", "_law_cell", defArgs (top 42), defBody (top 42), defScope (top 42), [], []⟩, ⟨("_law_deck", none), "_law_deck", "_law_deck", defArgs (top 43), defBody (top 43), defScope (top 43), [], []⟩, ⟨("_law_take", none), "_law_take", "_law_take", defArgs (top 44), defBody (top 44), defScope (top 44), [], []⟩, ⟨("_law_long", none), "_law_long", "_law_long", defArgs (top 45), defBody (top 45), defScope (top 45), [], []⟩, ⟨("_law_gcd", none), "_law_gcd", "_law_gcd", defArgs (top 46), defBody (top 46), defScope (top 46), [], []⟩, ⟨("_law_share", none), "_law_share", "_law_share", defArgs (top 47), defBody (top 47), defScope (top 47), [], []⟩, ⟨("_law_plus", none), "_law_plus", "_law_plus", defArgs (top 48), defBody (top 48), defScope (top 48), [], []⟩, ⟨("_law_times", none), "_law_times", "_law_times", defArgs (top 49), defBody (top 49), defScope (top 49), [], []⟩, ⟨("_law_spot", none), "_law_spot", "_law_spot", defArgs (top 50), defBody (top 50), defScope (top 50), [], []⟩, ⟨("_law_spot_plus", none), "_law_spot_plus", "_law_spot_plus", defArgs (top 51), defBody (top 51), defScope (top 51), [], []⟩, ⟨("_law_spot_times", none), "_law_spot_times", "_law_spot_times", defArgs (top 52), defBody (top 52), defScope (top 52), [], []⟩, ⟨("_law_left", none), "_law_left", "_law_left", defArgs (top 53), defBody (top 53), defScope (top 53), [], []⟩, ⟨("_law_half", none), "_law_half", "_law_half", defArgs (top 54), defBody (top 54), defScope (top 54), [], []⟩, ⟨("_law_number", none), "_law_number", "_law_number", defArgs (top 55), defBody (top 55), defScope (top 55), [], []⟩, ⟨("_law_eight", none), "_law_eight", "_law_eight", defArgs (top 56), defBody (top 56), defScope (top 56), [], []⟩, ⟨("_law_shape", none), "_law_shape", "_law_shape", defArgs (top 57), defBody (top 57), defScope (top 57), [], []⟩, ⟨("_law_ways", none), "_law_ways", "_law_ways", defArgs (top 58), defBody (top 58), defScope (top 58), [], []⟩, ⟨("_law_way", none), "_law_way", "_law_way", defArgs (top 59), defBody (top 59), defScope (top 59), [], []⟩, ⟨("_law_pair_ways", none), "_law_pair_ways", "_law_pair_ways", defArgs (top 60), defBody (top 60), defScope (top 60), [], []⟩, ⟨("_law_names", none), "_law_names", "_law_names", defArgs (top 61), defBody (top 61), defScope (top 61), [], []⟩, ⟨("_law_drawn", none), "_law_drawn", "_law_drawn", defArgs (top 62), defBody (top 62), defScope (top 62), [], []⟩, ⟨("_law_row", none), "_law_row", "_law_row", defArgs (top 63), defBody (top 63), defScope (top 63), [], []⟩, ⟨("_law_pair", none), "_law_pair", "_law_pair", defArgs (top 64), defBody (top 64), defScope (top 64), [], []⟩, ⟨("_law_corner", none), "_law_corner", "_law_corner", defArgs (top 65), defBody (top 65), defScope (top 65), [], []⟩, ⟨("_law_mean", none), "_law_mean", "_law_mean", defArgs (top 66), defBody (top 66), defScope (top 66), [], []⟩, ⟨("_law_spots", none), "_law_spots", "_law_spots", defArgs (top 67), defBody (top 67), defScope (top 67), [], []⟩, ⟨("_law_some_ways", none), "_law_some_ways", "_law_some_ways", defArgs (top 68), defBody (top 68), defScope (top 68), [], []⟩, ⟨("_law_turned", none), "_law_turned", "_law_turned", defArgs (top 69), defBody (top 69), defScope (top 69), [], []⟩, ⟨("law", none), "law", "law", defArgs (top 70), defBody (top 70), defScope (top 70), [], []⟩]
def lawFn : List He.DefD := List.flatten [lawFn0, lawFn1]
def lawFnA0 : List He.DefD := [⟨("is_whole", none), "is_whole", "is_whole", defArgs (top 6), defBody (top 6), defScope (top 6), [], []⟩, ⟨("divisor", none), "divisor", "divisor", defArgs (top 7), defBody (top 7), defScope (top 7), [], []⟩, ⟨("is_share", none), "is_share", "is_share", defArgs (top 8), defBody (top 8), defScope (top 8), [], []⟩, ⟨("share", none), "share", "share", defArgs (top 9), defBody (top 9), defScope (top 9), [.int 1], []⟩, ⟨("plus", none), "plus", "plus", defArgs (top 10), defBody (top 10), defScope (top 10), [], []⟩, ⟨("minus", none), "minus", "minus", defArgs (top 11), defBody (top 11), defScope (top 11), [], []⟩, ⟨("times", none), "times", "times", defArgs (top 12), defBody (top 12), defScope (top 12), [], []⟩, ⟨("over", none), "over", "over", defArgs (top 13), defBody (top 13), defScope (top 13), [], []⟩, ⟨("order", none), "order", "order", defArgs (top 14), defBody (top 14), defScope (top 14), [], []⟩, ⟨("is_spot", none), "is_spot", "is_spot", defArgs (top 17), defBody (top 17), defScope (top 17), [], []⟩, ⟨("is_way", none), "is_way", "is_way", defArgs (top 18), defBody (top 18), defScope (top 18), [], []⟩, ⟨("way_of", none), "way_of", "way_of", defArgs (top 19), defBody (top 19), defScope (top 19), [], []⟩, ⟨("along", none), "along", "along", defArgs (top 20), defBody (top 20), defScope (top 20), [], []⟩, ⟨("spot_plus", none), "spot_plus", "spot_plus", defArgs (top 21), defBody (top 21), defScope (top 21), [], []⟩, ⟨("spot_minus", none), "spot_minus", "spot_minus", defArgs (top 22), defBody (top 22), defScope (top 22), [], []⟩, ⟨("spot_times", none), "spot_times", "spot_times", defArgs (top 23), defBody (top 23), defScope (top 23), [], []⟩, ⟨("sides", none), "sides", "sides", defArgs (top 25), defBody (top 25), defScope (top 25), [], []⟩, ⟨("reach", none), "reach", "reach", defArgs (top 26), defBody (top 26), defScope (top 26), [], []⟩, ⟨("within", none), "within", "within", defArgs (top 27), defBody (top 27), defScope (top 27), [], []⟩, ⟨("turned_way", none), "turned_way", "turned_way", defArgs (top 29), defBody (top 29), defScope (top 29), [], []⟩, ⟨("pair_ways", none), "pair_ways", "pair_ways", defArgs (top 30), defBody (top 30), defScope (top 30), [], []⟩, ⟨("rate", none), "rate", "rate", defArgs (top 31), defBody (top 31), defScope (top 31), [], []⟩, ⟨("gap", none), "gap", "gap", defArgs (top 32), defBody (top 32), defScope (top 32), [.glo "NOUGHT"], []⟩, ⟨("place_after", none), "place_after", "place_after", defArgs (top 34), defBody (top 34), defScope (top 34), [], []⟩, ⟨("corners_after", none), "corners_after", "corners_after", defArgs (top 35), defBody (top 35), defScope (top 35), [], []⟩, ⟨("crossing", none), "crossing", "crossing", defArgs (top 36), defBody (top 36), defScope (top 36), [], []⟩, ⟨("cut_by", none), "cut_by", "cut_by", defArgs (top 37), defBody (top 37), defScope (top 37), [], []⟩, ⟨("common_spot", none), "common_spot", "common_spot", defArgs (top 38), defBody (top 38), defScope (top 38), [], []⟩, ⟨("apart", none), "apart", "apart", defArgs (top 39), defBody (top 39), defScope (top 39), [.glo "NOUGHT"], []⟩, ⟨("apart_held", none), "apart_held", "apart_held", defArgs (top 40), defBody (top 40), defScope (top 40), [.glo "NOUGHT"], []⟩]
def lawFnA : List He.DefD := lawFnA0
def lawFnB0 : List He.DefD := [⟨("_law_cell", none), "_law_cell", "_law_cell", defArgs (top 42), defBody (top 42), defScope (top 42), [], []⟩, ⟨("_law_deck", none), "_law_deck", "_law_deck", defArgs (top 43), defBody (top 43), defScope (top 43), [], []⟩, ⟨("_law_take", none), "_law_take", "_law_take", defArgs (top 44), defBody (top 44), defScope (top 44), [], []⟩, ⟨("_law_long", none), "_law_long", "_law_long", defArgs (top 45), defBody (top 45), defScope (top 45), [], []⟩, ⟨("_law_gcd", none), "_law_gcd", "_law_gcd", defArgs (top 46), defBody (top 46), defScope (top 46), [], []⟩, ⟨("_law_share", none), "_law_share", "_law_share", defArgs (top 47), defBody (top 47), defScope (top 47), [], []⟩, ⟨("_law_plus", none), "_law_plus", "_law_plus", defArgs (top 48), defBody (top 48), defScope (top 48), [], []⟩, ⟨("_law_times", none), "_law_times", "_law_times", defArgs (top 49), defBody (top 49), defScope (top 49), [], []⟩, ⟨("_law_spot", none), "_law_spot", "_law_spot", defArgs (top 50), defBody (top 50), defScope (top 50), [], []⟩, ⟨("_law_spot_plus", none), "_law_spot_plus", "_law_spot_plus", defArgs (top 51), defBody (top 51), defScope (top 51), [], []⟩, ⟨("_law_spot_times", none), "_law_spot_times", "_law_spot_times", defArgs (top 52), defBody (top 52), defScope (top 52), [], []⟩, ⟨("_law_left", none), "_law_left", "_law_left", defArgs (top 53), defBody (top 53), defScope (top 53), [], []⟩, ⟨("_law_half", none), "_law_half", "_law_half", defArgs (top 54), defBody (top 54), defScope (top 54), [], []⟩, ⟨("_law_number", none), "_law_number", "_law_number", defArgs (top 55), defBody (top 55), defScope (top 55), [], []⟩, ⟨("_law_eight", none), "_law_eight", "_law_eight", defArgs (top 56), defBody (top 56), defScope (top 56), [], []⟩, ⟨("_law_shape", none), "_law_shape", "_law_shape", defArgs (top 57), defBody (top 57), defScope (top 57), [], []⟩, ⟨("_law_ways", none), "_law_ways", "_law_ways", defArgs (top 58), defBody (top 58), defScope (top 58), [], []⟩, ⟨("_law_way", none), "_law_way", "_law_way", defArgs (top 59), defBody (top 59), defScope (top 59), [], []⟩, ⟨("_law_pair_ways", none), "_law_pair_ways", "_law_pair_ways", defArgs (top 60), defBody (top 60), defScope (top 60), [], []⟩, ⟨("_law_names", none), "_law_names", "_law_names", defArgs (top 61), defBody (top 61), defScope (top 61), [], []⟩, ⟨("_law_drawn", none), "_law_drawn", "_law_drawn", defArgs (top 62), defBody (top 62), defScope (top 62), [], []⟩, ⟨("_law_row", none), "_law_row", "_law_row", defArgs (top 63), defBody (top 63), defScope (top 63), [], []⟩, ⟨("_law_pair", none), "_law_pair", "_law_pair", defArgs (top 64), defBody (top 64), defScope (top 64), [], []⟩, ⟨("_law_corner", none), "_law_corner", "_law_corner", defArgs (top 65), defBody (top 65), defScope (top 65), [], []⟩, ⟨("_law_mean", none), "_law_mean", "_law_mean", defArgs (top 66), defBody (top 66), defScope (top 66), [], []⟩, ⟨("_law_spots", none), "_law_spots", "_law_spots", defArgs (top 67), defBody (top 67), defScope (top 67), [], []⟩, ⟨("_law_some_ways", none), "_law_some_ways", "_law_some_ways", defArgs (top 68), defBody (top 68), defScope (top 68), [], []⟩, ⟨("_law_turned", none), "_law_turned", "_law_turned", defArgs (top 69), defBody (top 69), defScope (top 69), [], []⟩, ⟨("law", none), "law", "law", defArgs (top 70), defBody (top 70), defScope (top 70), [], []⟩]
def lawFnB : List He.DefD := lawFnB0
def lawLoose0 : List Str := [Str.ofString "BodyError", Str.ofString "NoShare", Str.ofString "NoWay", Str.ofString "NOUGHT", Str.ofString "is_whole", Str.ofString "divisor", Str.ofString "is_share", Str.ofString "share", Str.ofString "plus", Str.ofString "minus", Str.ofString "times", Str.ofString "over", Str.ofString "order", Str.ofString "STILL", Str.ofString "is_spot", Str.ofString "is_way", Str.ofString "way_of", Str.ofString "along", Str.ofString "spot_plus", Str.ofString "spot_minus", Str.ofString "spot_times", Str.ofString "sides", Str.ofString "reach", Str.ofString "within", Str.ofString "turned_way", Str.ofString "pair_ways", Str.ofString "rate", Str.ofString "gap", Str.ofString "place_after", Str.ofString "corners_after", Str.ofString "crossing", Str.ofString "cut_by", Str.ofString "common_spot", Str.ofString "apart", Str.ofString "apart_held", Str.ofString "_law_cell", Str.ofString "_law_deck", Str.ofString "_law_take", Str.ofString "_law_long", Str.ofString "_law_gcd"]
def lawLoose1 : List Str := [Str.ofString "_law_share", Str.ofString "_law_plus", Str.ofString "_law_times", Str.ofString "_law_spot", Str.ofString "_law_spot_plus", Str.ofString "_law_spot_times", Str.ofString "_law_left", Str.ofString "_law_half", Str.ofString "_law_number", Str.ofString "_law_eight", Str.ofString "_law_shape", Str.ofString "_law_ways", Str.ofString "_law_way", Str.ofString "_law_pair_ways", Str.ofString "_law_names", Str.ofString "_law_drawn", Str.ofString "_law_row", Str.ofString "_law_pair", Str.ofString "_law_corner", Str.ofString "_law_mean", Str.ofString "_law_spots", Str.ofString "_law_some_ways", Str.ofString "_law_turned"]
def lawLoose : List Str := List.flatten [lawLoose0, lawLoose1]
abbrev lawRow : PySem.W.OpenRow := PySem.W.OpenLaw.row PySem.Challenge.rw_restbodies_k19_whole_apart_or_over
abbrev lawHook : PySem.W.Hook := hookM 5 lawChk lawFn
def lawOb (s : PySem.W.SharedT) : He.AlD := obsMG 5 lawChk lawFn (HandSHeadRun.getT s)
theorem lawOb_eq (s : PySem.W.SharedT) : lawOb s = lawHook.obs s.abs := obsMG_eq (HandSHeadRun.getT_eq s)
abbrev lawEnd (w : World) (os : OsState) : Option PySem.W.SharedT := HandSHeadRun.endF (HandSHeadRun.stepQ (HandSHeadRun.denQ HandSHeadRun.tabQ) lawRow.prog w) 20000 lawRow.prog w os
def lawK (s : PySem.W.SharedT) : Fg := He.frG (HandSHeadRun.getT s) (asM (HandSHeadRun.getT s) 5)
theorem lawRunA (w : World) (os : OsState) : (lawEnd w os).map (fun s => (HandSHeadRun.looksF lawRow.prog (PySem.W.boot_heap w.params) s.abs, seenL (PySem.W.view lawRow.prog [70]) lawLoose (importedModules lawRow.prog.main.body) (fun s => PySem.W.xlAt (PySem.W.view lawRow.prog [70]) [] s && PySem.W.recOk lawRow.toRowW.records s) s.abs)) = some (true, PySem.W.openGood (PySem.W.view lawRow.prog [70]) []) := by
  kernel_rfl
theorem lawRunB (w : World) (os : OsState) : (lawEnd w os).map (fun s => lawChk.all fun f => f (lawK s)) = some true := by
  kernel_rfl
theorem lawRunC (w : World) (os : OsState) : (lawEnd w os).map (fun s => (lawFnA.all (fun d => d.ok (lawK s)), lawFnA.map fun d => He.fnW (lawK s) d.at_)) = some (true, lawFnA.map He.DefD.val) := by
  kernel_rfl
theorem lawRunD (w : World) (os : OsState) : (lawEnd w os).map (fun s => (lawFnB.all (fun d => d.ok (lawK s)), lawFnB.map fun d => He.fnW (lawK s) d.at_)) = some (true, lawFnB.map He.DefD.val) := by
  kernel_rfl
theorem lawFn_two : lawFn = lawFnA ++ lawFnB := by rfl
theorem lawRun (w : World) : RunEqL lawRow (PySem.W.view lawRow.prog [70]) lawHook lawOb 20000 lawLoose w := by
  intro os
  have a := lawRunA w os
  have b := lawRunB w os
  have c := lawRunC w os
  have d := lawRunD w os
  show (lawEnd w os).map _ = _
  generalize lawEnd w os = e at a b c d ⊢
  cases e with
  | none => cases a
  | some s =>
    rw [Option.map_some, Option.some.injEq, Prod.mk.injEq] at a c d
    rw [Option.map_some, Option.some.injEq] at b
    rw [Option.map_some, Option.some.injEq]
    refine Prod.ext a.1 (Prod.ext a.2 ?_)
    show ((lawChk.all fun f => f (lawK s)) && lawFn.all (fun d => d.ok (lawK s)), lawFn.map fun d => He.fnW (lawK s) d.at_) = (true, lawFn.map He.DefD.val)
    rw [lawFn_two, List.all_append, List.map_append, List.map_append, b, c.1, c.2, d.1, d.2]
    rfl
end MM
end
namespace MM
open PySem PySem.Spec PyProof.Rows L2
abbrev St := L2.St

abbrev Fp := Addr → Prop
def TupF (K : Fg) (F : Fp) (H : Hp) (a : Addr) (xs : List V) : Prop :=
  (¬ F a ∧ Rd H a (.tup xs)) ∨ ∃ (o : Obj) (its : Array Value) (n : Nat), K.lookup a = some o ∧ o.cls = .type "tuple" ∧ o.data = .seq its n ∧ its.size ≤ sizeLine ∧ Vals xs its.toList
abbrev LsR (_ : Fg) (H : Hp) (a : Addr) (xs : List V) : Prop := Rd H a (.lst xs)
def LstF (K : Fg) (F : Fp) (H : Hp) (a : Addr) (xs : List V) : Prop := ¬ F a ∧ LsR K H a xs
def ScrF (K : Fg) (F : Fp) (H : Hp) (a : Addr) (xs : List V) : Prop :=
  (¬ F a ∧ Rd H a (.lst xs)) ∨ ∃ (o : Obj) (its : Array Value) (n : Nat), K.lookup a = some o ∧ o.cls = .type "list" ∧ o.dict = none ∧ o.data = .seq its n ∧ its.size ≤ sizeLine ∧ Vals xs its.toList
theorem LsR.sq {K : Fg} {H : Hp} {a : Addr} {xs : List V} (h : LsR K H a xs) : SqL K H a xs := .inl h
theorem LstF.ls {K : Fg} {F : Fp} {H : Hp} {a : Addr} {xs : List V} (h : LstF K F H a xs) : LsR K H a xs := h.2
theorem ScrF.sq {K : Fg} {F : Fp} {H : Hp} {a : Addr} {xs : List V} (h : ScrF K F H a xs) : SqL K H a xs := by
  rcases h with ⟨_, h⟩ | h
  · exact .inl h
  · exact .inr h
theorem TupF.sq {K : Fg} {F : Fp} {H : Hp} {a : Addr} {xs : List V} (h : TupF K F H a xs) : SqT K H a xs := by
  rcases h with ⟨_, h⟩ | h
  · exact .inl h
  · exact .inr h
theorem LstF.sq {K : Fg} {F : Fp} {H : Hp} {a : Addr} {xs : List V} (h : LstF K F H a xs) : SqL K H a xs := .inl h.2

section
abbrev EX := List Int × Addr × V
def thi (ks : List Int) : Int := reduceHash (Builtin.Tuple.tupleHashOf (ks.map hashInt))
def entX (x : List Int × Addr × Value) : DictEntry := ⟨thi x.1, .ref x.2.1, x.2.2⟩
abbrev PX : List EX → List (List Int × Addr × Value) → Prop := Paired fun p q => p.1 = q.1 ∧ p.2.1 = q.2.1 ∧ RelV p.2.2 q.2.2
def OX (a : Addr) (o : Obj) (es : List EX) : Prop :=
  es.length ≤ sizeLine ∧ (a == sysModules) = false ∧ (es.map (·.1)).Nodup ∧ ∃ xs, PX es xs ∧ ∃ (arr : Array DictEntry) (ep : Nat), o.ExactDict ∧ o.data = .dict arr ep ∧ arr.toList = xs.map entX
def exo (a : Addr) (o : Obj) : HO := .ext fun h => h.get? a = some o
theorem exo_ok {P : Program} {w : World} {H : Hp} {h : Heap} {a : Addr} {o : Obj} (e : h.get? a = some o) : ObjOk P w H h a (exo a o) := ⟨e, ⟨o, e⟩, fun _ _ d k => k o d⟩
theorem exo_get {P : Program} {w : World} {H : Hp} {h : Heap} {a : Addr} {o : Obj} (x : ObjOk P w H h a (exo a o)) : h.get? a = some o := x.1
theorem PX.keys : ∀ {es : List EX} {xs : List (List Int × Addr × Value)}, PX es xs → xs.map (·.1) = es.map (·.1)
  | _, _, .nil => rfl
  | _, _, .cons h t => by rw [List.map_cons, List.map_cons, h.1, PX.keys t]
def KeyX (P : Program) (w : World) (h : Heap) (es : List EX) : Prop := ∀ p ∈ es, (tupleKind (intKind P w)).is h p.1 p.2.1
theorem dx_dict {P : Program} {w : World} {H : Hp} {h : Heap} {a : Addr} {ob : Obj} {es : List EX} (x : ObjOk P w H h a (exo a ob)) (ox : OX a ob es) (k : KeyX P w h es) : es.length ≤ sizeLine ∧ (a == sysModules) = false ∧ ∃ xs, PX es xs ∧ h.DictOfH (tupleKind (intKind P w)) a xs := by
  obtain ⟨z, y, n, xs, r, arr, ep, c, d, q⟩ := ox
  refine ⟨z, y, xs, r, ob, arr, ep, exo_get x, c, d, q, fun x hx => ?_, by rw [PX.keys r]; exact n⟩
  have all : ∀ {l : List EX} {m : List (List Int × Addr × Value)}, PX l m → (∀ p ∈ l, (tupleKind (intKind P w)).is h p.1 p.2.1) → ∀ x ∈ m, (tupleKind (intKind P w)).is h x.1 x.2.1 := by
    intro l m r
    induction r with
    | nil => intro _ x hx; exact nomatch hx
    | @cons p q ps qs hq t ih =>
      intro k x hx
      rcases List.mem_cons.mp hx with e | hx
      · subst e
        have := k p List.mem_cons_self
        rw [hq.1, hq.2.1] at this
        exact this
      · exact ih (fun p hp => k p (List.mem_cons_of_mem _ hp)) x hx
  exact all r k x hx
def putX (es : List EX) (k : List Int) (b : Addr) (v : V) : List EX :=
  if (es.any fun p => decide (p.1 = k)) = true then es.map fun p => if p.1 = k then (p.1, p.2.1, v) else p else es ++ [(k, b, v)]
theorem PX.any {es : List EX} {xs : List (List Int × Addr × Value)} (r : PX es xs) (k : List Int) : (es.any fun p => decide (p.1 = k)) = (atKey xs k).isSome := by
  induction r with
  | nil => rfl
  | @cons p q ps qs h t ih =>
    rw [List.any_cons, ih]
    by_cases e : q.1 = k
    · have : atKey (q :: qs) k = some q.2 := by simp [atKey, List.find?_cons, e]
      rw [this, h.1, decide_eq_true e]; rfl
    · have : atKey (q :: qs) k = atKey qs k := by simp [atKey, List.find?_cons, e]
      rw [this, h.1, decide_eq_false e]; rfl
theorem PX.put {es : List EX} {xs : List (List Int × Addr × Value)} (r : PX es xs) (k : List Int) (b : Addr) {v : V} {u : Value} (rv : RelV v u) : PX (putX es k b v) (storedH xs k b u) := by
  unfold putX storedH
  rw [r.any k]
  by_cases q : (atKey xs k).isSome = true
  · rw [if_pos q, if_pos q]
    clear q
    induction r with
    | nil => exact .nil
    | @cons p q ps qs h t ih =>
      rw [List.map_cons, List.map_cons]
      refine .cons ?_ ih
      unfold putAt
      rw [h.1]
      by_cases e : q.1 = k
      · rw [if_pos e, if_pos e]; exact ⟨rfl, h.2.1, rv⟩
      · rw [if_neg e, if_neg e]; exact h
  · rw [if_neg q, if_neg q]
    exact Paired.snoc r ⟨rfl, rfl, rv⟩
theorem putX_len (es : List EX) (k : List Int) (b : Addr) (v : V) : (putX es k b v).length ≤ es.length + 1 := by
  unfold putX
  split
  · rw [List.length_map]; omega
  · simp
theorem dx_back {P : Program} {w : World} {h : Heap} {a : Addr} {es : List EX} {xs : List (List Int × Addr × Value)} (z : es.length ≤ sizeLine) (y : (a == sysModules) = false) (r : PX es xs) (d : h.DictOfH (tupleKind (intKind P w)) a xs) : ∃ o, h.get? a = some o ∧ OX a o es := by
  obtain ⟨o, arr, ep, e, c, dd, q, _, n⟩ := d
  exact ⟨o, e, z, y, by rw [← PX.keys r]; exact n, xs, r, arr, ep, c, dd, q⟩
variable {X : Cx} {pins : List (Addr × Obj)} {σ : L2.St} {H : Hp} {s : Shared} {a b : Addr} {es : List EX} {k : List Int} {v : V} {r : Value} {A : Around} {E : Value → Shared → Prop}
theorem isT_of (I : Inv X pins σ H s) (h : SqT X.K H b (k.map V.int)) : (tupleKind (intKind X.prog X.w)).is s.heap k b := by
  obtain ⟨its, rv, ⟨o, ho, hc, n, hd⟩, _⟩ := I.tuple h
  refine ⟨o, its.toArray, n, ho, hc, hd, ?_⟩
  have : ∀ {ns : List Int} {us : List Value}, Vals (ns.map V.int) us → ItemsAre (intKind X.prog X.w) ns us := by
    intro ns
    induction ns with
    | nil => intro us q; rw [List.map_nil] at q; cases q; exact .nil
    | cons i ns ih =>
      intro us q
      rw [List.map_cons] at q
      cases q with
      | @cons x u xs us hx ht =>
        obtain ⟨t, rfl⟩ := hx
        exact .cons (by show Value.isInt i (.int i t) = true; simp [Value.isInt]) (ih ht)
  simpa using this rv
abbrev AllT (K : PySem.W.Frag) (H : Hp) (es : List EX) : Prop := ∀ p ∈ es, SqT K H p.2.1 (p.1.map V.int)
theorem keyX_of (I : Inv X pins σ H s) (h : AllT X.K H es) : KeyX X.prog X.w s.heap es := fun p hp => isT_of I (h p hp)
theorem dx_write {h' : Heap} {tk : Nat} {ob : Obj} (I : Inv X pins σ H s) (e : H a = some (exo a ob)) (z : es.length < sizeLine) {xs : List (List Int × Addr × Value)} (y : (a == sysModules) = false) (rp : PX es xs) (rv : RelV v r) (d : h'.DictOfH (tupleKind (intKind X.prog X.w)) a (storedH xs k b r)) (sb : Heap.SameBut a s.heap h') :
    ∃ o', OX a o' (putX es k b v) ∧ Inv X pins σ (upd H a (exo a o')) { s with heap := h', toks := tk } := by
  have hl := putX_len es k b v
  obtain ⟨o', ho, ox⟩ := dx_back (by omega) y (rp.put k b rv) d
  exact ⟨o', ox, d_write I (by rw [e]; exact True.intro) sb ⟨o', ho⟩ (exo_ok ho)⟩
theorem dx_setItem {Q : Unit → Shared → Prop} {ob : Obj} (hu : A.units + 1 < cLine) (I : Inv X pins σ H s) (e : H a = some (exo a ob)) (ox : OX a ob es) (kt : AllT X.K H es) (hk : SqT X.K H b (k.map V.int)) (z : es.length < sizeLine) (rv : RelV v r) (h : ∀ s' o', OX a o' (putX es k b v) → Inv X pins σ (upd H a (exo a o')) s' → Q () s') :
    wpAny (model X.prog X.w) A (setItem (.ref a) (.ref b) r) Q E s := by
  obtain ⟨z', y, xs, rp, dd⟩ := dx_dict (I.hok a _ e) ox (keyX_of I kt)
  have hz : xs.length ≤ sizeLine := by rw [← Paired.length rp]; exact z'
  exact wpAny_setItem_heap (hsz := hz) (tupleKind_room_in1 hu) (isT_of I hk) dd fun h' d' sb => let ⟨o', q, I'⟩ := dx_write I e z y rp rv d' sb; h _ o' q I'
theorem dx_dictSet {Q : Unit → Shared → Prop} {ob : Obj} (hu : A.units < cLine) (I : Inv X pins σ H s) (e : H a = some (exo a ob)) (ox : OX a ob es) (kt : AllT X.K H es) (hk : SqT X.K H b (k.map V.int)) (z : es.length < sizeLine) (rv : RelV v r) (h : ∀ s' o', OX a o' (putX es k b v) → Inv X pins σ (upd H a (exo a o')) s' → Q () s') :
    wpAny (model X.prog X.w) A (dictSet a (.ref b) r) Q E s := by
  obtain ⟨z', y, xs, rp, dd⟩ := dx_dict (I.hok a _ e) ox (keyX_of I kt)
  have hz : xs.length ≤ sizeLine := by rw [← Paired.length rp]; exact z'
  exact wpAny_dictSet_heap (hsz := hz) hu (isT_of I hk) dd fun h' d' sb => let ⟨o', q, I'⟩ := dx_write I e z y rp rv d' sb; h _ o' q I'
def valX (es : List EX) (k : List Int) : Option V := (es.find? fun p => decide (p.1 = k)).map (·.2.2)
theorem PX.val {es : List EX} {xs : List (List Int × Addr × Value)} (r : PX es xs) {k : List Int} {v : V} (h : valX es k = some v) : ∃ p, atKey xs k = some p ∧ RelV v p.2 := by
  induction r with
  | nil => cases h
  | @cons p q ps qs hq t ih =>
    unfold valX at h
    rw [List.find?_cons] at h
    by_cases e : p.1 = k
    · rw [decide_eq_true e] at h
      cases h
      exact ⟨q.2, by simp [atKey, List.find?_cons, ← hq.1, e], hq.2.2⟩
    · rw [decide_eq_false e] at h
      obtain ⟨z, h1, h2⟩ := ih h
      refine ⟨z, ?_, h2⟩
      rw [← h1]
      simp [atKey, List.find?_cons, ← hq.1, e]
def oEmpty : Obj := { cls := .type "dict", data := .dict #[] }
theorem ox_empty {a : Addr} (hb : sysModules < a) : OX a oEmpty [] := ⟨Nat.zero_le _, beq_eq_false_iff_ne.mpr fun z => Nat.lt_irrefl _ (z ▸ hb), List.nodup_nil, [], .nil, #[], 0, ⟨rfl, rfl, rfl⟩, rfl, rfl⟩
theorem dx_empty {P : Program} {w : World} {H : Hp} (h : Heap) : ObjOk P w H (h.push { cls := .type "dict", data := .dict #[] }) h.objs.size (exo h.objs.size oEmpty) := exo_ok (Heap.get?_push_size _ rfl)
end

def keyD : Key → D
  | .inl i => .int i
  | .inr x => .str x

mutual
inductive Rep (K : Fg) (F : Fp) (H : Hp) : V → D → Prop
  | non : Rep K F H .non .non
  | bl (b : Bool) : Rep K F H (.bl b) (.bl b)
  | int (i : Int) : Rep K F H (.int i) (.int i)
  | str (x : Str) : Rep K F H (.str x) (.str x)
  | tup {a : Addr} {vs : List V} {ds : List D} : TupF K F H a vs → Reps K F H vs ds → Rep K F H (.ref a) (.tup ds)
  | lst {a : Addr} {vs : List V} {ds : List D} : LstF K F H a vs → Reps K F H vs ds → Rep K F H (.ref a) (.lst ds)
  | dK {a : Addr} {kvs : List (Key × V)} {ds : List D} : ¬ F a → H a = some (.dK kvs) → Reps K F H (kvs.map (·.2)) ds → Rep K F H (.ref a) (.dct (kvs.map fun p => keyD p.1) ds)
  | dX {a : Addr} {o : Obj} {es : List EX} {ds : List D} : ¬ F a → es ≠ [] → H a = some (exo a o) → OX a o es → (∀ p ∈ es, TupF K F H p.2.1 (p.1.map V.int)) → Reps K F H (es.map (·.2.2)) ds → Rep K F H (.ref a) (.dct (es.map fun p => .tup (p.1.map D.int)) ds)
  | obj {a dx : Addr} {C : Str} {fs : List (Str × V)} {ds : List D} : ¬ F a → H a = some (.ins (He.ga K C) dx fs) → Reps K F H (fs.map (·.2)) ds → Rep K F H (.ref a) (.obj C (fs.map (·.1)) ds)
  | at (a : Addr) : Rep K F H (.ref a) (.at a)
  | ty (n : String) : Rep K F H (.ty n) (.ty n)
  | cls (C : Str) : Rep K F H (.ref (He.ga K C)) (.cls C)
  | scr {a : Addr} {ns : List Int} : ScrF K F H a (ns.map V.int) → Rep K F H (.ref a) (.scr ns)
inductive Reps (K : Fg) (F : Fp) (H : Hp) : List V → List D → Prop
  | nil : Reps K F H [] []
  | cons {v : V} {vs : List V} {d : D} {ds : List D} : Rep K F H v d → Reps K F H vs ds → Reps K F H (v :: vs) (d :: ds)
end

section
variable {K : Fg} {F F' F1 F2 : Fp} {H H' H1 H2 : Hp}
theorem Reps.length : ∀ {vs : List V} {ds : List D}, Reps K F H vs ds → vs.length = ds.length
  | _, _, .nil => rfl
  | _, _, .cons _ t => congrArg (· + 1) (Reps.length t)
theorem Reps.get : ∀ {vs : List V} {ds : List D} {i : Nat} {d : D}, Reps K F H vs ds → ds[i]? = some d → ∃ v, vs[i]? = some v ∧ Rep K F H v d
  | _, _, _, _, .nil, e => by simp at e
  | _, _, 0, _, .cons r _, e => by simp at e; subst e; exact ⟨_, rfl, r⟩
  | _, _, i + 1, d, .cons _ t, e => by
    obtain ⟨v, h1, h2⟩ := Reps.get (i := i) (d := d) t (by simpa using e)
    exact ⟨v, by simpa using h1, h2⟩
theorem Reps.getV : ∀ {vs : List V} {ds : List D} {i : Nat} {v : V}, Reps K F H vs ds → vs[i]? = some v → ∃ d, ds[i]? = some d ∧ Rep K F H v d
  | _, _, _, _, .nil, e => by simp at e
  | _, _, 0, _, .cons r _, e => by simp at e; subst e; exact ⟨_, rfl, r⟩
  | _, _, i + 1, v, .cons _ t, e => by
    obtain ⟨d, h1, h2⟩ := Reps.getV (i := i) (v := v) t (by simpa using e)
    exact ⟨d, by simpa using h1, h2⟩
theorem Reps.append : ∀ {vs ws : List V} {ds es : List D}, Reps K F H vs ds → Reps K F H ws es → Reps K F H (vs ++ ws) (ds ++ es)
  | _, _, _, _, .nil, s => s
  | _, _, _, _, .cons r t, s => .cons r (Reps.append t s)
theorem Reps.take : ∀ {vs : List V} {ds : List D} (n : Nat), Reps K F H vs ds → Reps K F H (vs.take n) (ds.take n)
  | _, _, 0, _ => .nil
  | _, _, _ + 1, .nil => .nil
  | _, _, n + 1, .cons r t => .cons r (Reps.take n t)
theorem Reps.drop : ∀ {vs : List V} {ds : List D} (n : Nat), Reps K F H vs ds → Reps K F H (vs.drop n) (ds.drop n)
  | _, _, 0, r => r
  | _, _, _ + 1, .nil => .nil
  | _, _, n + 1, .cons r t => Reps.drop n t
theorem Reps.set {x : V} {d : D} (r : Rep K F H x d) : ∀ {vs : List V} {ds : List D} (i : Nat), Reps K F H vs ds → Reps K F H (vs.set i x) (ds.set i d)
  | _, _, _, .nil => .nil
  | _, _, 0, .cons _ t => .cons r t
  | _, _, i + 1, .cons q t => .cons q (Reps.set r i t)
theorem Reps.snoc {vs : List V} {ds : List D} {v : V} {d : D} (h : Reps K F H vs ds) (r : Rep K F H v d) : Reps K F H (vs ++ [v]) (ds ++ [d]) := h.append (.cons r .nil)

structure Stp (F1 : Fp) (H : Hp) (F2 : Fp) (H' : Hp) : Prop where
  keep : ∀ b o, ¬ F1 b → H b = some o → H' b = some o
  new : ∀ b, F2 b → F1 b ∨ H b = none
abbrev Sm (F : Fp) (H H' : Hp) : Prop := ∀ b o, ¬ F b → H b = some o → H' b = some o
theorem Sm.refl (F : Fp) (H : Hp) : Sm F H H := fun _ _ _ e => e
theorem Sm.trans (a : Sm F H H1) (b : Sm F H1 H2) : Sm F H H2 := fun c o n e => b c o n (a c o n e)
theorem Sm.of_same (a : Same H H') : Sm F H H' := fun b o _ e => a b o e
theorem Sm.mono (a : Sm F H H') (h : ∀ b, F b → F' b) : Sm F' H H' := fun b o n e => a b o (fun z => n (h b z)) e
theorem Stp.refl (F : Fp) (H : Hp) : Stp F H F H := ⟨fun _ _ _ e => e, fun _ h => .inl h⟩
theorem Stp.trans {F3 : Fp} (a : Stp F1 H F2 H1) (b : Stp F2 H1 F3 H2) : Stp F1 H F3 H2 where
  keep := fun c o n e => b.keep c o (fun z => by rcases a.new c z with q | q; exact n q; rw [q] at e; cases e) (a.keep c o n e)
  new := fun c h => by
    rcases b.new c h with q | q
    · exact a.new c q
    · by_cases n : F1 c
      · exact .inl n
      · right
        cases e : H c with
        | none => rfl
        | some o => rw [a.keep c o n e] at q; cases q
theorem Stp.of_sm (a : Sm F H H') (h : ∀ b, F b → F1 b) : Stp F1 H F1 H' := ⟨fun b o n e => a b o (fun z => n (h b z)) e, fun _ z => .inl z⟩

theorem TupF.step {a : Addr} {xs : List V} (h : TupF K F1 H a xs) (s : Stp F1 H F2 H') : TupF K F2 H' a xs := by
  rcases h with ⟨n, h⟩ | h
  · refine .inl ⟨fun z => ?_, ?_⟩
    · rcases s.new a z with q | q
      · exact n q
      · rcases h with h | ⟨o, h⟩ <;> (rw [q] at h; cases h)
    · rcases h with h | ⟨o, h⟩
      · exact .inl (s.keep a _ n h)
      · exact .inr ⟨o, s.keep a _ n h⟩
  · exact .inr h
theorem LstF.step {a : Addr} {xs : List V} (h : LstF K F1 H a xs) (s : Stp F1 H F2 H') : LstF K F2 H' a xs := by
  obtain ⟨n, h⟩ := h
  refine ⟨fun z => ?_, ?_⟩
  · rcases s.new a z with q | q
    · exact n q
    · rcases h with h | ⟨o, h⟩ <;> (rw [q] at h; cases h)
  · rcases h with h | ⟨o, h⟩
    · exact .inl (s.keep a _ n h)
    · exact .inr ⟨o, s.keep a _ n h⟩
theorem ScrF.step {a : Addr} {xs : List V} (h : ScrF K F1 H a xs) (s : Stp F1 H F2 H') : ScrF K F2 H' a xs := by
  rcases h with h | h
  · exact .inl (LstF.step (K := K) h s)
  · exact .inr h
theorem nstep {a : Addr} {o : HO} (s : Stp F1 H F2 H') (n : ¬ F1 a) (e : H a = some o) : ¬ F2 a := fun z => by
  rcases s.new a z with q | q
  · exact n q
  · rw [q] at e; cases e
mutual
theorem Rep.step (s : Stp F1 H F2 H') : ∀ {v : V} {d : D}, Rep K F1 H v d → Rep K F2 H' v d
  | _, _, .non => .non
  | _, _, .bl b => .bl b
  | _, _, .int i => .int i
  | _, _, .str x => .str x
  | _, _, .tup h r => .tup (h.step s) (Reps.step s r)
  | _, _, .lst h r => .lst (h.step s) (Reps.step s r)
  | _, _, .dK n e r => .dK (nstep s n e) (s.keep _ _ n e) (Reps.step s r)
  | _, _, .dX n ne e ox kt r => .dX (nstep s n e) ne (s.keep _ _ n e) ox (fun p hp => (kt p hp).step s) (Reps.step s r)
  | _, _, .obj n e r => .obj (nstep s n e) (s.keep _ _ n e) (Reps.step s r)
  | _, _, .at a => .at a
  | _, _, .ty n => .ty n
  | _, _, .cls C => .cls C
  | _, _, .scr h => .scr (h.step s)
theorem Reps.step (s : Stp F1 H F2 H') : ∀ {vs : List V} {ds : List D}, Reps K F1 H vs ds → Reps K F2 H' vs ds
  | _, _, .nil => .nil
  | _, _, .cons r t => .cons (Rep.step s r) (Reps.step s t)
end
theorem Stp.less (h : ∀ b, F2 b → F1 b) : Stp F1 H F2 H := ⟨fun _ _ _ e => e, fun b z => .inl (h b z)⟩
theorem Rep.anti {v : V} {d : D} (r : Rep K F1 H v d) (h : ∀ b, F2 b → F1 b) : Rep K F2 H v d := Rep.step (Stp.less h) r
theorem Reps.anti {v : List V} {d : List D} (r : Reps K F1 H v d) (h : ∀ b, F2 b → F1 b) : Reps K F2 H v d := Reps.step (Stp.less h) r
theorem Rep.same {v : V} {d : D} (r : Rep K F H v d) (s : Sm F H H') : Rep K F H' v d := Rep.step ⟨s, fun _ z => .inl z⟩ r
theorem Reps.same {v : List V} {d : List D} (r : Reps K F H v d) (s : Sm F H H') : Reps K F H' v d := Reps.step ⟨s, fun _ z => .inl z⟩ r

inductive DOb (K : Fg) (F : Fp) (H : Hp) (a : Addr) : HO → List D → List D → Prop
  | k {kvs : List (Key × V)} {ds : List D} : Reps K F H (kvs.map (·.2)) ds → DOb K F H a (.dK kvs) (kvs.map fun p => keyD p.1) ds
  | x {o : Obj} {es : List EX} {ds : List D} : es ≠ [] → OX a o es → (∀ p ∈ es, TupF K F H p.2.1 (p.1.map V.int)) → Reps K F H (es.map (·.2.2)) ds → DOb K F H a (exo a o) (es.map fun p => .tup (p.1.map D.int)) ds
theorem DOb.step {u : HO} {a : Addr} {ks ds : List D} (s : Stp F1 H F2 H') (r : DOb K F1 H a u ks ds) : DOb K F2 H' a u ks ds := by
  cases r with
  | k r => exact .k (r.step s)
  | x n ox kt r => exact .x n ox (fun p hp => (kt p hp).step s) (r.step s)
theorem DOb.anti {u : HO} {a : Addr} {ks ds : List D} (r : DOb K F1 H a u ks ds) (h : ∀ b, F2 b → F1 b) : DOb K F2 H a u ks ds := r.step (Stp.less h)
theorem DOb.same {u : HO} {a : Addr} {ks ds : List D} (r : DOb K F H a u ks ds) (s : Sm F H H') : DOb K F H' a u ks ds := r.step ⟨s, fun _ z => .inl z⟩
theorem DOb.rep {u : HO} {ks ds : List D} {a : Addr} (r : DOb K F H a u ks ds) (n : ¬ F a) (e : H a = some u) : Rep K F H (.ref a) (.dct ks ds) := by
  cases r with
  | k r => exact .dK n e r
  | x ne ox kt r => exact .dX n ne e ox kt r
inductive RepW (K : Fg) (F0 F : Fp) (H : Hp) : V → D → Prop
  | of {v : V} {d : D} : Rep K F H v d → RepW K F0 F H v d
  | dct {a : Addr} {u : HO} {ks ds : List D} : ¬ F0 a → H a = some u → DOb K F H a u ks ds → RepW K F0 F H (.ref a) (.dct ks ds)
  | lst {a : Addr} {vs : List V} {ds : List D} : LstF K F0 H a vs → Reps K F H vs ds → RepW K F0 F H (.ref a) (.lst ds)
inductive RepsW (K : Fg) (F0 F : Fp) (H : Hp) : List V → List D → Prop
  | nil : RepsW K F0 F H [] []
  | cons {v : V} {vs : List V} {d : D} {ds : List D} : RepW K F0 F H v d → RepsW K F0 F H vs ds → RepsW K F0 F H (v :: vs) (d :: ds)
section
variable {F0 : Fp}
theorem RepW.lstOf {v : V} {ds : List D} (r : RepW K F0 F H v (.lst ds)) : ∃ a vs, v = .ref a ∧ LsR K H a vs ∧ Reps K F H vs ds := by
  cases r with
  | of r => cases r with | lst h r => exact ⟨_, _, rfl, h.ls, r⟩
  | lst h r => exact ⟨_, _, rfl, h.ls, r⟩
theorem RepW.tupOf {v : V} {ds : List D} (r : RepW K F0 F H v (.tup ds)) : ∃ a vs, v = .ref a ∧ TupF K F H a vs ∧ Reps K F H vs ds := by
  cases r with
  | of r => cases r with | tup h r => exact ⟨_, _, rfl, h, r⟩
theorem RepW.scrOf {v : V} {ns : List Int} (r : RepW K F0 F H v (.scr ns)) : ∃ a, v = .ref a ∧ ScrF K F H a (ns.map V.int) := by
  cases r with
  | of r => cases r with | scr h => exact ⟨_, rfl, h⟩
theorem RepW.intOf {v : V} {i : Int} (r : RepW K F0 F H v (.int i)) : v = .int i := by
  cases r with | of r => cases r; rfl
theorem RepW.blOf {v : V} {i : Bool} (r : RepW K F0 F H v (.bl i)) : v = .bl i := by
  cases r with | of r => cases r; rfl
theorem RepW.strOf {v : V} {i : Str} (r : RepW K F0 F H v (.str i)) : v = .str i := by
  cases r with | of r => cases r; rfl
theorem RepW.nonOf {v : V} (r : RepW K F0 F H v .non) : v = .non := by
  cases r with | of r => cases r; rfl
theorem RepW.same {v : V} {d : D} (r : RepW K F0 F H v d) (s : Sm F0 H H') (h : ∀ b, F0 b → F b) : RepW K F0 F H' v d := by
  cases r with
  | of r => exact .of (r.same (s.mono h))
  | lst q r => exact .lst (q.step ⟨s, fun _ z => .inl z⟩) (r.same (s.mono h))
  | dct n e r => exact .dct n (s _ _ n e) (r.same (s.mono h))
theorem RepsW.same : ∀ {v : List V} {d : List D}, RepsW K F0 F H v d → Sm F0 H H' → (∀ b, F0 b → F b) → RepsW K F0 F H' v d
  | _, _, .nil, _, _ => .nil
  | _, _, .cons r t, s, h => .cons (r.same s h) (RepsW.same t s h)
theorem Reps.weak : ∀ {v : List V} {d : List D}, Reps K F H v d → RepsW K F0 F H v d
  | _, _, .nil => .nil
  | _, _, .cons r t => .cons (.of r) (Reps.weak t)
theorem RepW.lend {v : V} {d : D} (r : RepW K F0 F H v d) (h : ∀ b, F0 b → F b) : Rep K F0 H v d := by
  cases r with
  | of r => exact r.anti h
  | lst q r => exact .lst q (Reps.anti r h)
  | dct n e r => exact (r.anti h).rep n e
theorem RepsW.lend : ∀ {v : List V} {d : List D}, RepsW K F0 F H v d → (∀ b, F0 b → F b) → Reps K F0 H v d
  | _, _, .nil, _ => .nil
  | _, _, .cons r t, h => .cons (r.lend h) (RepsW.lend t h)
theorem RepsW.one {vs : List V} {d : D} (r : RepsW K F0 F H vs [d]) : ∃ v, vs = [v] ∧ RepW K F0 F H v d := by
  cases r with | cons r t => cases t; exact ⟨_, rfl, r⟩
theorem RepsW.two {vs : List V} {d e : D} (r : RepsW K F0 F H vs [d, e]) : ∃ v w, vs = [v, w] ∧ RepW K F0 F H v d ∧ RepW K F0 F H w e := by
  cases r with | cons r t => cases t with | cons r2 t => cases t; exact ⟨_, _, rfl, r, r2⟩
end
end

abbrev Fds := Option (List Str × List D)
inductive Res (τ α : Type) where
  | ok (a : α) (t : τ) | ex (n : Str) (fs : Fds) (t : τ) | bad
def Res.bind {τ α β : Type} (r : Res τ α) (k : α → τ → Res τ β) : Res τ β := match r with
  | .ok a t => k a t
  | .ex n fs t => .ex n fs t
  | .bad => .bad
@[simp] theorem Res.bind_ok {τ α β : Type} (a : α) (t : τ) (k : α → τ → Res τ β) : (Res.ok a t).bind k = k a t := rfl
@[simp] theorem Res.bind_ex {τ α β : Type} (n : Str) (fs : Fds) (t : τ) (k : α → τ → Res τ β) : (Res.ex n fs t : Res τ α).bind k = .ex n fs t := rfl
@[simp] theorem Res.bind_bad {τ α β : Type} (k : α → τ → Res τ β) : (Res.bad : Res τ α).bind k = .bad := rfl
def opt {τ α : Type} (o : Option α) (t : τ) : Res τ α := match o with
  | some a => .ok a t
  | none => .bad
@[simp] theorem opt_some {τ α : Type} (a : α) (t : τ) : opt (some a) t = Res.ok a t := rfl
@[simp] theorem opt_none {τ α : Type} (t : τ) : (opt none t : Res τ α) = .bad := rfl

inductive Slot where
  | no | val (d : D) | own (xs : List D) | dct (ks xs : List D)
def Slot.mine : Slot → Bool
  | .own _ => true
  | .dct .. => true
  | _ => false
inductive OwnR (K : Fg) (F : Fp) (H : Hp) (a : Addr) : HO → Slot → Prop
  | lst {vs : List V} {xs : List D} : Reps K F H vs xs → OwnR K F H a (.lst vs) (.own xs)
  | dct {u : HO} {ks xs : List D} : DOb K F H a u ks xs → OwnR K F H a u (.dct ks xs)
theorem OwnR.step {K : Fg} {F1 F2 : Fp} {H H' : Hp} {a : Addr} {u : HO} {x : Slot} (r : OwnR K F1 H a u x) (s : Stp F1 H F2 H') : OwnR K F2 H' a u x := by
  cases r with
  | lst r => exact .lst (r.step s)
  | dct r => exact .dct (r.step s)
theorem OwnR.anti {K : Fg} {F1 F2 : Fp} {H : Hp} {a : Addr} {u : HO} {x : Slot} (r : OwnR K F1 H a u x) (h : ∀ b, F2 b → F1 b) : OwnR K F2 H a u x := r.step (Stp.less h)
theorem OwnR.same {K : Fg} {F : Fp} {H H' : Hp} {a : Addr} {u : HO} {x : Slot} (r : OwnR K F H a u x) (s : Sm F H H') : OwnR K F H' a u x := r.step ⟨s, fun _ z => .inl z⟩
abbrev Rho := List Slot
inductive Fl (τ : Type) where
  | nx (ρ : Rho) (t : τ) | rt (d : D) (t : τ) | bk (ρ : Rho) (t : τ) | ct (ρ : Rho) (t : τ) | ex (n : Str) (fs : Fds) (ρ : Rho) (t : τ) | bad

def XRep (K : Fg) (F : Fp) (H : Hp) (n : Str) (fs : Fds) (cls : Value) (dd : Option Addr) : Prop :=
  cls = .ref (He.ga K n) ∧ match fs with
    | none => dd = none
    | some (ns, ds) => ∃ a vs, dd = some a ∧ H a = some (.xd (ns.zip vs)) ∧ vs.length = ns.length ∧ Reps K F H vs ds
theorem XRep.anti {K : Fg} {F F' : Fp} {H : Hp} {n : Str} {fs : Fds} {cls : Value} {dd : Option Addr} (x : XRep K F H n fs cls dd) (h : ∀ b, F' b → F b) : XRep K F' H n fs cls dd := by
  obtain ⟨e, x⟩ := x
  refine ⟨e, ?_⟩
  cases fs with
  | none => exact x
  | some p =>
    obtain ⟨ns, ds⟩ := p
    obtain ⟨a, vs, h1, h2, h3, h4⟩ := x
    exact ⟨a, vs, h1, h2, h3, h4.anti h⟩

structure SC (τ : Type) where
  F : Fp
  Iv : τ → Fp → Hp → Prop
  dom : ∀ t G H b, Iv t G H → F b → H b ≠ none
  step : ∀ t G H G' H', Iv t G H → (∀ b o, F b → H b = some o → H' b = some o) → Stp G H G' H' → Iv t G' H'
theorem SC.stay {τ : Type} (C : SC τ) {t : τ} {G : Fp} {H H' : Hp} (i : C.Iv t G H) (s : Same H H') : C.Iv t G H' := C.step t G H G H' i (fun b o _ e => s b o e) ⟨fun b o _ e => s b o e, fun _ h => .inl h⟩
theorem SC.less {τ : Type} (C : SC τ) {t : τ} {G G' : Fp} {H : Hp} (i : C.Iv t G H) (h : ∀ b, G' b → G b) : C.Iv t G' H := C.step t G H G' H i (fun _ _ _ e => e) (Stp.less h)

def SC.cmp {τ : Type} (C : SC τ) (D0 : Addr) (u : HO) : SC τ where
  F := fun b => C.F b ∨ b = D0
  Iv := fun t G H => C.Iv t G H ∧ H D0 = some u
  dom := fun t G H b h1 h2 => by
    rcases h2 with h2 | h2
    · exact C.dom t G H b h1.1 h2
    · rw [h2, h1.2]; intro z; cases z
  step := fun t G H G' H' h1 h2 s => ⟨C.step t G H G' H' h1.1 (fun b o q e => h2 b o (.inl q) e) s, h2 _ _ (.inr rfl) h1.2⟩
def SC.ov {τ : Type} (C : SC τ) (F : Fp) (H1 : Hp) (hF : ∀ b, C.F b → F b) (dm : ∀ b, F b → H1 b ≠ none) : SC τ where
  F := F
  Iv := fun t G H' => C.Iv t G H' ∧ Stp F H1 G H' ∧ ∀ b o, F b → ¬ C.F b → H1 b = some o → H' b = some o
  dom := fun t G H' b h hb => by
    by_cases q : C.F b
    · exact C.dom t G H' b h.1 q
    · cases e : H1 b with
      | none => exact absurd e (dm b hb)
      | some o => rw [h.2.2 b o hb q e]; intro z; cases z
  step := fun t G H G' H' h1 h2 s => ⟨C.step t G H G' H' h1.1 (fun b o h e => h2 b o (hF b h) e) s, h1.2.1.trans s, fun b o hb n e => h2 b o hb (h1.2.2 b o hb n e)⟩
def SC.lend {τ : Type} (C : SC τ) (O : Fp) (H1 : Hp) (hO : ∀ b, O b → ¬ C.F b) (dm : ∀ b, O b → H1 b ≠ none) : SC τ where
  F := C.F
  Iv := fun t G H => C.Iv t (fun b => G b ∨ O b) H ∧ (∀ b, O b → ¬ G b) ∧ ∀ b o, O b → H1 b = some o → H b = some o
  dom := fun t G H b h hb => C.dom t _ H b h.1 hb
  step := fun t G H G' H' h1 h2 s => by
    have nn : ∀ b, O b → H b ≠ none := fun b hb => by
      cases e : H1 b with
      | none => exact absurd e (dm b hb)
      | some o => rw [h1.2.2 b o hb e]; intro z; cases z
    refine ⟨C.step t _ H _ H' h1.1 h2 ⟨fun b o n e => s.keep b o (fun z => n (.inl z)) e, fun b h => h.elim (fun z => (s.new b z).elim (fun z => .inl (.inl z)) .inr) fun z => .inl (.inr z)⟩, fun b hb hg => ?_, fun b o hb e => ?_⟩
    · rcases s.new b hg with q | q
      · exact h1.2.1 b hb q
      · exact nn b hb q
    · exact s.keep b o (h1.2.1 b hb) (h1.2.2 b o hb e)
class Sto (τ : Type) where
  ok : Fg → SC τ → Prop
  cmp : ∀ K C D0 u, ¬ C.F D0 → ok K C → ok K (SC.cmp C D0 u)
  ov : ∀ K C F H1 hF dm, ok K C → ok K (SC.ov C F H1 hF dm)
  lend : ∀ K C O H1 hO dm, ok K C → ok K (SC.lend C O H1 hO dm)
instance : Sto Unit := ⟨fun _ _ => True, fun _ _ _ _ _ _ => trivial, fun _ _ _ _ _ _ _ => trivial, fun _ _ _ _ _ _ _ => trivial⟩

def Fo (F : Fp) (ρ : Rho) (σ : St) : Fp := fun b => F b ∨ ∃ (i : Nat) (x : Slot), (ρ[i]? = some x ∧ x.mine = true) ∧ σ[i]? = some (some (.ref b))

structure At {τ : Type} [Sto τ] (K : Fg) (C : SC τ) (ρ : Rho) (t : τ) (σ : St) (H : Hp) : Prop where
  okC : Sto.ok K C
  st : C.Iv t (Fo C.F ρ σ) H
  len : σ.length = ρ.length
  val : ∀ (i : Nat) (d : D), ρ[i]? = some (.val d) → ∃ v, σ[i]? = some (some v) ∧ Rep K (Fo C.F ρ σ) H v d
  mine : ∀ (i : Nat) (x : Slot), (ρ[i]? = some x ∧ x.mine = true) → ∃ (a : Addr) (u : HO), σ[i]? = some (some (.ref a)) ∧ ¬ C.F a ∧ H a = some u ∧ OwnR K (Fo C.F ρ σ) H a u x
  dis : ∀ (i j : Nat) (x y : Slot), (ρ[i]? = some x ∧ x.mine = true) → (ρ[j]? = some y ∧ y.mine = true) → σ[i]? = σ[j]? → i = j

section
variable {τ : Type} [Sto τ] {K : Fg} {C : SC τ} {ρ : Rho} {t t' : τ} {σ : St} {H H' H1 : Hp}
theorem At.dom (A : At K C ρ t σ H) : ∀ b, Fo C.F ρ σ b → H b ≠ none := fun b h => by
  rcases h with h | ⟨i, xs, h1, h2⟩
  · exact C.dom _ _ _ _ A.st h
  · obtain ⟨a, vs, e, _, q, _⟩ := A.mine i xs h1
    rw [e] at h2
    cases h2
    rw [q]
    intro z; cases z
theorem At.own (A : At K C ρ t σ H) (i : Nat) (xs : List D) (e : ρ[i]? = some (.own xs)) : ∃ (a : Addr) (vs : List V), σ[i]? = some (some (.ref a)) ∧ ¬ C.F a ∧ H a = some (.lst vs) ∧ Reps K (Fo C.F ρ σ) H vs xs := by
  obtain ⟨a, u, h1, h2, h3, h4⟩ := A.mine i _ ⟨e, rfl⟩
  cases h4 with
  | lst r => exact ⟨a, _, h1, h2, h3, r⟩
theorem At.dct (A : At K C ρ t σ H) (i : Nat) (ks xs : List D) (e : ρ[i]? = some (.dct ks xs)) : ∃ (a : Addr) (u : HO), σ[i]? = some (some (.ref a)) ∧ ¬ C.F a ∧ H a = some u ∧ DOb K (Fo C.F ρ σ) H a u ks xs := by
  obtain ⟨a, u, h1, h2, h3, h4⟩ := A.mine i _ ⟨e, rfl⟩
  cases h4 with
  | dct r => exact ⟨a, _, h1, h2, h3, r⟩
theorem Fo.base {F : Fp} {b : Addr} (h : F b) : Fo F ρ σ b := .inl h
theorem At.next (A : At K C ρ t σ H) (s : Sm C.F H H') (i : C.Iv t' (Fo C.F ρ σ) H') : At K C ρ t' σ H' where
  okC := A.okC
  st := i
  len := A.len
  val := fun i d e => by
    obtain ⟨v, h1, h2⟩ := A.val i d e
    exact ⟨v, h1, h2.same (s.mono fun _ z => .inl z)⟩
  mine := fun i xs e => by
    obtain ⟨a, vs, h1, h2, h3, h4⟩ := A.mine i xs e
    exact ⟨a, vs, h1, h2, s _ _ h2 h3, h4.same (s.mono fun _ z => .inl z)⟩
  dis := A.dis
end

section
variable {τ : Type} [Sto τ] {α β : Type}
abbrev Rel (β α : Type) := Fg → (Fp → Hp → Prop) → Fp → Fp → Hp → Hp → β → α → Prop
structure RelOk (R : Rel β α) : Prop where
  base : ∀ K I F0 F H H1 H' v d, Sm F H H1 → R K I F0 F H1 H' v d → R K I F0 F H H' v d
def Post (R : Rel β α) (K : Fg) (W : WX) (C : SC τ) (F : Fp) (σ : St) (H : Hp) (r : Res τ α) (Q : β → Hp → Prop) : Prop := match r with
  | .ok d t' => ∀ v H', Sm C.F H H' → C.Iv t' F H' → R K (C.Iv t') C.F F H H' v d → Q v H'
  | .ex n fs t' => ∀ cls dd H', Sm C.F H H' → C.Iv t' F H' → XRep K F H' n fs cls dd → W cls dd σ H'
  | .bad => False
def tG (R : Rel β α) (K : Fg) (W : WX) (m : Rho → τ → Res τ α) : St → Hp → (β → Hp → Prop) → Prop := fun σ H Q =>
  ∃ (C : SC τ) (ρ : Rho) (t : τ), At K C ρ t σ H ∧ Post R K W C (Fo C.F ρ σ) σ H (m ρ t) Q
variable {R : Rel β α} {K : Fg} {W : WX} {C : SC τ} {F : Fp} {σ : St} {H H1 : Hp} {ρ : Rho} {t : τ} {Q Q' : β → Hp → Prop}
theorem Post.rebase (ok : RelOk R) {r : Res τ α} (h : Post R K W C F σ H r Q) (s : Sm C.F H H1) (hF : ∀ b, C.F b → F b) : Post R K W C F σ H1 r Q := by
  cases r with
  | ok d t' => exact fun v H' s' i r => h v H' (s.trans s') i (ok.base _ _ _ _ _ _ _ _ _ (s.mono hF) r)
  | ex n fs t' => exact fun cls dd H' s' i x => h cls dd H' (s.trans s') i x
  | bad => exact h
theorem use {γ δ : Type} {R2 : Rel δ γ} {ma : Rho → τ → Res τ α} {k : α → τ → Res τ γ} {Qd : δ → Hp → Prop} (ok2 : RelOk R2) (A : At K C ρ t σ H) (h : Post R2 K W C (Fo C.F ρ σ) σ H ((ma ρ t).bind k) Qd)
    (hk : ∀ d t1 v H1, ma ρ t = .ok d t1 → Sm C.F H H1 → At K C ρ t1 σ H1 → R K (C.Iv t1) C.F (Fo C.F ρ σ) H H1 v d → Post R2 K W C (Fo C.F ρ σ) σ H1 (k d t1) Qd → Q v H1) : tG R K W ma σ H Q := by
  refine ⟨C, ρ, t, A, ?_⟩
  cases e : ma ρ t with
  | ok d t1 =>
    rw [e] at h
    exact fun v H1 s i r => hk d t1 v H1 e s (A.next s i) r (Post.rebase ok2 h s fun _ z => .inl z)
  | ex n fs t1 =>
    rw [e] at h
    exact h
  | bad =>
    rw [e] at h
    exact h
end

def rE : Rel V D := fun K _ _ F _ H' v d => Rep K F H' v d
def rW : Rel V D := fun K _ F0 F _ H' v d => RepW K F0 F H' v d
def rB : Rel Bool Bool := fun _ _ _ _ _ _ v d => v = d
def rA : Rel (List V) (List D) := fun K _ _ F _ H' v d => Reps K F H' v d
def rAW : Rel (List V) (List D) := fun K _ F0 F _ H' v d => RepsW K F0 F H' v d
def rF : Rel V (List D) := fun K I _ F H H' v ds => ∃ a vs, v = .ref a ∧ ¬ F a ∧ H a = none ∧ H' a = some (.lst vs) ∧ Reps K (fun b => F b ∨ b = a) H' vs ds ∧ I (fun b => F b ∨ b = a) H'
theorem okE : RelOk rE := ⟨fun _ _ _ _ _ _ _ _ _ _ h => h⟩
theorem okB : RelOk rB := ⟨fun _ _ _ _ _ _ _ _ _ _ h => h⟩
theorem okA : RelOk rA := ⟨fun _ _ _ _ _ _ _ _ _ _ h => h⟩
theorem okAW : RelOk rAW := ⟨fun _ _ _ _ _ _ _ _ _ _ h => h⟩
theorem okF : RelOk rF := ⟨fun K I F0 F H H1 H' v d s h => by
  obtain ⟨a, vs, e, n, q, r⟩ := h
  refine ⟨a, vs, e, n, ?_, r⟩
  cases z : H a with
  | none => rfl
  | some o => rw [s a o n z] at q; cases q⟩
abbrev tE {τ : Type} [Sto τ] (K : Fg) (W : WX) (m : Rho → τ → Res τ D) : TE := tG rE K W m
abbrev tW {τ : Type} [Sto τ] (K : Fg) (W : WX) (m : Rho → τ → Res τ D) : TE := tG rW K W m
abbrev tF {τ : Type} [Sto τ] (K : Fg) (W : WX) (m : Rho → τ → Res τ (List D)) : TE := tG rF K W m
abbrev tT {τ : Type} [Sto τ] (K : Fg) (W : WX) (m : Rho → τ → Res τ Bool) : TT := tG rB K W m
abbrev tAW {τ : Type} [Sto τ] (K : Fg) (W : WX) (m : Rho → τ → Res τ (List D)) : TA := tG rAW K W m
abbrev tA {τ : Type} [Sto τ] (K : Fg) (W : WX) (m : Rho → τ → Res τ (List D)) : TA := tG rA K W m

theorem PE.imp {X : Cx} {e : Expr} {t t' : TE} (h : PE X e t) (i : ∀ σ H Q, t' σ H Q → t σ H Q) : PE X e t' := ⟨fun pins s σ H Q I q => h.run pins s σ H Q I (i σ H Q q)⟩
theorem PT.imp {X : Cx} {e : Expr} {t t' : TT} (h : PT X e t) (i : ∀ σ H Q, t' σ H Q → t σ H Q) : PT X e t' := ⟨fun pins s σ H Q I q => h.run pins s σ H Q I (i σ H Q q)⟩
theorem PA.imp {X : Cx} {e : List Expr} {t t' : TA} (h : PA X e t) (i : ∀ σ H Q, t' σ H Q → t σ H Q) : PA X e t' := ⟨fun pos pins s σ H Q I q => h.run pos pins s σ H Q I (i σ H Q q)⟩
theorem PW.imp {X : Cx} {e : Expr} {t t' : TT} (h : PW X e t) (i : ∀ σ H Q, t' σ H Q → t σ H Q) : PW X e t' := ⟨fun wh pins s σ H Q I q => h.run wh pins s σ H Q I (i σ H Q q)⟩
theorem PS.imp {X : Cx} {e : Stmt} {t t' : TS} (h : PS X e t) (i : ∀ D σ H, t' D σ H → t D σ H) : PS X e t' := ⟨fun pins s σ H D I q => h.run pins s σ H D I (i D σ H q)⟩
theorem PSs.imp {X : Cx} {e : List Stmt} {t t' : TS} (h : PSs X e t) (i : ∀ D σ H, t' D σ H → t D σ H) : PSs X e t' := ⟨fun pins s σ H D I q => h.run pins s σ H D I (i D σ H q)⟩

section
variable {τ : Type} [Sto τ]
def SPost (K : Fg) (W : WX) (C : SC τ) (F1 : Fp) (H : Hp) (r : Fl τ) (E : Ends) : Prop := match r with
  | .nx ρ' t' => ∀ σ' H', Stp F1 H (Fo C.F ρ' σ') H' → At K C ρ' t' σ' H' → E.nx σ' H'
  | .bk ρ' t' => ∀ σ' H', Stp F1 H (Fo C.F ρ' σ') H' → At K C ρ' t' σ' H' → E.bk σ' H'
  | .ct ρ' t' => ∀ σ' H', Stp F1 H (Fo C.F ρ' σ') H' → At K C ρ' t' σ' H' → E.ct σ' H'
  | .rt d t' => ∀ v H', Sm F1 H H' → C.Iv t' C.F H' → Rep K C.F H' v d → E.rt v H'
  | .ex n fs ρ' t' => ∀ cls dd σ' H', Stp F1 H (Fo C.F ρ' σ') H' → At K C ρ' t' σ' H' → XRep K (Fo C.F ρ' σ') H' n fs cls dd → W cls dd σ' H'
  | .bad => False
def tS (K : Fg) (W : WX) (m : Rho → τ → Fl τ) : TS := fun E σ H => ∃ (C : SC τ) (ρ : Rho) (t : τ), At K C ρ t σ H ∧ SPost K W C (Fo C.F ρ σ) H (m ρ t) E
variable {K : Fg} {W : WX} {C : SC τ} {F1 F2 : Fp} {H H1 : Hp}
theorem SPost.rebase {r : Fl τ} {E : Ends} (h : SPost K W C F1 H r E) (s : Stp F1 H F2 H1) : SPost K W C F2 H1 r E := by
  cases r with
  | nx ρ' t' => exact fun σ' H' s' a => h σ' H' (s.trans s') a
  | bk ρ' t' => exact fun σ' H' s' a => h σ' H' (s.trans s') a
  | ct ρ' t' => exact fun σ' H' s' a => h σ' H' (s.trans s') a
  | rt d t' => exact fun v H' s' i r => h v H' (fun b o n e => s' b o (fun z => by rcases s.new b z with q | q; exact n q; rw [q] at e; cases e) (s.keep b o n e)) i r
  | ex n fs ρ' t' => exact fun cls dd σ' H' s' a x => h cls dd σ' H' (s.trans s') a x
  | bad => exact h
end
end MM

namespace MM
open PySem PySem.Spec PyProof.Rows L2
section
variable {X : Cx} {W : WX} {τ : Type} [Sto τ] {K : Fg}
abbrev ME (τ α : Type) := Rho → τ → Res τ α

def eVar (i : Nat) : ME τ D := fun ρ t => match ρ[i]? with
  | some (.val d) => .ok d t
  | _ => .bad
theorem me_var {i : Nat} {e : Expr} (h : PE X e (tVar i)) : PE X e (tE X.K W (eVar (τ := τ) i)) := PE.imp h fun σ H Q ⟨C, ρ, t, A, p⟩ => by
  unfold eVar at p
  cases e : ρ[i]? with
  | none => rw [e] at p; exact p.elim
  | some s => cases s with
    | no => rw [e] at p; exact p.elim
    | own xs => rw [e] at p; exact p.elim
    | dct ks xs => rw [e] at p; exact p.elim
    | val d =>
      rw [e] at p
      obtain ⟨v, h1, h2⟩ := A.val i d e
      exact ⟨v, h1, p v H (Sm.refl _ _) A.st h2⟩
def eVarW (i : Nat) : ME τ D := fun ρ t => match ρ[i]? with
  | some (.val d) => .ok d t
  | some (.own xs) => .ok (.lst xs) t
  | some (.dct ks xs) => .ok (.dct ks xs) t
  | _ => .bad
theorem me_varW {i : Nat} {e : Expr} (h : PE X e (tVar i)) : PE X e (tW X.K W (eVarW (τ := τ) i)) := PE.imp h fun σ H Q ⟨C, ρ, t, A, p⟩ => by
  unfold eVarW at p
  cases e : ρ[i]? with
  | none => rw [e] at p; exact p.elim
  | some s => cases s with
    | no => rw [e] at p; exact p.elim
    | own xs =>
      rw [e] at p
      obtain ⟨a, vs, h1, h2, h3, h4⟩ := A.own i xs e
      exact ⟨.ref a, h1, p _ H (Sm.refl _ _) A.st (.lst ⟨h2, .inl h3⟩ h4)⟩
    | dct ks xs =>
      rw [e] at p
      obtain ⟨a, u, h1, h2, h3, h4⟩ := A.dct i ks xs e
      exact ⟨.ref a, h1, p _ H (Sm.refl _ _) A.st (.dct h2 h3 h4)⟩
    | val d =>
      rw [e] at p
      obtain ⟨v, h1, h2⟩ := A.val i d e
      exact ⟨v, h1, p v H (Sm.refl _ _) A.st (.of h2)⟩
theorem weak {e : Expr} {m : ME τ D} (h : PE X e (tE K W m)) : PE X e (tW K W m) := PE.imp h fun σ H Q ⟨C, ρ, t, A, p⟩ => by
  refine ⟨C, ρ, t, A, ?_⟩
  cases e : m ρ t with
  | ok d t' => rw [e] at p; exact fun v H' s i r => p v H' s i (.of r)
  | ex n fs t' => rw [e] at p; exact p
  | bad => rw [e] at p; exact p
def eC (d : D) : ME τ D := fun _ t => .ok d t
theorem me_c {e : Expr} {v : V} {d : D} (h : PE X e (tC v)) (r : ∀ F H, Rep X.K F H v d) : PE X e (tE X.K W (eC (τ := τ) d)) := PE.imp h fun σ H Q ⟨C, ρ, t, A, p⟩ => p v H (Sm.refl _ _) A.st (r _ _)
theorem me_int {i j pos} : PE X (.Constant (.int i) j pos) (tE X.K W (eC (τ := τ) (.int i))) := me_c pe_int fun _ _ => .int i
theorem me_bl {i j pos} : PE X (.Constant (.bool i) j pos) (tE X.K W (eC (τ := τ) (.bl i))) := me_c pe_bl fun _ _ => .bl i
theorem me_str {i j pos} : PE X (.Constant (.str i) j pos) (tE X.K W (eC (τ := τ) (.str i))) := me_c pe_str fun _ _ => .str i
theorem me_non {j pos} : PE X (.Constant .none j pos) (tE X.K W (eC (τ := τ) .non)) := me_c pe_non fun _ _ => .non

def e1 {α β : Type} (f : α → Option β) (a : ME τ α) : ME τ β := fun ρ t => (a ρ t).bind fun d t => opt (f d) t
def e2 {α β γ : Type} (f : α → β → Option γ) (a : ME τ α) (b : ME τ β) : ME τ γ := fun ρ t => (a ρ t).bind fun d t => (b ρ t).bind fun e t => opt (f d e) t
abbrev Dom (F : Fp) (H : Hp) : Prop := ∀ b, F b → H b ≠ none
def DOp2 (K : Fg) (r : R2) (f : D → D → Option D) : Prop := ∀ (F0 F : Fp) (H : Hp) (x y : V) (d e z : D) (Q : VK), Dom F H → RepW K F0 F H x d → RepW K F0 F H y e → f d e = some z →
  (∀ v H', Same H H' → Rep K F H' v z → Q v H') → r x y H Q
theorem run2 {a b : Expr} {r : R2} {f : D → D → Option D} {ma mb : ME τ D} {σ : L2.St} {H : Hp} {Q : VK} (hf : DOp2 K r f) (p : tE K W (e2 f ma mb) σ H Q) : tOp r (tW K W ma) (tW K W mb) σ H Q := by
  obtain ⟨C, ρ, t, A, p⟩ := p
  refine use okE A p fun d t1 v H1 e1 s1 A1 r1 p1 => ?_
  refine use okE A1 p1 fun d2 t2 v2 H2 e2 s2 A2 r2 p2 => ?_
  cases e : f d d2 with
  | none => rw [e] at p2; exact p2.elim
  | some z =>
    rw [e] at p2
    exact hf C.F _ H2 v v2 d d2 z Q A2.dom (r1.same s2 fun _ => Fo.base) r2 e fun v' H' sm rr => p2 v' H' (Sm.of_same sm) (C.stay A2.st sm) rr
theorem me_op2 {op : Operator} {a b : Expr} {r : R2} {f : D → D → Option D} {ma mb : ME τ D} {pos : Pos} (ho : OpR X (binaryOp op) r) (hf : DOp2 X.K r f) (ha : PE X a (tW X.K W ma)) (hb : PE X b (tW X.K W mb)) :
    PE X (.BinOp a op b pos) (tE X.K W (e2 f ma mb)) := PE.imp (pe_op ho ha hb) fun σ H Q p => run2 (a := a) (b := b) hf p
theorem me_cmp2 {op : CmpOp} {a b : Expr} {r : R2} {f : D → D → Option D} {ma mb : ME τ D} {pos : Pos} (ho : OpR X (compareOp op) r) (hf : DOp2 X.K r f) (ha : PE X a (tW X.K W ma)) (hb : PE X b (tW X.K W mb)) (hm : behindInMarks op b = false) :
    PE X (.Compare a [op] [b] pos) (tE X.K W (e2 f ma mb)) := PE.imp (pe_cmpR ho ha hb hm) fun σ H Q p => run2 (a := a) (b := b) hf p
theorem me_ix {a b : Expr} {r : R2} {f : D → D → Option D} {ma mb : ME τ D} {pos : Pos} (ho : IxR X r) (hf : DOp2 X.K r f) (ha : PE X a (tW X.K W ma)) (hb : PE X b (tW X.K W mb)) (hs : PlainIx b) :
    PE X (.Subscript a b pos) (tE X.K W (e2 f ma mb)) := PE.imp (pe_ix ho ha hb hs) fun σ H Q p => run2 (a := a) (b := b) hf p
def DOp1 (K : Fg) (r : V → Hp → VK → Prop) (f : D → Option D) : Prop := ∀ (F0 F : Fp) (H : Hp) (x : V) (d z : D) (Q : VK), Dom F H → RepW K F0 F H x d → f d = some z →
  (∀ v H', Same H H' → Rep K F H' v z → Q v H') → r x H Q
theorem me_un {op : UnaryOp} {a : Expr} {r : V → Hp → VK → Prop} {f : D → Option D} {ma : ME τ D} {pos : Pos} (ho : UnR X (unaryOp op) r) (hf : DOp1 X.K r f) (ha : PE X a (tW X.K W ma)) : PE X (.UnaryOp op a pos) (tE X.K W (e1 f ma)) :=
  PE.imp (pe_un ho ha) fun σ H Q ⟨C, ρ, t, A, p⟩ => by
    refine use okE A p fun d t1 v H1 e1 s1 A1 r1 p1 => ?_
    cases e : f d with
    | none => rw [e] at p1; exact p1.elim
    | some z =>
      rw [e] at p1
      exact hf C.F _ H1 v d z Q A1.dom r1 e fun v' H' sm rr => p1 v' H' (Sm.of_same sm) (C.stay A1.st sm) rr

def asB : D → Option Bool
  | .bl b => some b
  | _ => none
theorem mt_cmp2 {op : CmpOp} {a b : Expr} {r : R2} {f : D → D → Option D} {ma mb : ME τ D} {pos : Pos} (ho : OpR X (compareOp op) r) (hf : DOp2 X.K r f) (ha : PE X a (tW X.K W ma)) (hb : PE X b (tW X.K W mb)) (hm : behindInMarks op b = false) :
    PT X (.Compare a [op] [b] pos) (tT X.K W (e1 asB (e2 f ma mb))) := by
  refine PT.imp (pt_cmpR ho ha hb hm) fun σ H Q ⟨C, ρ, t, A, p⟩ => ?_
  refine run2 (a := a) (b := b) (K := X.K) (W := W) hf ?_
  refine use okB A p fun d t1 v H1 e1 s1 A1 r1 p1 => ?_
  cases d <;> first
    | exact p1.elim
    | (cases r1; exact ⟨_, rfl, p1 _ H1 (Sm.refl _ _) A1.st rfl⟩)
def tNot1 (a : ME τ Bool) : ME τ Bool := fun ρ t => (a ρ t).bind fun b t => .ok (!b) t
def tAnd2 (a b : ME τ Bool) : ME τ Bool := fun ρ t => (a ρ t).bind fun c t => if c = true then b ρ t else .ok false t
def tOr2 (a b : ME τ Bool) : ME τ Bool := fun ρ t => (a ρ t).bind fun c t => if c = true then .ok true t else b ρ t
theorem mt_not {a : Expr} {ma : ME τ Bool} {pos : Pos} (h : PT X a (tT X.K W ma)) : PT X (.UnaryOp .Not a pos) (tT X.K W (tNot1 ma)) := PT.imp (pt_not h) fun σ H Q ⟨C, ρ, t, A, p⟩ => by
  refine use okB A p fun d t1 v H1 e1 s1 A1 r1 p1 => ?_
  cases r1
  exact p1 _ H1 (Sm.refl _ _) A1.st rfl
theorem and_red {ta tb : ME τ Bool} {σ : L2.St} {H : Hp} {Q : Bool → Hp → Prop} (p : tT K W (tAnd2 ta tb) σ H Q) : tAnd (tT K W ta) (tT K W tb) σ H Q := by
  obtain ⟨C, ρ, t, A, p⟩ := p
  refine use okB A p fun d t1 v H1 e1 s1 A1 r1 p1 => ?_
  cases r1
  cases d with
  | true => exact ⟨C, ρ, t1, A1, p1⟩
  | false => exact p1 _ H1 (Sm.refl _ _) A1.st rfl
theorem or_red {ta tb : ME τ Bool} {σ : L2.St} {H : Hp} {Q : Bool → Hp → Prop} (p : tT K W (tOr2 ta tb) σ H Q) : tOr (tT K W ta) (tT K W tb) σ H Q := by
  obtain ⟨C, ρ, t, A, p⟩ := p
  refine use okB A p fun d t1 v H1 e1 s1 A1 r1 p1 => ?_
  cases r1
  cases d with
  | false => exact ⟨C, ρ, t1, A1, p1⟩
  | true => exact p1 _ H1 (Sm.refl _ _) A1.st rfl
theorem mw_and1 {a : Expr} {ma : ME τ Bool} {pos : Pos} (h : PT X a (tT X.K W ma)) : PW X (.BoolOp .And [a] pos) (tT X.K W ma) := pw_and1 h
theorem mw_or1 {a : Expr} {ma : ME τ Bool} {pos : Pos} (h : PT X a (tT X.K W ma)) : PW X (.BoolOp .Or [a] pos) (tT X.K W ma) := pw_or1 h
theorem mw_and {a b : Expr} {rest : List Expr} {ma mb : ME τ Bool} {pos : Pos} (h : PT X a (tT X.K W ma)) (h2 : PW X (.BoolOp .And (b :: rest) pos) (tT X.K W mb)) : PW X (.BoolOp .And (a :: b :: rest) pos) (tT X.K W (tAnd2 ma mb)) :=
  PW.imp (pw_and h h2) fun _ _ _ p => and_red p
theorem mw_or {a b : Expr} {rest : List Expr} {ma mb : ME τ Bool} {pos : Pos} (h : PT X a (tT X.K W ma)) (h2 : PW X (.BoolOp .Or (b :: rest) pos) (tT X.K W mb)) : PW X (.BoolOp .Or (a :: b :: rest) pos) (tT X.K W (tOr2 ma mb)) :=
  PW.imp (pw_or h h2) fun _ _ _ p => or_red p
def eAnd2 (a : ME τ D) (b : ME τ D) : ME τ D := fun ρ t => ((e1 asB a) ρ t).bind fun c t => if c = true then b ρ t else .ok (.bl false) t
def eNot1 (a : ME τ D) : ME τ D := fun ρ t => ((e1 asB a) ρ t).bind fun c t => .ok (.bl (!c)) t
theorem Res.bind_assoc {α β γ : Type} (r : Res τ α) (f : α → τ → Res τ β) (g : β → τ → Res τ γ) : (r.bind f).bind g = r.bind fun a t => (f a t).bind g := by cases r <;> rfl
theorem me_one {op : BoolOp} {a : Expr} {ma : ME τ D} {pos : Pos} (h : PE X a (tE X.K W ma)) : PE X (.BoolOp op [a] pos) (tE X.K W ma) := pe_one h
theorem me_and {a b : Expr} {rest : List Expr} {ma mb : ME τ D} {pos : Pos} (h : PE X a (tE X.K W ma)) (h2 : PE X (.BoolOp .And (b :: rest) pos) (tE X.K W mb)) : PE X (.BoolOp .And (a :: b :: rest) pos) (tE X.K W (eAnd2 ma mb)) :=
  PE.imp (pe_and h h2) fun σ H Q ⟨C, ρ, t, A, p⟩ => by
    unfold eAnd2 MM.e1 at p
    rw [Res.bind_assoc] at p
    refine use okE A p fun d t1 v H1 e1 s1 A1 r1 p1 => ?_
    cases d <;> first
      | exact p1.elim
      | skip
    rename_i c
    cases r1
    refine ⟨c, rfl, ?_⟩
    cases c with
    | true => exact ⟨C, ρ, t1, A1, p1⟩
    | false => exact p1 _ H1 (Sm.refl _ _) A1.st (.bl false)
theorem me_not {a : Expr} {ma : ME τ D} {pos : Pos} (h : PE X a (tE X.K W ma)) : PE X (.UnaryOp .Not a pos) (tE X.K W (eNot1 ma)) :=
  PE.imp (pe_not h) fun σ H Q ⟨C, ρ, t, A, p⟩ => by
    unfold eNot1 MM.e1 at p
    rw [Res.bind_assoc] at p
    refine use okE A p fun d t1 v H1 e1 s1 A1 r1 p1 => ?_
    cases d <;> first
      | exact p1.elim
      | skip
    rename_i c
    cases r1
    exact ⟨c, rfl, p1 _ H1 (Sm.refl _ _) A1.st (.bl _)⟩
def eIf {α : Type} (c : ME τ Bool) (a b : ME τ α) : ME τ α := fun ρ t => (c ρ t).bind fun k t => if k = true then a ρ t else b ρ t
theorem me_if {c a b : Expr} {mc : ME τ Bool} {ma mb : ME τ D} {pos : Pos} (hc : PT X c (tT X.K W mc)) (ha : PE X a (tE X.K W ma)) (hb : PE X b (tE X.K W mb)) : PE X (.IfExp c a b pos) (tE X.K W (eIf mc ma mb)) :=
  PE.imp (pe_ifExp hc ha hb) fun σ H Q ⟨C, ρ, t, A, p⟩ => by
    refine use okE A p fun d t1 v H1 e1 s1 A1 r1 p1 => ?_
    cases r1
    cases d with
    | true => exact ⟨C, ρ, t1, A1, p1⟩
    | false => exact ⟨C, ρ, t1, A1, p1⟩

def aNil {α : Type} : ME τ (List α) := fun _ t => .ok [] t
def aCons {α : Type} (a : ME τ α) (b : ME τ (List α)) : ME τ (List α) := fun ρ t => (a ρ t).bind fun d t => (b ρ t).bind fun ds t => .ok (d :: ds) t
theorem ma_nil : PA X [] (tA X.K W (aNil (τ := τ))) := PA.imp pa_nil fun σ H Q ⟨C, ρ, t, A, p⟩ => p [] H (Sm.refl _ _) A.st .nil
theorem ma_cons {e : Expr} {es : List Expr} {m : ME τ D} {ms : ME τ (List D)} (h : PE X e (tE X.K W m)) (hs : PA X es (tA X.K W ms)) (hst : starEach (e :: es) X.env = (false, eval e X.env) :: starEach es X.env := by rfl) : PA X (e :: es) (tA X.K W (aCons m ms)) :=
  PA.imp (pa_cons h hs hst) fun σ H Q ⟨C, ρ, t, A, p⟩ => by
    refine use okA A p fun d t1 v H1 e1 s1 A1 r1 p1 => ?_
    refine use okA A1 p1 fun d2 t2 v2 H2 e2 s2 A2 r2 p2 => ?_
    exact p2 _ H2 (Sm.refl _ _) A2.st (.cons (r1.same (s2.mono fun _ => Fo.base)) r2)
theorem maw_nil : PA X [] (tAW X.K W (aNil (τ := τ))) := PA.imp pa_nil fun σ H Q ⟨C, ρ, t, A, p⟩ => p [] H (Sm.refl _ _) A.st .nil
theorem maw_cons {e : Expr} {es : List Expr} {m : ME τ D} {ms : ME τ (List D)} (h : PE X e (tW X.K W m)) (hs : PA X es (tAW X.K W ms)) (hst : starEach (e :: es) X.env = (false, eval e X.env) :: starEach es X.env := by rfl) : PA X (e :: es) (tAW X.K W (aCons m ms)) :=
  PA.imp (pa_cons h hs hst) fun σ H Q ⟨C, ρ, t, A, p⟩ => by
    refine use okAW A p fun d t1 v H1 e1 s1 A1 r1 p1 => ?_
    refine use okAW A1 p1 fun d2 t2 v2 H2 e2 s2 A2 r2 p2 => ?_
    exact p2 _ H2 (Sm.refl _ _) A2.st (.cons (r1.same s2 fun _ => Fo.base) r2)
def lim {α : Type} (ds : List α) : Option (List α) := if ds.length ≤ 16777216 then some ds else none
theorem lim_le {α : Type} {ds es : List α} (h : lim ds = some es) : es = ds ∧ ds.length ≤ sizeLine := by
  unfold lim at h
  split at h
  · cases h; exact ⟨rfl, by assumption⟩
  · cases h
def eTup (a : ME τ (List D)) : ME τ D := e1 (fun ds => (lim ds).map D.tup) a
theorem Rep.newTup {F : Fp} {H : Hp} {vs : List V} {ds : List D} {p : Addr} (r : Reps K F H vs ds) (dm : Dom F H) (np : H p = none) : Rep K F (upd H p (.tup vs)) (.ref p) (.tup ds) :=
  .tup (.inl ⟨fun z => dm p z np, .inl upd_same⟩) (r.same fun b o _ e => by rw [upd_ne (ne_of_none e np)]; exact e)
theorem Rep.newLst {F : Fp} {H : Hp} {vs : List V} {ds : List D} {p : Addr} (r : Reps K F H vs ds) (dm : Dom F H) (np : H p = none) : Rep K F (upd H p (.lst vs)) (.ref p) (.lst ds) :=
    .lst ⟨fun z => dm p z np, .inl upd_same⟩ (r.same fun b o _ e => by rw [upd_ne (ne_of_none e np)]; exact e)
theorem same_upd {H : Hp} {p : Addr} {o : HO} (h : H p = none) : Same H (upd H p o) := fun b x e => by
  rw [upd_ne (ne_of_none e h)]
  exact e
theorem me_tup {es : List Expr} {x1} {pos : Pos} {ms : ME τ (List D)} (h : PA X es (tA X.K W ms)) : PE X (.Tuple es x1 pos) (tE X.K W (eTup ms)) := PE.imp (pe_tup h) fun σ H Q ⟨C, ρ, t, A, p⟩ => by
  refine use okE A p fun d t1 v H1 e1 s1 A1 r1 p1 => ?_
  dsimp only at p1
  cases e : lim d with
  | none => rw [e] at p1; exact p1.elim
  | some z =>
    rw [e] at p1
    obtain ⟨rfl, hz⟩ := lim_le e
    exact ⟨by rw [r1.length]; exact hz, fun a na => p1 _ _ (Sm.of_same (same_upd na)) (C.stay A1.st (same_upd na)) (Rep.newTup r1 A1.dom na)⟩
theorem mf_lst {es : List Expr} {pos : Pos} {ms : ME τ (List D)} (h : PA X es (tA X.K W ms)) : PE X (.List es pos) (tF X.K W (e1 lim ms)) := PE.imp (pe_lst h) fun σ H Q ⟨C, ρ, t, A, p⟩ => by
  refine use okF A p fun d t1 v H1 e1 s1 A1 r1 p1 => ?_
  cases e : lim d with
  | none => rw [e] at p1; exact p1.elim
  | some z =>
    rw [e] at p1
    obtain ⟨rfl, hz⟩ := lim_le e
    refine ⟨by rw [r1.length]; exact hz, fun a na => p1 _ _ (Sm.of_same (same_upd na)) (C.stay A1.st (same_upd na)) ⟨a, v, rfl, fun z => A1.dom a z na, na, upd_same, ?_⟩⟩
    have sp : Stp (Fo C.F ρ σ) H1 (fun b => Fo C.F ρ σ b ∨ b = a) (upd H1 a (.lst v)) := ⟨fun b o _ e => by rw [upd_ne (ne_of_none e na)]; exact e, fun b h => h.elim .inl fun e => .inr (by rw [e]; exact na)⟩
    exact ⟨Reps.step sp r1, C.step _ _ _ _ _ A1.st (fun b o _ e => by rw [upd_ne (ne_of_none e na)]; exact e) sp⟩
def eLst (a : ME τ (List D)) : ME τ D := fun ρ t => (a ρ t).bind fun ds t => .ok (.lst ds) t
theorem me_new {e : Expr} {m : ME τ (List D)} (h : PE X e (tF K W m)) : PE X e (tE K W (eLst m)) := PE.imp h fun σ H Q ⟨C, ρ, t, A, p⟩ => by
  refine ⟨C, ρ, t, A, ?_⟩
  unfold eLst at p
  cases e : m ρ t with
  | ok d t' =>
    rw [e] at p
    intro v H' s i r
    obtain ⟨a, vs, rfl, n, q, l, r, _⟩ := r
    exact p _ H' s i (.lst ⟨n, .inl l⟩ (r.anti fun _ => .inl))
  | ex n fs t' => rw [e] at p; exact p
  | bad => rw [e] at p; exact p

def DCall (K : Fg) (r : List V → Hp → VK → Prop) (f : List D → Option D) : Prop := ∀ (F0 F : Fp) (H : Hp) (xs : List V) (ds : List D) (z : D) (Q : VK), Dom F H → RepsW K F0 F H xs ds → f ds = some z →
  (∀ v H', Same H H' → Rep K F H' v z → Q v H') → r xs H Q
theorem runC {r : List V → Hp → VK → Prop} {f : List D → Option D} {ms : ME τ (List D)} {σ : L2.St} {H : Hp} {Q : VK} (hf : DCall K r f) (p : tE K W (MM.e1 f ms) σ H Q) : tCB r (tAW K W ms) σ H Q := by
  obtain ⟨C, ρ, t, A, p⟩ := p
  refine use okE A p fun d t1 v H1 e1 s1 A1 r1 p1 => ?_
  cases e : f d with
  | none => rw [e] at p1; exact p1.elim
  | some z =>
    rw [e] at p1
    exact hf C.F _ H1 v d z Q A1.dom r1 e fun v' H' sm rr => p1 v' H' (Sm.of_same sm) (C.stay A1.st sm) rr
theorem me_callB {id : String} {x : Str} {e : Expr} {es : List Expr} {p pos : Pos} {r : List V → Hp → VK → Prop} {f : List D → Option D} {ms : ME τ (List D)} (hc : CallR X (.builtin id) r) (hf : DCall X.K r f) (hg : Gl X x) (hm : X.mg x = none) (hv : bootBuiltins x = some (.builtin id))
    (ha : PA X (e :: es) (tAW X.K W ms)) (hn : x ≠ "__name__" := by decide) (hdb : (x == ("__debug__" : Str)) = false := by decide)
    (he : starEach (e :: es) X.env = (false, eval e X.env) :: starEach es X.env := by rfl) (hpl : (backTo pos (starEach es X.env)).any (·.1) = false := by rfl) :
    PE X (.Call (.Name x p) (e :: es) [] pos) (tE X.K W (MM.e1 f ms)) := PE.imp (pe_callB hc hg hm hv ha hn hdb he hpl) fun σ H Q p => runC hf p
theorem me_callTy {id : String} {x : Str} {e : Expr} {es : List Expr} {p pos : Pos} {r : List V → Hp → VK → Prop} {f : List D → Option D} {ms : ME τ (List D)} (hc : CallR X (.type id) r) (hf : DCall X.K r f) (hg : Gl X x) (hm : X.mg x = none) (hv : bootBuiltins x = some (.type id))
    (ha : PA X (e :: es) (tAW X.K W ms)) (hn : x ≠ "__name__" := by decide) (hdb : (x == ("__debug__" : Str)) = false := by decide)
    (he : starEach (e :: es) X.env = (false, eval e X.env) :: starEach es X.env := by rfl) (hpl : (backTo pos (starEach es X.env)).any (·.1) = false := by rfl) :
    PE X (.Call (.Name x p) (e :: es) [] pos) (tE X.K W (MM.e1 f ms)) := PE.imp (pe_callTy hc hg hm hv ha hn hdb he hpl) fun σ H Q p => runC hf p
end
end MM

namespace MM
open PySem PySem.Spec PyProof.Rows L2
abbrev MS (τ : Type) := Rho → τ → Fl τ
abbrev Tgt := Rho → D → Option Rho
abbrev Tgts := Rho → List D → Option Rho

section
variable {τ : Type} [Sto τ] {K : Fg} {C : SC τ} {ρ : Rho} {t t' : τ} {σ : St} {H H' H1 : Hp}
theorem set_at {α : Type} {l : List α} {i j : Nat} {x y : α} (h : (l.set i x)[j]? = some y) : (i = j ∧ y = x ∧ i < l.length) ∨ (i ≠ j ∧ l[j]? = some y) := by
  by_cases e : i = j
  · subst e
    by_cases q : i < l.length
    · rw [List.getElem?_set_self q] at h
      exact .inl ⟨rfl, (Option.some.inj h).symm, q⟩
    · rw [List.getElem?_eq_none (by simpa using q)] at h
      cases h
  · rw [List.getElem?_set_ne e] at h
    exact .inr ⟨e, h⟩
theorem Fo.setVal {F : Fp} {i : Nat} {d : D} {v : Option V} {b : Addr} (h : Fo F (ρ.set i (.val d)) (σ.set i v) b) : Fo F ρ σ b := by
  rcases h with h | ⟨j, xs, ⟨h1, hm⟩, h2⟩
  · exact .inl h
  · rcases set_at h1 with ⟨_, e, _⟩ | ⟨ne, h1⟩
    · cases e; cases hm
    · rw [List.getElem?_set_ne ne] at h2
      exact .inr ⟨j, xs, ⟨h1, hm⟩, h2⟩
theorem At.setVal {i : Nat} {v : V} {d : D} (A : At K C ρ t σ H) (r : Rep K (Fo C.F ρ σ) H v d) : At K C (ρ.set i (.val d)) t (σ.set i (some v)) H where
  okC := A.okC
  st := C.less A.st fun _ => Fo.setVal
  len := by simp [A.len]
  val := fun j e h => by
    rcases set_at h with ⟨rfl, e1, hl⟩ | ⟨ne, h⟩
    · cases e1
      refine ⟨v, ?_, r.anti fun _ => Fo.setVal⟩
      rw [List.getElem?_set_self (by rw [A.len]; exact hl)]
    · obtain ⟨w, h1, h2⟩ := A.val j e h
      exact ⟨w, by rw [List.getElem?_set_ne ne]; exact h1, h2.anti fun _ => Fo.setVal⟩
  mine := fun j xs hh => by
    obtain ⟨h, hm⟩ := hh
    rcases set_at h with ⟨rfl, e1, hl⟩ | ⟨ne, h⟩
    · cases e1; cases hm
    · obtain ⟨a, vs, h1, h2, h3, h4⟩ := A.mine j xs ⟨h, hm⟩
      exact ⟨a, vs, by rw [List.getElem?_set_ne ne]; exact h1, h2, h3, h4.anti fun _ => Fo.setVal⟩
  dis := fun j k xs ys hh1 hh2 e => by
    obtain ⟨h1, m1⟩ := hh1
    obtain ⟨h2, m2⟩ := hh2
    rcases set_at h1 with ⟨_, e1, _⟩ | ⟨n1, h1⟩
    · cases e1; cases m1
    · rcases set_at h2 with ⟨_, e2, _⟩ | ⟨n2, h2⟩
      · cases e2; cases m2
      · rw [List.getElem?_set_ne n1, List.getElem?_set_ne n2] at e
        exact A.dis j k xs ys ⟨h1, m1⟩ ⟨h2, m2⟩ e
theorem Stp.setVal {i : Nat} {v : Option V} {d : D} {F : Fp} : Stp (Fo F ρ σ) H (Fo F (ρ.set i (.val d)) (σ.set i v)) H := Stp.less fun _ => Fo.setVal
theorem Fo.setMine {F : Fp} {i : Nat} {x : Slot} {a b : Addr} (h : Fo F (ρ.set i x) (σ.set i (some (.ref a))) b) : Fo F ρ σ b ∨ b = a := by
  rcases h with h | ⟨j, ys, ⟨h1, hm⟩, h2⟩
  · exact .inl (.inl h)
  · rcases set_at h1 with ⟨rfl, e, _⟩ | ⟨ne, h1⟩
    · rcases set_at h2 with ⟨_, e2, _⟩ | ⟨ne, _⟩
      · cases e2; exact .inr rfl
      · exact absurd rfl ne
    · rw [List.getElem?_set_ne ne] at h2
      exact .inl (.inr ⟨j, ys, ⟨h1, hm⟩, h2⟩)
theorem Fo.setOwn {F : Fp} {i : Nat} {xs : List D} {a b : Addr} (h : Fo F (ρ.set i (.own xs)) (σ.set i (some (.ref a))) b) : Fo F ρ σ b ∨ b = a := Fo.setMine h
theorem At.setMine {i : Nat} {a : Addr} {u : HO} {x : Slot} (hx : x.mine = true) (A0 : At K C ρ t σ H) (s : Sm C.F H H') (iv : C.Iv t' (fun b => Fo C.F ρ σ b ∨ b = a) H') (nF : ¬ Fo C.F ρ σ a) (na : H a = none) (l : H' a = some u) (r : OwnR K (fun b => Fo C.F ρ σ b ∨ b = a) H' a u x) :
    At K C (ρ.set i x) t' (σ.set i (some (.ref a))) H' ∧ Stp (Fo C.F ρ σ) H (Fo C.F (ρ.set i x) (σ.set i (some (.ref a)))) H' := by
  have A := A0.next s (C.less iv fun _ => .inl)
  have sp : Stp (Fo C.F ρ σ) H (Fo C.F (ρ.set i x) (σ.set i (some (.ref a)))) H' := ⟨fun b o n e => s b o (fun z => n (.inl z)) e, fun b h => (Fo.setMine h).elim .inl fun e => .inr (by rw [e]; exact na)⟩
  have iv' : C.Iv t' (Fo C.F (ρ.set i x) (σ.set i (some (.ref a)))) H' := C.less iv fun _ => Fo.setMine
  refine ⟨⟨A.okC, iv', by simp [A.len], fun j e h => ?_, fun j xs hh => ?_, fun j k xs ys hh1 hh2 e => ?_⟩, sp⟩
  · rcases set_at h with ⟨_, e1, _⟩ | ⟨ne, h⟩
    · rw [← e1] at hx; cases hx
    · obtain ⟨w, h1, h2⟩ := A0.val j e h
      exact ⟨w, by rw [List.getElem?_set_ne ne]; exact h1, h2.step sp⟩
  · obtain ⟨h, hm⟩ := hh
    rcases set_at h with ⟨rfl, e1, hl⟩ | ⟨ne, h⟩
    · subst e1
      exact ⟨a, u, by rw [List.getElem?_set_self (by rw [A.len]; exact hl)], fun z => nF (.inl z), l, r.anti fun _ => Fo.setMine⟩
    · obtain ⟨b, ws, h1, h2, h3, h4⟩ := A0.mine j xs ⟨h, hm⟩
      exact ⟨b, ws, by rw [List.getElem?_set_ne ne]; exact h1, h2, s b _ h2 h3, h4.step sp⟩
  · obtain ⟨h1, m1⟩ := hh1
    obtain ⟨h2, m2⟩ := hh2
    have other : ∀ {m : Nat} {z : Slot}, ρ[m]? = some z → z.mine = true → σ[m]? ≠ some (some (.ref a)) := fun {m zs} h hm z => nF (.inr ⟨m, zs, ⟨h, hm⟩, z⟩)
    rcases set_at h1 with ⟨rfl, e1, l1⟩ | ⟨n1, h1⟩
    · rcases set_at h2 with ⟨rfl, e2, _⟩ | ⟨n2, h2⟩
      · rfl
      · rw [List.getElem?_set_self (by rw [A.len]; exact l1), List.getElem?_set_ne n2] at e
        exact absurd e.symm (other h2 m2)
    · rcases set_at h2 with ⟨rfl, e2, l2⟩ | ⟨n2, h2⟩
      · rw [List.getElem?_set_self (by rw [A.len]; exact l2), List.getElem?_set_ne n1] at e
        exact absurd e (other h1 m1)
      · rw [List.getElem?_set_ne n1, List.getElem?_set_ne n2] at e
        exact A.dis j k xs ys ⟨h1, m1⟩ ⟨h2, m2⟩ e
theorem At.setOwn {i : Nat} {a : Addr} {vs : List V} {ds : List D} (A0 : At K C ρ t σ H) (s : Sm C.F H H') (iv : C.Iv t' (fun b => Fo C.F ρ σ b ∨ b = a) H') (nF : ¬ Fo C.F ρ σ a) (na : H a = none) (l : H' a = some (.lst vs)) (r : Reps K (fun b => Fo C.F ρ σ b ∨ b = a) H' vs ds) :
    At K C (ρ.set i (.own ds)) t' (σ.set i (some (.ref a))) H' ∧ Stp (Fo C.F ρ σ) H (Fo C.F (ρ.set i (.own ds)) (σ.set i (some (.ref a)))) H' := At.setMine rfl A0 s iv nF na l (.lst r)
theorem Fo.reMine {F : Fp} {i : Nat} {x y : Slot} (h0 : ρ[i]? = some x ∧ x.mine = true) (hy : y.mine = true) {b : Addr} : Fo F (ρ.set i y) σ b ↔ Fo F ρ σ b := by
  constructor
  · rintro (h | ⟨j, zs, ⟨h1, hm⟩, h2⟩)
    · exact .inl h
    · rcases set_at h1 with ⟨rfl, _, _⟩ | ⟨_, h1⟩
      · exact .inr ⟨_, x, h0, h2⟩
      · exact .inr ⟨j, zs, ⟨h1, hm⟩, h2⟩
  · rintro (h | ⟨j, zs, ⟨h1, hm⟩, h2⟩)
    · exact .inl h
    · by_cases e : i = j
      · subst e
        exact .inr ⟨i, y, ⟨by rw [List.getElem?_set_self (List.getElem?_eq_some_iff.mp h0.1).1], hy⟩, h2⟩
      · exact .inr ⟨j, zs, ⟨by rw [List.getElem?_set_ne e]; exact h1, hm⟩, h2⟩
theorem Fo.reOwn {F : Fp} {i : Nat} {xs ys : List D} (h0 : ρ[i]? = some (.own xs)) {b : Addr} : Fo F (ρ.set i (.own ys)) σ b ↔ Fo F ρ σ b := Fo.reMine ⟨h0, rfl⟩ rfl
theorem At.reMine {i : Nat} {a : Addr} {u : HO} {x y : Slot} (A : At K C ρ t σ H) (h0 : ρ[i]? = some x ∧ x.mine = true) (hy : y.mine = true) (hs : σ[i]? = some (some (.ref a))) (r : OwnR K (Fo C.F ρ σ) H a u y) :
    At K C (ρ.set i y) t σ (upd H a u) ∧ Stp (Fo C.F ρ σ) H (Fo C.F (ρ.set i y) σ) (upd H a u) := by
  obtain ⟨a', vs', hs', nF, ha, _⟩ := A.mine i x h0
  rw [hs] at hs'; cases hs'
  have fa : Fo C.F ρ σ a := .inr ⟨i, x, h0, hs⟩
  have sp : Stp (Fo C.F ρ σ) H (Fo C.F (ρ.set i y) σ) (upd H a u) := ⟨fun b o n e => by rw [upd_ne (fun z => n (by rw [z]; exact fa))]; exact e, fun b h => .inl ((Fo.reMine h0 hy).mp h)⟩
  have iv : C.Iv t (Fo C.F (ρ.set i y) σ) (upd H a u) := C.step _ _ _ _ _ A.st (fun b o h e => by rw [upd_ne (fun z => nF (by rw [← z]; exact h))]; exact e) sp
  refine ⟨⟨A.okC, iv, by simp [A.len], fun j e h => ?_, fun j zs hh => ?_, fun j k zs us hh1 hh2 e => ?_⟩, sp⟩
  · rcases set_at h with ⟨_, e1, _⟩ | ⟨ne, h⟩
    · rw [← e1] at hy; cases hy
    · obtain ⟨w, h1, h2⟩ := A.val j e h
      exact ⟨w, h1, h2.step sp⟩
  · obtain ⟨h, hm⟩ := hh
    rcases set_at h with ⟨rfl, e1, hl⟩ | ⟨ne, h⟩
    · subst e1
      exact ⟨a, u, hs, nF, upd_same, r.step sp⟩
    · obtain ⟨b, us, h1, h2, h3, h4⟩ := A.mine j zs ⟨h, hm⟩
      have nb : b ≠ a := fun z => ne (A.dis i j x zs h0 ⟨h, hm⟩ (by rw [hs, h1, z]))
      exact ⟨b, us, h1, h2, by rw [upd_ne nb]; exact h3, h4.step sp⟩
  · have tr : ∀ {m : Nat} {z : Slot}, ((ρ.set i y)[m]? = some z ∧ z.mine = true) → ∃ us, (ρ[m]? = some us ∧ us.mine = true) := fun {m zs} hh => by
      obtain ⟨h, hm⟩ := hh
      rcases set_at h with ⟨rfl, _, _⟩ | ⟨_, h⟩
      · exact ⟨_, h0⟩
      · exact ⟨_, h, hm⟩
    obtain ⟨u1, g1⟩ := tr hh1
    obtain ⟨u2, g2⟩ := tr hh2
    exact A.dis j k u1 u2 g1 g2 e
theorem At.reOwn {i : Nat} {a : Addr} {ws : List V} {xs ys : List D} (A : At K C ρ t σ H) (h0 : ρ[i]? = some (.own xs)) (hs : σ[i]? = some (some (.ref a))) (r : Reps K (Fo C.F ρ σ) H ws ys) :
    At K C (ρ.set i (.own ys)) t σ (upd H a (.lst ws)) ∧ Stp (Fo C.F ρ σ) H (Fo C.F (ρ.set i (.own ys)) σ) (upd H a (.lst ws)) := A.reMine ⟨h0, rfl⟩ rfl hs (.lst r)
end
end MM

namespace MM
open PySem PySem.Spec PyProof.Rows L2
section
variable {X : Cx} {W : WX} {τ : Type} [Sto τ] {K : Fg}
def sDo {α : Type} (m : ME τ α) (k : α → Rho → τ → Fl τ) : MS τ := fun ρ t => match m ρ t with
  | .ok d t' => k d ρ t'
  | .ex n fs t' => .ex n fs ρ t'
  | .bad => .bad
theorem useS {α β : Type} {R : Rel β α} {C : SC τ} {ρ : Rho} {t : τ} {σ : St} {H : Hp} {ma : ME τ α} {k : α → Rho → τ → Fl τ} {E : Ends} {Q : β → Hp → Prop} (A : At K C ρ t σ H) (h : SPost K W C (Fo C.F ρ σ) H (sDo ma k ρ t) E)
    (hk : ∀ d t1 v H1, ma ρ t = .ok d t1 → Sm C.F H H1 → At K C ρ t1 σ H1 → R K (C.Iv t1) C.F (Fo C.F ρ σ) H H1 v d → SPost K W C (Fo C.F ρ σ) H1 (k d ρ t1) E → Q v H1) : tG R K W ma σ H Q := by
  refine ⟨C, ρ, t, A, ?_⟩
  unfold sDo at h
  cases e : ma ρ t with
  | ok d t1 =>
    rw [e] at h
    exact fun v H1 s i r => hk d t1 v H1 e s (A.next s i) r (SPost.rebase h (Stp.of_sm s fun _ => .inl))
  | ex n fs t1 =>
    rw [e] at h
    exact fun cls dd H' s i x => h cls dd σ H' (Stp.of_sm s fun _ => .inl) (A.next s i) x
  | bad =>
    rw [e] at h
    exact h

def tTg (τ : Type) [Sto τ] (K : Fg) (g : Tgt) (vs : List Nat) : TG := fun v σ H Q => ∃ (C : SC τ) (ρ : Rho) (t : τ) (d : D), At K C ρ t σ H ∧ Rep K (Fo C.F ρ σ) H v d ∧ ∃ ρ', g ρ d = some ρ' ∧
  ∀ σ' H', (σ'.length = σ.length ∧ ∀ (j : Nat), j ∉ vs → σ'[j]? = σ[j]? ∧ ρ'[j]? = ρ[j]?) → Same H H' → Stp (Fo C.F ρ σ) H (Fo C.F ρ' σ') H' → At K C ρ' t σ' H' → Q σ' H'
def tTgs (τ : Type) [Sto τ] (K : Fg) (g : Tgts) (vs : List Nat) : TGs := fun v σ H Q => ∃ (C : SC τ) (ρ : Rho) (t : τ) (d : List D), At K C ρ t σ H ∧ Reps K (Fo C.F ρ σ) H v d ∧ ∃ ρ', g ρ d = some ρ' ∧
  ∀ σ' H', (σ'.length = σ.length ∧ ∀ (j : Nat), j ∉ vs → σ'[j]? = σ[j]? ∧ ρ'[j]? = ρ[j]?) → Same H H' → Stp (Fo C.F ρ σ) H (Fo C.F ρ' σ') H' → At K C ρ' t σ' H' → Q σ' H'
theorem PG.imp {e : Expr} {t t' : TG} (h : PG X e t) (i : ∀ v σ H Q, t' v σ H Q → t v σ H Q) : PG X e t' := ⟨fun pins s σ H v u Q I r q => h.run pins s σ H v u Q I r (i v σ H Q q)⟩
theorem PGs.imp {e : List Expr} {t t' : TGs} (h : PGs X e t) (i : ∀ v σ H Q, t' v σ H Q → t v σ H Q) : PGs X e t' := ⟨fun pins s σ H v u Q I r q => h.run pins s σ H v u Q I r (i v σ H Q q)⟩
def gN (i : Nat) : Tgt := fun ρ d => some (ρ.set i (.val d))
def gNil : Tgts := fun ρ ds => match ds with
  | [] => some ρ
  | _ => none
def gCons (g : Tgt) (gs : Tgts) : Tgts := fun ρ ds => match ds with
  | d :: ds => (g ρ d).bind fun ρ' => gs ρ' ds
  | [] => none
def gT (gs : Tgts) : Tgt := fun ρ d => match d with
  | .tup ds => gs ρ ds
  | _ => none
theorem mg_name {i : Nat} {e : Expr} (h : PG X e (L2.gName i)) : PG X e (tTg τ X.K (gN i) [i]) := PG.imp h fun v σ H Q ⟨C, ρ, t, d, A, r, ρ', e, k⟩ => by
  cases e
  exact k _ H ⟨by simp, fun j hj => ⟨by rw [List.getElem?_set_ne (fun e => hj (by simp [e]))], by rw [List.getElem?_set_ne (fun e => hj (by simp [e]))]⟩⟩ (Same.refl H) Stp.setVal (A.setVal r)
theorem mgs_nil : PGs X [] (tTgs τ X.K gNil []) := PGs.imp pgs_nil fun v σ H Q ⟨C, ρ, t, d, A, r, ρ', e, k⟩ => by
  cases r with
  | nil => cases e; exact ⟨rfl, k σ H ⟨rfl, fun _ _ => ⟨rfl, rfl⟩⟩ (Same.refl H) (Stp.refl _ _) A⟩
  | cons r t => cases e
theorem mgs_cons {e : Expr} {es : List Expr} {g : Tgt} {gs : Tgts} {v1 v2 : List Nat} (h1 : PG X e (tTg τ X.K g v1)) (h2 : PGs X es (tTgs τ X.K gs v2)) (hs : (assignEach (e :: es) X.env).map (·.2) = assign e X.env :: (assignEach es X.env).map (·.2) := by rfl) :
    PGs X (e :: es) (tTgs τ X.K (gCons g gs) (v1 ++ v2)) := PGs.imp (pgs_cons h1 h2 hs) fun v σ H Q ⟨C, ρ, t, d, A, r, ρ', e, k⟩ => by
  cases r with
  | nil => cases e
  | cons r1 r2 =>
    rename_i x xs dd ds _
    have e' : (g ρ dd).bind (fun ρ' => gs ρ' ds) = some ρ' := e
    cases q : g ρ dd with
    | none => rw [q] at e'; cases e'
    | some ρ1 =>
      rw [q] at e'
      exact ⟨x, xs, rfl, C, ρ, t, dd, A, r1, ρ1, q, fun σ1 H1 f1 m1 s1 A1 => ⟨C, ρ1, t, ds, A1, r2.step s1, ρ', e', fun σ2 H2 f2 m2 s2 A2 => k σ2 H2 ⟨f2.1.trans f1.1, fun j hj => ⟨(f2.2 j fun z => hj (List.mem_append_right _ z)).1.trans (f1.2 j fun z => hj (List.mem_append_left _ z)).1, (f2.2 j fun z => hj (List.mem_append_right _ z)).2.trans (f1.2 j fun z => hj (List.mem_append_left _ z)).2⟩⟩ (fun b o e => m2 b o (m1 b o e)) (s1.trans s2) A2⟩⟩
def glen (gs : Tgts) (n : Nat) : Prop := ∀ ρ ds ρ', gs ρ ds = some ρ' → ds.length = n
theorem glen_nil : glen gNil 0 := fun ρ ds ρ' e => by
  cases ds with
  | nil => rfl
  | cons => cases e
theorem glen_cons {g : Tgt} {gs : Tgts} {n : Nat} (h : glen gs n) : glen (gCons g gs) (n + 1) := fun ρ ds ρ' e => by
  cases ds with
  | nil => cases e
  | cons d ds =>
    have e' : (g ρ d).bind (fun ρ' => gs ρ' ds) = some ρ' := e
    cases q : g ρ d with
    | none => rw [q] at e'; cases e'
    | some ρ1 =>
      rw [q] at e'
      show ds.length + 1 = n + 1
      rw [h ρ1 ds ρ' e']
theorem mg_tup {es : List Expr} {k n : Nat} {pos : Pos} {gs : Tgts} (hc : X.calm = true) (hg : glen gs n) {vs : List Nat} (h : PGs X es (tTgs τ X.K gs vs)) (hn : (assignEach es X.env).length = n := by rfl) (hst : (assignEach es X.env).findIdx? (·.1) = none := by rfl) :
    PG X (.Tuple es k pos) (tTg τ X.K (gT gs) vs) := PG.imp (pg_tup hc h hn hst) fun v σ H Q ⟨C, ρ, t, d, A, r, ρ', e, k⟩ => by
  cases r with
  | tup tf rs =>
    have e' : gs ρ _ = some ρ' := e
    exact ⟨_, _, rfl, tf.sq, by rw [rs.length]; exact hg _ _ _ e', C, ρ, t, _, A, rs, ρ', e', k⟩
  | _ => cases e

def sSeq (a b : MS τ) : MS τ := fun ρ t => match a ρ t with
  | .nx ρ' t' => b ρ' t'
  | r => r
theorem mss_cons {s : Stmt} {rest : List Stmt} {a b : MS τ} (h1 : PS X s (tS X.K W a)) (h2 : PSs X rest (tS X.K W b)) : PSs X (s :: rest) (tS X.K W (sSeq a b)) := PSs.imp (pss_cons h1 h2) fun E σ H ⟨C, ρ, t, A, p⟩ => by
  refine ⟨C, ρ, t, A, ?_⟩
  unfold sSeq at p
  cases e : a ρ t with
  | nx ρ' t' => rw [e] at p; exact fun σ' H' s' A' => ⟨C, ρ', t', A', SPost.rebase p s'⟩
  | rt d t' => rw [e] at p; exact p
  | bk ρ' t' => rw [e] at p; exact p
  | ct ρ' t' => rw [e] at p; exact p
  | ex n fs ρ' t' => rw [e] at p; exact p
  | bad => rw [e] at p; exact p
theorem mss_one {s : Stmt} {a : MS τ} (h1 : PS X s (tS X.K W a)) : PSs X [s] (tS X.K W a) := pss_one h1
def sSkip : MS τ := fun ρ t => .nx ρ t
theorem mss_nil : PSs X [] (tS X.K W (sSkip (τ := τ))) := PSs.imp pss_nil fun E σ H ⟨C, ρ, t, A, p⟩ => p σ H (Stp.refl _ _) A
def sAsg (g : Tgt) (m : ME τ D) : MS τ := sDo m fun d ρ t => match g ρ d with
  | some ρ' => .nx ρ' t
  | none => .bad
theorem asg_red {g : Tgt} {vs : List Nat} {m : ME τ D} {E : Ends} {σ : St} {H : Hp} (p : tS K W (sAsg g m) E σ H) : tAsg (tE K W m) (tTg τ K g vs) E σ H := by
  obtain ⟨C, ρ, t, A, p⟩ := p
  refine useS A p fun d t1 v H1 e1 s1 A1 r1 p1 => ?_
  refine ⟨C, ρ, t1, d, A1, r1, ?_⟩
  cases e : g ρ d with
  | none => rw [e] at p1; exact p1.elim
  | some ρ' => rw [e] at p1; exact ⟨ρ', rfl, fun σ' H' _ _ s' A' => p1 σ' H' s' A'⟩
theorem ms_asg {tg e : Expr} {pos : Pos} {g : Tgt} {vs : List Nat} {m : ME τ D} (he : PE X e (tE X.K W m)) (hg : PG X tg (tTg τ X.K g vs)) (hs : swapsWithSole [tg] e pos.line X.env = pure false := by rfl) (hw : swappedStores [tg] e X.env = pure none := by rfl)
    (h1 : (assignEach [tg] X.env).map (·.2) = [assign tg X.env] := by rfl) : PS X (.Assign [tg] e pos) (tS X.K W (sAsg g m)) := PS.imp (ps_asg he hg hs hw h1) fun _ _ _ p => asg_red p
theorem ms_set {s : Stmt} {i : Nat} {m : ME τ D} (h : PS X s (tAsg (tE X.K W m) (gName i))) : PS X s (tS X.K W (sAsg (gN i) m)) := PS.imp h fun E σ H ⟨C, ρ, t, A, p⟩ => by
  refine useS A p fun d t1 v H1 e1 s1 A1 r1 p1 => ?_
  exact p1 _ H1 Stp.setVal (A1.setVal r1)
def sOwn (i : Nat) (m : ME τ (List D)) : MS τ := sDo m fun ds ρ t => .nx (ρ.set i (.own ds)) t
theorem ms_setOwn {s : Stmt} {i : Nat} {m : ME τ (List D)} (h : PS X s (tAsg (tF X.K W m) (gName i))) : PS X s (tS X.K W (sOwn i m)) := PS.imp h fun E σ H ⟨C, ρ, t, A, p⟩ => by
  refine ⟨C, ρ, t, A, ?_⟩
  unfold sOwn sDo at p
  cases e : m ρ t with
  | ok d t1 =>
    rw [e] at p
    intro v H1 s1 i1 r1
    obtain ⟨a, vs, rfl, n, q, l, r, iv⟩ := r1
    obtain ⟨A', sp⟩ := At.setOwn (i := i) A s1 iv n q l r
    exact p _ H1 sp A'
  | ex n fs t1 =>
    rw [e] at p
    exact fun cls dd H' s i x => p cls dd σ H' (Stp.of_sm s fun _ => .inl) (A.next s i) x
  | bad => rw [e] at p; exact p
def sFrz (i : Nat) (m : MS τ) : MS τ := fun ρ t => match ρ[i]? with
  | some (.own xs) => m (ρ.set i (.val (.lst xs))) t
  | some (.dct ks xs) => m (ρ.set i (.val (.dct ks xs))) t
  | _ => m ρ t
theorem frz_one {i : Nat} {x : Slot} {d : D} {C : SC τ} {ρ : Rho} {t : τ} {σ : St} {H : Hp} {r : Fl τ} {E : Ends} (A : At K C ρ t σ H) (e : ρ[i]? = some x ∧ x.mine = true) (hd : ∀ (F' : Fp) (a : Addr) (u : HO), (∀ b, F' b → Fo C.F ρ σ b) → ¬ F' a → H a = some u → OwnR K (Fo C.F ρ σ) H a u x → Rep K F' H (.ref a) d)
    (p : SPost K W C (Fo C.F ρ σ) H r E) : At K C (ρ.set i (.val d)) t σ H ∧ SPost K W C (Fo C.F (ρ.set i (.val d)) σ) H r E := by
  obtain ⟨a, u, hs, nF, ha, hr⟩ := A.mine i x e
  have il : i < ρ.length := (List.getElem?_eq_some_iff.mp e.1).1
  have sub : ∀ b, Fo C.F (ρ.set i (.val d)) σ b → Fo C.F ρ σ b := fun b h => by
    rcases h with h | ⟨j, zs, ⟨h1, hm⟩, h2⟩
    · exact .inl h
    · rcases set_at h1 with ⟨_, e1, _⟩ | ⟨ne, h1⟩
      · cases e1; cases hm
      · exact .inr ⟨j, zs, ⟨h1, hm⟩, h2⟩
  have na : ¬ Fo C.F (ρ.set i (.val d)) σ a := fun h => by
    rcases h with h | ⟨j, zs, ⟨h1, hm⟩, h2⟩
    · exact nF h
    · rcases set_at h1 with ⟨_, e1, _⟩ | ⟨ne, h1⟩
      · cases e1; cases hm
      · exact ne (A.dis i j x zs e ⟨h1, hm⟩ (by rw [hs, h2]))
  refine ⟨⟨A.okC, C.less A.st sub, by simp [A.len], fun j d h => ?_, fun j zs hh => ?_, fun j k zs us hh1 hh2 e2 => ?_⟩, SPost.rebase p (Stp.less sub)⟩
  · rcases set_at h with ⟨rfl, e1, _⟩ | ⟨ne, h⟩
    · cases e1
      exact ⟨.ref a, hs, hd _ a u sub na ha hr⟩
    · obtain ⟨w, h1, h2⟩ := A.val j d h
      exact ⟨w, h1, h2.anti sub⟩
  · obtain ⟨h, hm⟩ := hh
    rcases set_at h with ⟨rfl, e1, _⟩ | ⟨ne, h⟩
    · cases e1; cases hm
    · obtain ⟨b, us, h1, h2, h3, h4⟩ := A.mine j zs ⟨h, hm⟩
      exact ⟨b, us, h1, h2, h3, h4.anti sub⟩
  · obtain ⟨h1, m1⟩ := hh1
    obtain ⟨h2, m2⟩ := hh2
    rcases set_at h1 with ⟨_, e1, _⟩ | ⟨_, h1⟩
    · cases e1; cases m1
    · rcases set_at h2 with ⟨_, e2, _⟩ | ⟨_, h2⟩
      · cases e2; cases m2
      · exact A.dis j k zs us ⟨h1, m1⟩ ⟨h2, m2⟩ e2
theorem frz_red {i : Nat} {m : MS τ} {E : Ends} {σ : St} {H : Hp} (p : tS K W (sFrz i m) E σ H) : tS K W m E σ H := by
  obtain ⟨C, ρ, t, A, p⟩ := p
  unfold sFrz at p
  split at p
  · rename_i xs e
    obtain ⟨A', p'⟩ := frz_one (d := .lst xs) A ⟨e, rfl⟩ (fun F' a u sub na ha hr => by
      cases hr with
      | lst hr => exact .lst ⟨na, .inl ha⟩ (hr.anti sub)) p
    exact ⟨C, _, t, A', p'⟩
  · rename_i ks xs e
    obtain ⟨A', p'⟩ := frz_one (d := .dct ks xs) A ⟨e, rfl⟩ (fun F' a u sub na ha hr => by
      cases hr with
      | dct hr => exact (hr.anti sub).rep na ha) p
    exact ⟨C, _, t, A', p'⟩
  · exact ⟨C, ρ, t, A, p⟩
theorem mss_frz {i : Nat} {sts : List Stmt} {m : MS τ} (h : PSs X sts (tS X.K W m)) : PSs X sts (tS X.K W (sFrz i m)) := PSs.imp h fun _ _ _ p => frz_red p
def sRet (m : ME τ D) : MS τ := sDo m fun d _ t => .rt d t
theorem ms_ret {e : Expr} {pos : Pos} {m : ME τ D} (h : PE X e (tE X.K W m)) : PS X (.Return (some e) pos) (tS X.K W (sRet m)) := PS.imp (ps_ret h) fun E σ H ⟨C, ρ, t, A, p⟩ => by
  refine useS A p fun d t1 v H1 e1 s1 A1 r1 p1 => ?_
  exact p1 v H1 (Sm.refl _ _) (C.less A1.st fun _ => .inl) (r1.anti fun _ => .inl)
def sIf (c : ME τ Bool) (a b : MS τ) : MS τ := sDo c fun k ρ t => if k = true then a ρ t else b ρ t
theorem ms_if {c : Expr} {sa sb : List Stmt} {pos : Pos} {mc : ME τ Bool} {a b : MS τ} (hc : PT X c (tT X.K W mc)) (ha : PSs X sa (tS X.K W a)) (hb : PSs X sb (tS X.K W b)) : PS X (.If c sa sb pos) (tS X.K W (sIf mc a b)) :=
  PS.imp (ps_if hc ha hb) fun E σ H ⟨C, ρ, t, A, p⟩ => by
    refine useS A p fun d t1 v H1 e1 s1 A1 r1 p1 => ?_
    cases r1
    cases d with
    | true => exact ⟨C, ρ, t1, A1, p1⟩
    | false => exact ⟨C, ρ, t1, A1, p1⟩
def sPar (i j : Nat) (a b : ME τ D) : MS τ := sDo (aCons a (aCons b aNil)) fun ds ρ t => match ds with
  | [d, e] => .nx ((ρ.set i (.val d)).set j (.val e)) t
  | _ => .bad
theorem ms_par {s : Stmt} {i j : Nat} {ma mb : ME τ D} (h : PS X s (tPar i j (tA X.K W (aCons ma (aCons mb aNil))))) : PS X s (tS X.K W (sPar i j ma mb)) := PS.imp h fun E σ H ⟨C, ρ, t, A, p⟩ => by
  refine useS A p fun d t1 v H1 e1 s1 A1 r1 p1 => ?_
  cases r1 with
  | nil => exact p1.elim
  | cons r1 r2 => cases r2 with
    | nil => exact p1.elim
    | cons r2 r3 => cases r3 with
      | cons => exact p1.elim
      | nil =>
        exact ⟨_, _, rfl, p1 _ H1 (Stp.setVal.trans Stp.setVal) ((A1.setVal r1).setVal (r2.anti fun _ => Fo.setVal))⟩
def sApp (i : Nat) (m : ME τ D) : MS τ := fun ρ t => match ρ[i]? with
  | some (.own xs) => sDo m (fun d ρ t => if xs.length < 16777216 then .nx (ρ.set i (.own (xs ++ [d]))) t else .bad) ρ t
  | _ => .bad
theorem ms_app {s : Stmt} {i : Nat} {m : ME τ D} (h : PS X s (tDrop (tBM X.K "list" rAppend (tVar i) (tCons (tE X.K W m) tNil)))) : PS X s (tS X.K W (sApp i m)) := PS.imp h fun E σ H ⟨C, ρ, t, A, p⟩ => by
  unfold sApp at p
  split at p
  · rename_i xs hi
    obtain ⟨a, vs, hs, nF, ha, hr⟩ := A.own i xs hi
    refine ⟨_, hs, .inl ⟨rfl, _, .inl (.inl ha)⟩, ?_⟩
    refine useS A p fun d t1 v H1 e1 s1 A1 r1 p1 => ?_
    obtain ⟨a', vs', hs', nF', ha', hr'⟩ := A1.own i xs hi
    rw [hs] at hs'; cases hs'
    split at p1
    · rename_i hl
      obtain ⟨A2, sp⟩ := A1.reOwn (ws := vs' ++ [v]) (ys := xs ++ [d]) hi hs (hr'.snoc r1)
      exact ⟨a, vs', v, rfl, rfl, ha', by rw [hr'.length]; exact hl, p1 σ _ sp A2⟩
    · exact p1.elim
  · exact p.elim
end
end MM

namespace MM
open PySem PySem.Spec PyProof.Rows L2
section
variable {X : Cx} {W : WX} {τ : Type} [Sto τ] {K : Fg}
def loopW (c : ME τ Bool) (b : MS τ) : Nat → MS τ
  | 0 => fun _ _ => .bad
  | n + 1 => sDo c fun k ρ t => if k = true then (match b ρ t with
      | .nx ρ' t' => loopW c b n ρ' t'
      | .ct ρ' t' => loopW c b n ρ' t'
      | .bk ρ' t' => .nx ρ' t'
      | r => r) else .nx ρ t
theorem loopW_mono {c : ME τ Bool} {b : MS τ} : ∀ {n m : Nat} {ρ : Rho} {t : τ}, n ≤ m → loopW c b n ρ t ≠ .bad → loopW c b m ρ t = loopW c b n ρ t
  | 0, _, _, _, _, h => absurd rfl h
  | n + 1, 0, _, _, hl, _ => absurd hl (by omega)
  | n + 1, m + 1, ρ, t, hl, h => by
    unfold loopW sDo at h ⊢
    cases e : c ρ t with
    | ok k t' =>
      rw [e] at h
      dsimp only at h ⊢
      cases k with
      | false => rfl
      | true =>
        rw [if_pos rfl] at h ⊢
        rw [if_pos rfl]
        cases e2 : b ρ t' with
        | nx ρ' t'' => rw [e2] at h; exact loopW_mono (by omega) h
        | ct ρ' t'' => rw [e2] at h; exact loopW_mono (by omega) h
        | _ => rfl
    | ex n fs t' => rfl
    | bad => rfl
open Classical in
noncomputable def sWhile (c : ME τ Bool) (b : MS τ) : MS τ := fun ρ t => if h : ∃ n, loopW c b n ρ t ≠ .bad then loopW c b h.choose ρ t else .bad
theorem sWhile_of {c : ME τ Bool} {b : MS τ} {n : Nat} {ρ : Rho} {t : τ} (h : loopW c b n ρ t ≠ .bad) : sWhile c b ρ t = loopW c b n ρ t := by
  have hx : ∃ n, loopW c b n ρ t ≠ .bad := ⟨n, h⟩
  unfold sWhile
  rw [dif_pos hx]
  have h1 := hx.choose_spec
  rcases Nat.le_total n hx.choose with q | q
  · exact loopW_mono q h
  · exact (loopW_mono q h1).symm
theorem sWhile_turn (c : ME τ Bool) (b : MS τ) (ρ : Rho) (t : τ) : sWhile c b ρ t = sDo c (fun k ρ t => if k = true then (match b ρ t with
      | .nx ρ' t' => sWhile c b ρ' t'
      | .ct ρ' t' => sWhile c b ρ' t'
      | .bk ρ' t' => .nx ρ' t'
      | r => r) else .nx ρ t) ρ t := by
  have inner : ∀ ρ' t', sWhile c b ρ' t' ≠ .bad → ∃ n, sWhile c b ρ' t' = loopW c b n ρ' t' := fun ρ' t' h => by
    unfold sWhile at h ⊢
    split at h
    · rename_i hx
      rw [dif_pos hx]
      exact ⟨_, rfl⟩
    · exact absurd rfl h
  have inner2 : ∀ ρ' t', sWhile c b ρ' t' = .bad → ∀ n, loopW c b n ρ' t' = .bad := fun ρ' t' h n => by
    cases q : loopW c b n ρ' t' with
    | bad => rfl
    | _ =>
      have := sWhile_of (c := c) (b := b) (n := n) (ρ := ρ') (t := t') (by rw [q]; intro z; cases z)
      rw [h, q] at this
      cases this
  unfold sDo
  cases e : c ρ t with
  | ok k t1 =>
    cases k with
    | false =>
      rw [sWhile_of (n := 1) (by unfold loopW sDo; rw [e]; intro z; cases z)]
      unfold loopW sDo
      rw [e]
      rfl
    | true =>
      dsimp only
      rw [if_pos rfl]
      have two : ∀ ρ' t', (∀ n, loopW c b (n + 1) ρ t = loopW c b n ρ' t') → sWhile c b ρ t = sWhile c b ρ' t' := fun ρ' t' h => by
        by_cases q : sWhile c b ρ' t' = .bad
        · rw [q]
          unfold sWhile
          rw [dif_neg]
          rintro ⟨n, hn⟩
          cases n with
          | zero => exact hn rfl
          | succ n => rw [h n, inner2 _ _ q n] at hn; exact hn rfl
        · obtain ⟨n, hn⟩ := inner _ _ q
          rw [hn, ← h n]
          exact sWhile_of (by rw [h n, ← hn]; exact q)
      cases e2 : b ρ t1 with
      | nx ρ' t2 => exact two ρ' t2 fun n => by rw [show loopW c b (n + 1) = sDo c _ from rfl]; unfold sDo; rw [e]; dsimp only; rw [if_pos rfl, e2]
      | ct ρ' t2 => exact two ρ' t2 fun n => by rw [show loopW c b (n + 1) = sDo c _ from rfl]; unfold sDo; rw [e]; dsimp only; rw [if_pos rfl, e2]
      | bk ρ' t2 =>
        have l : loopW c b 1 ρ t = .nx ρ' t2 := by unfold loopW sDo; rw [e]; dsimp only; rw [if_pos rfl, e2]
        rw [sWhile_of (n := 1) (by rw [l]; intro z; cases z), l]
      | rt d t2 =>
        have l : loopW c b 1 ρ t = .rt d t2 := by unfold loopW sDo; rw [e]; dsimp only; rw [if_pos rfl, e2]
        rw [sWhile_of (n := 1) (by rw [l]; intro z; cases z), l]
      | ex n fs ρ' t2 =>
        have l : loopW c b 1 ρ t = .ex n fs ρ' t2 := by unfold loopW sDo; rw [e]; dsimp only; rw [if_pos rfl, e2]
        rw [sWhile_of (n := 1) (by rw [l]; intro z; cases z), l]
      | bad =>
        unfold sWhile
        rw [dif_neg]
        rintro ⟨n, hn⟩
        cases n with
        | zero => exact hn rfl
        | succ n => exact hn (by unfold loopW sDo; rw [e]; dsimp only; rw [if_pos rfl, e2])
  | ex n fs t1 =>
    have l : loopW c b 1 ρ t = .ex n fs ρ t1 := by unfold loopW sDo; rw [e]
    rw [sWhile_of (n := 1) (by rw [l]; intro z; cases z), l]
  | bad =>
    unfold sWhile
    rw [dif_neg]
    rintro ⟨n, hn⟩
    cases n with
    | zero => exact hn rfl
    | succ n => exact hn (by unfold loopW sDo; rw [e])
theorem while_red {c : ME τ Bool} {b : MS τ} {E : Ends} {σ : St} {H : Hp} (p : tS K W (sWhile c b) E σ H) : tWhile (tT K W c) (tS K W b) E σ H := by
  obtain ⟨C, ρ, t, A, p⟩ := p
  unfold sWhile at p
  split at p
  · rename_i hx
    refine ⟨fun n σ H => ∃ ρ t, At K C ρ t σ H ∧ SPost K W C (Fo C.F ρ σ) H (loopW c b n ρ t) E, ⟨_, ρ, t, A, p⟩, ?_⟩
    rintro n σ H ⟨ρ, t, A, p⟩
    cases n with
    | zero => exact p.elim
    | succ n =>
      refine useS A p fun k t1 v H1 e1 s1 A1 r1 p1 => ?_
      cases r1
      cases k with
      | false => exact p1 σ H1 (Stp.refl _ _) A1
      | true =>
        rw [if_pos rfl] at p1
        refine ⟨fun σ' H' => ∃ ρ t, At K C ρ t σ' H' ∧ SPost K W C (Fo C.F ρ σ') H' (loopW c b n ρ t) E, fun σ' H' h => ⟨n, Nat.lt_succ_self n, h⟩, C, ρ, t1, A1, ?_⟩
        cases e2 : b ρ t1 with
        | nx ρ' t2 => rw [e2] at p1; exact fun σ' H' s' A' => ⟨ρ', t2, A', SPost.rebase p1 s'⟩
        | ct ρ' t2 => rw [e2] at p1; exact fun σ' H' s' A' => ⟨ρ', t2, A', SPost.rebase p1 s'⟩
        | bk ρ' t2 => rw [e2] at p1; exact p1
        | rt d t2 => rw [e2] at p1; exact p1
        | ex n fs ρ' t2 => rw [e2] at p1; exact p1
        | bad => rw [e2] at p1; exact p1
  · exact p.elim
theorem ms_while {c : Expr} {body : List Stmt} {pos : Pos} {mc : ME τ Bool} {b : MS τ} (hp : PassesOwn (model X.prog X.w) X.A X.env X.xe) (hc : PT X c (tT X.K W mc)) (hb : PSs X body (tS X.K W b)) : PS X (.While c body [] pos) (tS X.K W (sWhile mc b)) :=
  PS.imp (ps_while hp hc hb) fun _ _ _ p => while_red p

def rIt : Rel It (List D) := fun K _ _ F _ H' J ds => ∃ (G : Hp → Prop) (Y : Nat → Hp → V → Hp → Prop), Walk J ds.length G Y ∧ (∀ H2, Sm F H' H2 → G H2) ∧
  ∀ (Fc : Fp) (i : Nat) (H2 : Hp) (x : V) (H3 : Hp), i < ds.length → Stp F H' Fc H2 → Dom Fc H2 → Y i H2 x H3 → Same H2 H3 ∧ ∃ d, ds[i]? = some d ∧ Rep K Fc H3 x d
theorem okI : RelOk rIt := ⟨fun _ _ _ _ _ _ _ _ _ _ h => h⟩
abbrev tI {τ : Type} [Sto τ] (K : Fg) (W : WX) (m : ME τ (List D)) : TI := tG rIt K W m
theorem PI.imp {tg e : Expr} {t t' : TI} (h : PI X tg e t) (i : ∀ σ H Q, t' σ H Q → t σ H Q) : PI X tg e t' := ⟨fun pins s σ H R I q => h.run pins s σ H R I (i σ H R q)⟩
def itD : D → Option (List D)
  | .lst ds => some ds
  | .tup ds => some ds
  | .scr ns => some (ns.map .int)
  | _ => none
theorem rIt_list {K : Fg} {I : Fp → Hp → Prop} {F0 F : Fp} {H H' : Hp} {a : Addr} {vs : List V} {ds : List D} (hl : LstF K F H' a vs) (r : Reps K F H' vs ds) : rIt K I F0 F H H' (Itl K a) ds := by
  have w : Walk (Itl K a) ds.length (fun H => SqL K H a vs) (YAt vs) := by rw [← r.length]; exact walk_list
  refine ⟨_, _, w, fun H2 s => (hl.step ⟨s, fun _ z => .inl z⟩).sq, fun Fc i H2 x H3 hi s dm y => ?_⟩
  obtain ⟨rfl, y⟩ := y
  obtain ⟨d, e, q⟩ := (r.step s).getV y
  exact ⟨fun _ _ e => e, d, e, q⟩
theorem rIt_scr {K : Fg} {I : Fp → Hp → Prop} {F0 F : Fp} {H H' : Hp} {a : Addr} {ns : List Int} (hl : ScrF K F H' a (ns.map V.int)) : rIt K I F0 F H H' (Itl K a) (ns.map .int) := by
  have w : Walk (Itl K a) (ns.map D.int).length (fun H => SqL K H a (ns.map V.int)) (YAt (ns.map V.int)) := by rw [List.length_map, ← List.length_map (f := V.int)]; exact walk_list
  refine ⟨_, _, w, fun H2 s => (hl.step ⟨s, fun _ z => .inl z⟩).sq, fun Fc i H2 x H3 hi s dm y => ?_⟩
  obtain ⟨rfl, y⟩ := y
  rw [List.getElem?_map] at y ⊢
  cases e : ns[i]? with
  | none => rw [e] at y; cases y
  | some n => rw [e] at y; cases y; exact ⟨fun _ _ e => e, _, rfl, .int n⟩
theorem rIt_tup {K : Fg} {I : Fp → Hp → Prop} {F0 F : Fp} {H H' : Hp} {a : Addr} {vs : List V} {ds : List D} (hl : TupF K F H' a vs) (r : Reps K F H' vs ds) : rIt K I F0 F H H' (Itt K a) ds := by
  have w : Walk (Itt K a) ds.length (fun H => SqT K H a vs) (YAt vs) := by rw [← r.length]; exact walk_tup
  refine ⟨_, _, w, fun H2 s => (hl.step ⟨s, fun _ z => .inl z⟩).sq, fun Fc i H2 x H3 hi s dm y => ?_⟩
  obtain ⟨rfl, y⟩ := y
  obtain ⟨d, e, q⟩ := (r.step s).getV y
  exact ⟨fun _ _ e => e, d, e, q⟩
def iSeq (K : Fg) (tl : TE) : TI := fun σ H R => tl σ H fun x H1 => (∃ a, x = .ref a ∧ (∃ xs, SqL K H1 a xs) ∧ R (Itl K a) H1) ∨ (∃ a, x = .ref a ∧ (∃ xs, SqT K H1 a xs) ∧ R (Itt K a) H1)
theorem pi_seq {tg l : Expr} {tl : TE} (hl : PE X l tl) : PI X tg l (iSeq X.K tl) := by
  refine ⟨fun pins s σ H R I h => ?_⟩
  refine thn (hl.run pins s σ H _ I h) fun v s1 ⟨x, H1, I1, r1, q1⟩ => ?_
  rcases q1 with ⟨a, e, ⟨xs, hq⟩, q⟩ | ⟨a, e, ⟨xs, hq⟩, q⟩
  · subst e
    cases r1
    obtain ⟨its, rv, p, hz⟩ := I1.list hq
    refine wpAny_pyIter_list p.isList ?_
    refine ⟨s1.heap.objs.size, [s1.heap.objs.size], _, _, H1, rfl, I1.kept (t' := s1.toks) fun b o e => Heap.get?_push_of_some _ e, turn_list a _, ⟨_, Heap.get?_push_size _ rfl, rfl, rfl⟩, fun b hb => ?_, q⟩
    have e : b = s1.heap.objs.size := by simpa using hb
    subst e
    exact I1.fpOk (Nat.le_refl _) (I1.hok.fresh (Nat.le_refl _))
  · subst e
    cases r1
    obtain ⟨its, rv, p, hz⟩ := I1.tuple hq
    refine wpAny_pyIter_tuple (show s1.heap.IsTuple a its.toArray from p) ?_
    refine ⟨s1.heap.objs.size, [s1.heap.objs.size], _, _, H1, rfl, I1.kept (t' := s1.toks) fun b o e => Heap.get?_push_of_some _ e, turn_tuple a _, ⟨_, Heap.get?_push_size _ rfl, rfl, rfl⟩, fun b hb => ?_, q⟩
    have e : b = s1.heap.objs.size := by simpa using hb
    subst e
    exact I1.fpOk (Nat.le_refl _) (I1.hok.fresh (Nat.le_refl _))
theorem mi_seq {tg l : Expr} {m : ME τ D} (h : PE X l (tE X.K W m)) : PI X tg l (tI X.K W (e1 itD m)) := PI.imp (pi_seq h) fun σ H R ⟨C, ρ, t, A, p⟩ => by
  refine use okI A p fun d t1 v H1 e1 s1 A1 r1 p1 => ?_
  cases d <;> first
    | exact p1.elim
    | skip
  · cases r1 with
    | tup hl r => exact .inr ⟨_, rfl, ⟨_, hl.sq⟩, p1 _ H1 (Sm.refl _ _) A1.st (rIt_tup hl r)⟩
  · cases r1 with
    | lst hl r => exact .inl ⟨_, rfl, ⟨_, hl.sq⟩, p1 _ H1 (Sm.refl _ _) A1.st (rIt_list hl r)⟩
  · cases r1 with
    | scr hl => exact .inl ⟨_, rfl, ⟨_, hl.sq⟩, p1 _ H1 (Sm.refl _ _) A1.st (rIt_scr hl)⟩
def rngD (lo : Int) (n : Nat) : List D := (List.range n).map fun i => .int (lo + (i : Nat))
theorem rIt_rng {K : Fg} {I : Fp → Hp → Prop} {F0 F : Fp} {H H' : Hp} {lo : Int} {n : Nat} : rIt K I F0 F H H' (Itr lo n) (rngD lo n) := by
  have w : Walk (Itr lo n) (rngD lo n).length (fun _ => True) (YFn fun i => .int (lo + i)) := by
    rw [show (rngD lo n).length = n by simp [rngD]]
    exact walk_range
  refine ⟨_, _, w, fun _ _ => trivial, fun Fc i H2 x H3 hi s dm y => ?_⟩
  obtain ⟨rfl, rfl⟩ := y
  have hn : i < n := by simpa [rngD] using hi
  exact ⟨fun _ _ e => e, .int (lo + i), by simp [rngD, hn], .int _⟩
def fRng1 : List D → Option (List D)
  | [.int j] => if -(2 ^ 62) ≤ j ∧ j < 2 ^ 62 then some (rngD 0 j.toNat) else none
  | _ => none
theorem mi_range1 {tg a : Expr} {p pos : Pos} {m : ME τ (List D)} (hg : Gl X "range") (hm : X.mg "range" = none) (ha : PA X [a] (tAW X.K W m)) (hs : starEach [a] X.env = [(false, eval a X.env)] := by rfl) : PI X tg (.Call (.Name "range" p) [a] [] pos) (tI X.K W (e1 fRng1 m)) :=
  PI.imp (pi_range1 hg hm ha hs) fun σ H R ⟨C, ρ, t, A, p⟩ => by
    refine use okI A p fun d t1 v H1 e1 s1 A1 r1 p1 => ?_
    unfold fRng1 at p1
    split at p1
    · rename_i j
      obtain ⟨x, rfl, rx⟩ := RepsW.one r1
      cases rx.intOf
      split at p1
      · rename_i hj
        exact ⟨j, rfl, hj.1, hj.2, p1 _ H1 (Sm.refl _ _) A1.st rIt_rng⟩
      · exact p1.elim
    · exact p1.elim
def loopF (g : Tgt) (b : MS τ) : List D → MS τ
  | [] => fun ρ t => .nx ρ t
  | d :: ds => fun ρ t => match g ρ d with
    | some ρ1 => (match b ρ1 t with
      | .nx ρ' t' => loopF g b ds ρ' t'
      | .ct ρ' t' => loopF g b ds ρ' t'
      | .bk ρ' t' => .nx ρ' t'
      | r => r)
    | none => .bad
def sFor (m : ME τ (List D)) (g : Tgt) (b : MS τ) : MS τ := sDo m fun ds ρ t => loopF g b ds ρ t
theorem for_red {m : ME τ (List D)} {g : Tgt} {vs : List Nat} {b : MS τ} {E : Ends} {σ : St} {H : Hp} (p : tS K W (sFor m g b) E σ H) : tFor (tI K W m) (tTg τ K g vs) (tS K W b) E σ H := by
  obtain ⟨C, ρ0, t0, A0, p⟩ := p
  refine useS A0 p fun ds t1 J H1 e1 s1 A1 r1 p1 => ?_
  obtain ⟨G, Y, w, hG, hY⟩ := r1
  refine for_it w (fun i σ' H' => ∃ ρ t, At K C ρ t σ' H' ∧ Stp (Fo C.F ρ0 σ) H1 (Fo C.F ρ σ') H' ∧ SPost K W C (Fo C.F ρ σ') H' (loopF g b (ds.drop i) ρ t) E) ⟨ρ0, t1, A1, Stp.refl _ _, p1⟩ ?_ ?_ ?_
  · rintro i σ' H' hi ⟨ρ, t, A, s, q⟩
    exact hG H' s.keep
  · rintro i x σ' H' H'' hi ⟨ρ, t, A, s, q⟩ y
    obtain ⟨sm, d, ed, r⟩ := hY (Fo C.F ρ σ') i H' x H'' hi s A.dom y
    have A' := A.next (Sm.of_same sm) (C.stay A.st sm)
    have dr : ds.drop i = d :: ds.drop (i + 1) := by
      obtain ⟨hl, e⟩ := List.getElem?_eq_some_iff.mp ed
      rw [List.drop_eq_getElem_cons hl, e]
    rw [dr] at q
    unfold loopF at q
    cases eg : g ρ d with
    | none => rw [eg] at q; exact q.elim
    | some ρ1 =>
      rw [eg] at q
      refine ⟨C, ρ, t, d, A', r, ρ1, eg, fun σ2 Hg _ _ s2 A2 => ⟨C, ρ1, t, A2, ?_⟩⟩
      have s02 : Stp (Fo C.F ρ σ') H' (Fo C.F ρ1 σ2) Hg := Stp.trans (Stp.of_sm (Sm.of_same (F := C.F) sm) fun _ => .inl) s2
      dsimp only at q
      cases eb : b ρ1 t with
      | nx ρ' t' => rw [eb] at q; exact fun σ3 H3 s3 A3 => ⟨ρ', t', A3, s.trans (s02.trans s3), SPost.rebase q (s02.trans s3)⟩
      | ct ρ' t' => rw [eb] at q; exact fun σ3 H3 s3 A3 => ⟨ρ', t', A3, s.trans (s02.trans s3), SPost.rebase q (s02.trans s3)⟩
      | bk ρ' t' => rw [eb] at q; exact SPost.rebase (K := K) (W := W) (E := E) (r := .nx ρ' t') q s02
      | rt v t' => rw [eb] at q; exact SPost.rebase (K := K) (W := W) (r := .rt v t') (E := E) q s02
      | ex n fs ρ' t' => rw [eb] at q; exact SPost.rebase (K := K) (W := W) (r := .ex n fs ρ' t') (E := E) q s02
      | bad => rw [eb] at q; exact q.elim
  · rintro σ' H' ⟨ρ, t, A, s, q⟩
    rw [List.drop_length] at q
    exact q σ' H' (Stp.refl _ _) A
theorem ms_for {tg iter : Expr} {body : List Stmt} {pos : Pos} {m : ME τ (List D)} {g : Tgt} {vs : List Nat} {b : MS τ} (hp : PassesOwn (model X.prog X.w) X.A X.env X.xe) (hc : X.calm = true) (hi : PI X tg iter (tI X.K W m)) (hg : PG X tg (tTg τ X.K g vs)) (hb : PSs X body (tS X.K W b))
    (hs : ∀ x, foldedSetIterable iter X.env x = pure x := by intro _; rfl) : PS X (.For tg iter body [] pos) (tS X.K W (sFor m g b)) := PS.imp (ps_for hp hc hi hg hb hs) fun _ _ _ p => for_red p
end
end MM

namespace MM
open PySem PySem.Spec PyProof.Rows L2
abbrev W0 : WX := fun _ _ _ _ => False
section
variable {X : Cx} {W : WX} {τ : Type} [Sto τ] {K : Fg}
def wipeR (ρ : Rho) : List Nat → Rho
  | [] => ρ
  | v :: vs => (wipeR ρ vs).set v .no
theorem wipeR_some {ρ : Rho} {i : Nat} {x : Slot} : ∀ {vs : List Nat}, (wipeR ρ vs)[i]? = some x → x ≠ .no → ρ[i]? = some x ∧ i ∉ vs
  | [], h, _ => ⟨h, by simp⟩
  | v :: vs, h, hn => by
    unfold wipeR at h
    rcases set_at h with ⟨_, e, _⟩ | ⟨ne, h⟩
    · exact absurd e hn
    · obtain ⟨h1, h2⟩ := wipeR_some h hn
      exact ⟨h1, by simp only [List.mem_cons, not_or]; exact ⟨fun e => ne e.symm, h2⟩⟩
theorem wipeR_length (ρ : Rho) : ∀ vs : List Nat, (wipeR ρ vs).length = ρ.length
  | [] => rfl
  | v :: vs => by unfold wipeR; rw [List.length_set, wipeR_length ρ vs]
theorem wipe_keep {σ : St} {i : Nat} : ∀ {vs : List Nat}, i ∉ vs → (wipe σ vs)[i]? = σ[i]?
  | [], _ => rfl
  | v :: vs, h => by
    simp only [List.mem_cons, not_or] at h
    unfold wipe
    rw [List.getElem?_set_ne (fun e => h.1 e.symm), wipe_keep h.2]
def noEx {α : Type} (r : Res τ α) : Res τ α := match r with
  | .ok a t => .ok a t
  | _ => .bad
def compL (g : Tgt) (tt : ME τ Bool) (te : ME τ D) (ρ : Rho) : List D → τ → Res τ (List D)
  | [], t => .ok [] t
  | d :: ds, t => match g ρ d with
    | some ρ1 => (noEx (tt ρ1 t)).bind fun b t => if b = true then (noEx (te ρ1 t)).bind fun y t => (compL g tt te ρ ds t).bind fun ys t => .ok (y :: ys) t else compL g tt te ρ ds t
    | none => .bad
theorem wipe_eq {σ σ' : St} {vs ws : List Nat} (hl : σ'.length = σ.length) (h : ∀ j, j ∉ vs → σ'[j]? = σ[j]?) (hs : ∀ j, j ∈ vs → j ∈ ws) : wipe σ' ws = wipe σ ws := by
  have wn : ∀ (τ0 : St) (us : List Nat) (j : Nat), j ∈ us → j < τ0.length → (wipe τ0 us)[j]? = some none := fun τ0 us => by
    induction us with
    | nil => intro j h; cases h
    | cons u us ih =>
      intro j hj hl
      unfold wipe
      by_cases e : u = j
      · subst e
        rw [List.getElem?_set_self (by rw [wipe_length]; exact hl)]
      · rw [List.getElem?_set_ne e]
        exact ih j ((List.mem_cons.mp hj).resolve_left fun q => e q.symm) hl
  refine List.ext_getElem? fun j => ?_
  by_cases q : j ∈ ws
  · by_cases l : j < σ.length
    · rw [wn σ' ws j q (by rw [hl]; exact l), wn σ ws j q l]
    · rw [List.getElem?_eq_none (by rw [wipe_length, hl]; omega), List.getElem?_eq_none (by rw [wipe_length]; omega)]
  · rw [wipe_keep q, wipe_keep q]
    exact h j fun z => q (hs j z)
def noOwn (ρ : Rho) (vs : List Nat) : Bool := vs.all fun v => match ρ[v]? with
  | some (.own _) => false
  | some (.dct ..) => false
  | _ => true
theorem noOwn_mine {ρ : Rho} {vs : List Nat} (hno : noOwn ρ vs = true) {j : Nat} {x : Slot} (h : ρ[j]? = some x ∧ x.mine = true) (hj : j ∈ vs) : False := by
  have z := List.all_eq_true.mp hno j hj
  rw [h.1] at z
  cases x with
  | own _ => cases z
  | dct _ _ => cases z
  | no => cases h.2
  | val _ => cases h.2
def eComp (mi : ME τ (List D)) (vs : List Nat) (g : Tgt) (tt : ME τ Bool) (te : ME τ D) : ME τ (List D) := fun ρ t => (mi ρ t).bind fun ds t => if ds.length ≤ 16777216 ∧ noOwn ρ vs = true then compL g tt te (wipeR ρ vs) ds t else .bad
theorem At.blk {C : SC τ} {ρ : Rho} {t : τ} {σ : St} {H1 H' : Hp} {D0 : Addr} {acc : HO} {vs : List Nat} {t' : τ} (A : At K C ρ t σ H1) (nD : H1 D0 = none) (s : Sm C.F H1 H') (iv : C.Iv t' (fun b => Fo C.F ρ σ b ∨ b = D0) H') (hD : H' D0 = some acc) :
    At K (C.cmp D0 acc) (wipeR ρ vs) t' (wipe σ vs) H' ∧ ∀ b, Fo (C.cmp D0 acc).F (wipeR ρ vs) (wipe σ vs) b → Fo C.F ρ σ b ∨ b = D0 := by
  have tr : ∀ {j : Nat} {x : Slot}, ((wipeR ρ vs)[j]? = some x ∧ x.mine = true) → (ρ[j]? = some x ∧ x.mine = true) ∧ j ∉ vs := fun {j x} h => by
    obtain ⟨q1, q2⟩ := wipeR_some h.1 (by intro z; rw [z] at h; cases h.2)
    exact ⟨⟨q1, h.2⟩, q2⟩
  have fo : ∀ b, Fo (C.cmp D0 acc).F (wipeR ρ vs) (wipe σ vs) b → Fo C.F ρ σ b ∨ b = D0 := fun b h => by
    rcases h with (h | h) | ⟨j, xs, h1, h2⟩
    · exact .inl (.inl h)
    · exact .inr h
    · obtain ⟨h3, h4⟩ := tr h1
      exact .inl (.inr ⟨j, xs, h3, by rw [← wipe_keep h4]; exact h2⟩)
  have sp : Stp (Fo C.F ρ σ) H1 (Fo (C.cmp D0 acc).F (wipeR ρ vs) (wipe σ vs)) H' := ⟨fun b o n e => s b o (fun z => n (.inl z)) e, fun b h => (fo b h).elim .inl fun e => .inr (by rw [e]; exact nD)⟩
  refine ⟨⟨Sto.cmp _ _ _ _ (fun z => C.dom _ _ _ _ A.st z nD) A.okC, ⟨C.less iv fo, hD⟩, by rw [wipe_length, wipeR_length, A.len], fun j d h => ?_, fun j xs h => ?_, fun i j xs ys h1 h2 e => ?_⟩, fo⟩
  · obtain ⟨h3, h4⟩ := wipeR_some h (by intro z; cases z)
    obtain ⟨v, h5, h6⟩ := A.val j d h3
    exact ⟨v, by rw [wipe_keep h4]; exact h5, h6.step sp⟩
  · obtain ⟨h3, h4⟩ := tr h
    obtain ⟨a, ws, h5, h6, h7, h8⟩ := A.mine j xs h3
    refine ⟨a, ws, by rw [wipe_keep h4]; exact h5, fun z => z.elim h6 fun e => ?_, s a _ h6 h7, h8.step sp⟩
    rw [e, nD] at h7; cases h7
  · obtain ⟨h3, h4⟩ := tr h1
    obtain ⟨h5, h6⟩ := tr h2
    rw [wipe_keep h4, wipe_keep h6] at e
    exact A.dis i j xs ys h3 h5 e
def rItO : Rel It (List D) := fun K _ F0 F _ H' J ds => ∃ (G : Hp → Prop) (Y : Nat → Hp → V → Hp → Prop), Walk J ds.length G Y ∧ (∀ H2, Sm F0 H' H2 → G H2) ∧
  ∀ (Fc : Fp) (i : Nat) (H2 : Hp) (x : V) (H3 : Hp), i < ds.length → Stp F H' Fc H2 → Dom Fc H2 → Y i H2 x H3 → Same H2 H3 ∧ ∃ d, ds[i]? = some d ∧ Rep K Fc H3 x d
abbrev tIO {τ : Type} [Sto τ] (K : Fg) (W : WX) (m : ME τ (List D)) : TI := tG rItO K W m
theorem toO {tg e : Expr} {m : ME τ (List D)} (h : PI X tg e (tI X.K W m)) : PI X tg e (tIO X.K W m) := PI.imp h fun σ H Q ⟨C, ρ, t, A, p⟩ => ⟨C, ρ, t, A, by
  cases q : m ρ t with
  | ok ds t' =>
    rw [q] at p
    exact fun J H' s i ⟨G, Y, w, hG, hY⟩ => p J H' s i ⟨G, Y, w, fun H2 s2 => hG H2 fun b o n e => s2 b o (fun z => n (.inl z)) e, hY⟩
  | ex n fs t' => rw [q] at p; exact p
  | bad => rw [q] at p; exact p⟩
theorem lc_red {mi : ME τ (List D)} {vs ws : List Nat} {g : Tgt} {tt : ME τ Bool} {te : ME τ D} {σ : St} {H : Hp} {Q : VK} (hv : ∀ j, j ∈ ws → j ∈ vs) (p : tF K W (eComp mi vs g tt te) σ H Q) : tLc (tIO K W mi) (tTg τ K g ws) (tT K W0 tt) (tE K W0 te) vs σ H Q := by
  obtain ⟨C, ρ, t0, A0, p⟩ := p
  refine use okF A0 p fun ds t1 J H1 e1 s1 A1 r1 p1 => ?_
  intro D0 nD
  split at p1
  · rename_i hlo
    obtain ⟨hlen, hno⟩ := hlo
    have own_out : ∀ (j : Nat) (x : Slot), (ρ[j]? = some x ∧ x.mine = true) → j ∉ vs := fun j x h hj => noOwn_mine hno h hj
    obtain ⟨G, Y, w, hG, hY⟩ := r1
    have nF0 : ¬ Fo C.F ρ σ D0 := fun z => A1.dom D0 z nD
    have s0 : Sm C.F H1 (upd H1 D0 (.lst [])) := Sm.of_same (same_upd nD)
    have sp0 : Stp (Fo C.F ρ σ) H1 (fun b => Fo C.F ρ σ b ∨ b = D0) (upd H1 D0 (.lst [])) := ⟨fun b o _ e => same_upd nD b o e, fun b h => h.elim .inl fun e => .inr (by rw [e]; exact nD)⟩
    refine lc_it w (fun i H' => ∃ (t : τ) (av : List V) (ad : List D), C.Iv t (fun b => Fo C.F ρ σ b ∨ b = D0) H' ∧ H' D0 = some (.lst av) ∧ Reps K (fun b => Fo C.F ρ σ b ∨ b = D0) H' av ad ∧ av.length ≤ i ∧ Sm C.F H1 H' ∧
        Post rF K W C (Fo C.F ρ σ) σ H1 ((compL g tt te (wipeR ρ vs) (ds.drop i) t).bind fun ys t => .ok (ad ++ ys) t) Q)
      ⟨t1, [], [], C.step _ _ _ _ _ A1.st (fun b o _ e => same_upd nD b o e) sp0, upd_same, .nil, Nat.le_refl _, s0, ?_⟩ ?_ ?_ ?_
    · rw [List.drop_zero]
      cases q : compL g tt te (wipeR ρ vs) ds t1 with
      | ok d t => rw [q] at p1; exact p1
      | ex n fs t => rw [q] at p1; exact p1
      | bad => rw [q] at p1; exact p1
    · rintro i H' hi ⟨t, av, ad, iv, hD, ra, hl, sm, q⟩
      exact hG H' sm
    · rintro i x H' H'' hi ⟨t, av, ad, iv, hD, ra, hl, sm, q⟩ y
      obtain ⟨AB, fo⟩ := At.blk (vs := vs) A1 nD sm iv hD
      have sp : Stp (Fo C.F ρ σ) H1 (Fo (C.cmp D0 (.lst av)).F (wipeR ρ vs) (wipe σ vs)) H' := ⟨fun b o n e => sm b o (fun z => n (.inl z)) e, fun b h => (fo b h).elim .inl fun e => .inr (by rw [e]; exact nD)⟩
      obtain ⟨sy, d, ed, r⟩ := hY _ i H' x H'' hi sp AB.dom y
      have AB2 := AB.next (Sm.of_same sy) ((C.cmp D0 (.lst av)).stay AB.st sy)
      have dr : ds.drop i = d :: ds.drop (i + 1) := by
        obtain ⟨hl, e⟩ := List.getElem?_eq_some_iff.mp ed
        rw [List.drop_eq_getElem_cons hl, e]
      rw [dr] at q
      unfold compL at q
      cases eg : g (wipeR ρ vs) d with
      | none => rw [eg] at q; exact q.elim
      | some ρ1 =>
        rw [eg] at q
        dsimp only at q
        refine ⟨C.cmp D0 (.lst av), wipeR ρ vs, t, d, AB2, r, ρ1, eg, fun σ2 Hg f2 mg s2 A2 => ⟨(wipe_eq (ws := vs) f2.1 (fun j hj => (f2.2 j hj).1) hv).trans (wipe_eq (ws := vs) (vs := vs) (wipe_length σ vs) (fun j hj => wipe_keep hj) fun _ h => h), ?_⟩⟩
        have sy : Same H' Hg := fun b o e => mg b o (sy b o e)
        have sm2 : Sm C.F H1 Hg := sm.trans (Sm.of_same sy)
        have smB : ∀ {H3 : Hp}, Sm (C.cmp D0 (.lst av)).F Hg H3 → Sm C.F H1 H3 := fun {H3} s3 b o n e => s3 b o (fun z => z.elim n fun q => by rw [q, nD] at e; cases e) (sm2 b o n e)
        have big : ∀ b, (Fo C.F ρ σ b ∨ b = D0) → Fo (C.cmp D0 (.lst av)).F ρ1 σ2 b := fun b h => by
          rcases h with (h | ⟨j, xs, h1, h2⟩) | h
          · exact .inl (.inl h)
          · have hj := own_out j xs h1
            have hj2 : j ∉ ws := fun z => hj (hv j z)
            refine .inr ⟨j, xs, ⟨?_, h1.2⟩, ?_⟩
            · rw [(f2.2 j hj2).2]
              have : ∀ us : List Nat, j ∉ us → (wipeR ρ us)[j]? = ρ[j]? := fun us => by
                induction us with
                | nil => intro _; rfl
                | cons u us ih =>
                  intro hu
                  simp only [List.mem_cons, not_or] at hu
                  unfold wipeR
                  rw [List.getElem?_set_ne (fun e => hu.1 e.symm), ih hu.2]
              rw [this vs hj]; exact h1.1
            · rw [(f2.2 j hj2).1, wipe_keep hj, h2]
          · exact .inl (.inr h)
        have raB : ∀ {H3 : Hp}, Sm (C.cmp D0 (.lst av)).F Hg H3 → Reps K (fun b => Fo C.F ρ σ b ∨ b = D0) H3 av ad := fun {H3} s3 => (ra.same (Sm.of_same sy)).same (s3.mono fun b h => h.elim (fun z => .inl (.inl z)) .inr)
        refine ⟨C.cmp D0 (.lst av), ρ1, t, A2, ?_⟩
        unfold noEx at q
        cases et : tt ρ1 t with
        | bad => rw [et] at q; exact q.elim
        | ex n fs t' => rw [et] at q; exact q.elim
        | ok c t3 =>
          rw [et] at q
          intro c' H3 s3 i3 ec
          cases ec
          cases c with
          | false =>
            rw [if_neg Bool.false_ne_true]
            exact ⟨t3, av, ad, C.less i3.1 big, i3.2, raB s3, Nat.le_succ_of_le hl, smB s3, q⟩
          | true =>
            rw [if_pos rfl]
            have A3 := A2.next s3 i3
            refine ⟨C.cmp D0 (.lst av), ρ1, t3, A3, ?_⟩
            simp only [Res.bind_ok, if_true] at q
            cases ee : te ρ1 t3 with
            | bad => rw [ee] at q; exact q.elim
            | ex n fs t' => rw [ee] at q; exact q.elim
            | ok y t4 =>
              rw [ee] at q
              intro yv H4 s4 i4 ry
              have s34 : Sm (C.cmp D0 (.lst av)).F Hg H4 := s3.trans s4
              have yB : Rep K (fun b => Fo C.F ρ σ b ∨ b = D0) H4 yv y := Rep.anti ry big
              refine ⟨av, i4.2, Nat.lt_of_le_of_lt hl (Nat.lt_of_lt_of_le hi hlen), t4, av ++ [yv], ad ++ [y], ?_, upd_same, ?_, by rw [List.length_append]; exact Nat.succ_le_succ hl, ?_, ?_⟩
              · refine C.step _ _ _ _ _ (C.less i4.1 big) (fun b o h e => ?_) ⟨fun b o n e => by rw [upd_ne (fun z => n (.inr z))]; exact e, fun b h => .inl h⟩
                rw [upd_ne (fun z => nF0 (by rw [← z]; exact .inl h))]
                exact e
              · have sp4 : Stp (fun b => Fo C.F ρ σ b ∨ b = D0) H4 (fun b => Fo C.F ρ σ b ∨ b = D0) (upd H4 D0 (.lst (av ++ [yv]))) := ⟨fun b o n e => by rw [upd_ne (fun z => n (.inr z))]; exact e, fun b h => .inl h⟩
                exact Reps.step sp4 ((raB s34).snoc yB)
              · intro b o n e
                have nb : b ≠ D0 := fun z => by rw [z, nD] at e; cases e
                rw [upd_ne nb]
                exact smB s34 b o n e
              · simp only [noEx, Res.bind_ok] at q
                cases ec : compL g tt te (wipeR ρ vs) (ds.drop (i + 1)) t4 with
                | ok zs t5 => rw [ec] at q; simp only [Res.bind_ok, List.append_assoc, List.singleton_append] at q ⊢; exact q
                | ex n fs t5 => rw [ec] at q; exact q
                | bad => rw [ec] at q; exact q
    · rintro H' ⟨t, av, ad, iv, hD, ra, hl, sm, q⟩
      rw [List.drop_length] at q
      simp only [compL, Res.bind_ok, List.append_nil] at q
      exact q (.ref D0) H' sm (C.less iv fun _ => .inl) ⟨D0, av, rfl, nF0, nD, hD, ra, iv⟩
  · exact p1.elim
theorem mf_lc {elt tg iter : Expr} {ifs : List Expr} {scope : Scope} {own : List (Str × Nat)} {ws : List Nat} {pos : Pos} {mi : ME τ (List D)} {g : Tgt} {tt : ME τ Bool} {te : ME τ D} (hc : X.calm = true) (hN : X.N.Nodup) (hi : PI X tg iter (tIO X.K W mi)) (ok : BlkOk X.N X.env.scope scope own)
    (hv : ∀ j, j ∈ ws → j ∈ own.map (·.2))
    (hg : ∀ (s : Shared) (H : Hp) (C : Addr) (cl : List (Str × Addr)) (fp : List Addr), PG (X.blk s H scope (compEnvC scope cl C X.env) fp) tg (tTg τ X.K g ws)) (ht : ∀ (s : Shared) (H : Hp) (C : Addr) (cl : List (Str × Addr)) (fp : List Addr), PTs (X.blk s H scope (compEnvC scope cl C X.env) fp) ifs (tT X.K W0 tt))
    (he : ∀ (s : Shared) (H : Hp) (C : Addr) (cl : List (Str × Addr)) (fp : List Addr), PE (X.blk s H scope (compEnvC scope cl C X.env) fp) elt (tE X.K W0 te)) (hs : ∀ x, foldedSetIterable iter X.env x = pure x := by intro _; rfl) :
    PE X (.ListComp elt [⟨tg, iter, ifs, 0⟩] scope pos) (tF X.K W (eComp mi (own.map (·.2)) g tt te)) := PE.imp (pe_lc hc hN hi ok hg ht he hs) fun _ _ _ p => lc_red hv p
theorem ms_lc {s : Stmt} {i : Nat} {mi : ME τ (List D)} {vs ws : List Nat} {g : Tgt} {tt : ME τ Bool} {te : ME τ D} (hv : ∀ j, j ∈ ws → j ∈ vs) (h : PS X s (tAsg (tLc (tIO X.K W mi) (tTg τ X.K g ws) (tT X.K W0 tt) (tE X.K W0 te) vs) (gName i))) :
    PS X s (tS X.K W (sAsg (gN i) (eLst (eComp mi vs g tt te)))) := ms_set (PS.imp h fun σ _ _ p => by
  obtain ⟨C, ρ, t, A, p⟩ := p
  refine lc_red hv ⟨C, ρ, t, A, ?_⟩
  unfold eLst at p
  cases e : eComp mi vs g tt te ρ t with
  | ok d t' =>
    rw [e] at p
    intro v H' s i r
    obtain ⟨a, us, rfl, n, q, l, r, _⟩ := r
    exact p _ H' s i (.lst ⟨n, .inl l⟩ (r.anti fun _ => .inl))
  | ex n fs t' => rw [e] at p; exact p
  | bad => rw [e] at p; exact p)
theorem mts_nil : PTs X [] (tT X.K W (fun (_ : Rho) (t : τ) => .ok true t)) := ⟨fun pins s σ H Q I ⟨C, ρ, t, A, p⟩ => pts_nil.run pins s σ H Q I (p true H (Sm.refl _ _) A.st rfl)⟩
theorem mts_one {c : Expr} {m : ME τ Bool} (h : PT X c (tT X.K W m)) : PTs X [c] (tT X.K W m) := pts_one h
end

section
variable {τ : Type} [Sto τ]
def FPost (K : Fg) (C : SC τ) (H : Hp) (r : Res τ D) (Q : VK) (E : XK) : Prop := match r with
  | .ok d t' => ∀ v H', Sm C.F H H' → C.Iv t' C.F H' → Rep K C.F H' v d → Q v H'
  | .ex n fs t' => ∀ cls dd H', Sm C.F H H' → C.Iv t' C.F H' → XRep K C.F H' n fs cls dd → E cls dd H'
  | .bad => False
def spF (np : Nat) (K : Fg) (m : List D → τ → Res τ D) : Sp := fun vs H Q E => ∃ (C : SC τ) (ds : List D) (t : τ), Sto.ok K C ∧ C.Iv t C.F H ∧ Reps K C.F H vs ds ∧ ds.length = np ∧ FPost K C H (m ds t) Q E
def runB (n : Nat) (mb : MS τ) : List D → τ → Res τ D := fun ds t => match mb (ds.map Slot.val ++ List.replicate (n - ds.length) .no) t with
  | .nx _ t' => .ok .non t'
  | .rt d t' => .ok d t'
  | .ex n fs _ t' => .ex n fs t'
  | _ => .bad
theorem noOwnStart {ds : List D} {n i : Nat} {x : Slot} : ¬ ((ds.map Slot.val ++ List.replicate n Slot.no)[i]? = some x ∧ x.mine = true) := fun ⟨h, hm⟩ => by
  rw [List.getElem?_append] at h
  split at h
  · rw [List.getElem?_map] at h
    cases e : ds[i]? with
    | none => rw [e] at h; cases h
    | some d => rw [e] at h; cases h; cases hm
  · rw [List.getElem?_replicate] at h
    split at h
    · cases h; cases hm
    · cases h
theorem FoStart {F : Fp} {ds : List D} {n : Nat} {σ : St} {b : Addr} (h : Fo F (ds.map Slot.val ++ List.replicate n .no) σ b) : F b := by
  rcases h with h | ⟨i, xs, h1, _⟩
  · exact h
  · exact absurd h1 noOwnStart
theorem At.start {K : Fg} {C : SC τ} {N : List Str} {vs : List V} {ds : List D} {t : τ} {H : Hp} (okC : Sto.ok K C) (iv : C.Iv t C.F H) (r : Reps K C.F H vs ds) (hl : ds.length ≤ N.length) : At K C (ds.map Slot.val ++ List.replicate (N.length - ds.length) .no) t (start N vs) H where
  okC := okC
  st := C.less iv fun _ => FoStart
  len := by
    unfold L2.start
    rw [List.length_append, List.length_append, List.length_map, List.length_map, List.length_replicate, List.length_replicate, r.length]
  val := fun i d h => by
    rw [List.getElem?_append] at h
    split at h
    · rename_i hi
      rw [List.getElem?_map] at h
      cases e : ds[i]? with
      | none => rw [e] at h; cases h
      | some d' =>
        rw [e] at h
        cases h
        obtain ⟨v, h1, h2⟩ := r.get e
        refine ⟨v, ?_, h2.anti fun _ => FoStart⟩
        unfold L2.start
        rw [List.getElem?_append_left (by rw [List.length_map]; exact (List.getElem?_eq_some_iff.mp h1).1), List.getElem?_map, h1]
        rfl
    · rw [List.getElem?_replicate] at h
      split at h <;> cases h
  mine := fun i xs h => absurd h noOwnStart
  dis := fun i j xs ys h => absurd h noOwnStart
theorem fn_mk {P : Program} {w : World} {K : Fg} {mg : Str → Option Value} {base : Heap} {x qual : Str} {params : Arguments} {body : List Stmt} {scope : Scope} {dvs : List V} {kws : List (Str × V)} {f : Addr} {fd : FuncData} {N ps : List Str} {k : Nat}
    (F : FunD K x qual params body scope dvs kws f fd) (S : FnScope N ps scope) (mb : MS τ)
    (hb : ∀ (cdv : Value) (A : Around) (outer : List Env) (s : Shared) (H : Hp) (E : XK), Room k (A.deeper (envOfC qual scope s.heap.objs.size f cdv)) →
      PSs (cxOf (L2.CX P w) P w K mg base N qual scope f cdv A outer s H E) body (tS K (fun cls d _ H => E cls d H) mb)) : FnOk P w K mg base (L2.CX P w) (k + 1) f fd ps (spF ps.length K (runB N.length mb)) := by
  have hpl : ps.length ≤ N.length := by have := congrArg List.length S.pre; rw [List.length_take] at this; omega
  refine F.ok S (fun vs H Q E ⟨C, ds, t, _, _, r, hl, _⟩ => r.length.trans hl) fun cdv A outer s H vs Q E hr ⟨C, ds, t, okC, iv, r, hl, p⟩ => ⟨_, hb cdv A outer s H E hr, C, _, t, At.start okC iv r (by rw [hl]; exact hpl), ?_⟩
  unfold runB at p
  cases e : mb (ds.map Slot.val ++ List.replicate (N.length - ds.length) .no) t with
  | nx ρ' t' =>
    rw [e] at p
    exact fun σ' H' s' A' => p .non H' (fun b o n e => s'.keep b o (fun z => n (FoStart z)) e) (C.less A'.st fun _ => .inl) .non
  | rt d t' =>
    rw [e] at p
    exact fun v H' s' i r => p v H' (fun b o n e => s' b o (fun z => n (FoStart z)) e) i r
  | ex n fs ρ' t' =>
    rw [e] at p
    exact fun cls dd σ' H' s' A' x => p cls dd H' (fun b o n e => s'.keep b o (fun z => n (FoStart z)) e) (C.less A'.st fun _ => .inl) (x.anti fun _ => .inl)
  | bk ρ' t' => rw [e] at p; exact p.elim
  | ct ρ' t' => rw [e] at p; exact p.elim
  | bad => rw [e] at p; exact p.elim

structure Def (P : Program) (w : World) (K : Fg) (mg : Str → Option Value) (base : Heap) (k : Nat) (x : Str) (np : Nat) (df : List D) (m : List D → τ → Res τ D) : Prop where
  ex : ∃ (fd : FuncData) (ps : List Str) (ds : List Value) (dvs : List V), FnOk P w K mg base (L2.CX P w) k (He.ga K x) fd ps (spF np K m) ∧ mg x = some (.ref (He.ga K x)) ∧ PySem.W.keepIn K (.ref (He.ga K x)) = true ∧ Binds K fd ps ds ∧ Vals dvs ds ∧ (∀ F H, Reps K F H dvs df)

section
variable {X : Cx} {W : WX} {σc : Type}
def ALen {α : Type} (a : ME τ (List α)) (n : Nat) : Prop := ∀ ρ t ds t', a ρ t = .ok ds t' → ds.length = n
theorem alen_nil {α : Type} : ALen (aNil (τ := τ) (α := α)) 0 := fun _ _ _ _ e => by cases e; rfl
theorem alen_cons {α : Type} {a : ME τ α} {b : ME τ (List α)} {n : Nat} (h : ALen b n) : ALen (aCons a b) (n + 1) := fun ρ t ds t' e => by
  unfold aCons at e
  cases e1 : a ρ t with
  | ok d t1 =>
    rw [e1, Res.bind_ok] at e
    cases e2 : b ρ t1 with
    | ok es t2 =>
      rw [e2, Res.bind_ok] at e
      cases e
      show es.length + 1 = n + 1
      rw [h _ _ _ _ e2]
    | ex n fs t2 => rw [e2] at e; cases e
    | bad => rw [e2] at e; cases e
  | ex n fs t1 => rw [e1] at e; cases e
  | bad => rw [e1] at e; cases e
def eCall (m : List D → Unit → Res Unit D) (df : List D) (a : ME τ (List D)) : ME τ D := fun ρ t => (a ρ t).bind fun ds t => match m (ds ++ df) () with
  | .ok d _ => .ok d t
  | .ex n fs _ => .ex n fs t
  | .bad => .bad
def SC.pure (F : Fp) (H1 : Hp) (dm : Dom F H1) : SC Unit where
  F := F
  Iv := fun _ G H' => Stp F H1 G H' ∧ ∀ b o, F b → H1 b = some o → H' b = some o
  dom := fun _ G H' b h hb => by
    cases e : H1 b with
    | none => exact absurd e (dm b hb)
    | some o => rw [h.2 b o hb e]; intro z; cases z
  step := fun _ G H G' H' h1 h2 s => ⟨h1.1.trans s, fun b o hb e => h2 b o hb (h1.2 b o hb e)⟩
theorem SC.pure_same {F : Fp} {H1 : Hp} {dm : Dom F H1} {G : Fp} {H' : Hp} (h : (SC.pure F H1 dm).Iv () G H') : Same H1 H' := fun b o e => by
  by_cases q : F b
  · exact h.2 b o q e
  · exact h.1.keep b o q e
theorem call_red {np j : Nat} {K : Fg} {m : List D → Unit → Res Unit D} {df : List D} {dvs : List V} {a : ME τ (List D)} {σ : St} {H : Hp} {Q : VK} (hd : ∀ F H, Reps K F H dvs df) (hn : ALen a j) (hj : j + df.length = np) (p : tE K W (eCall m df a) σ H Q) :
    tCallSD (spF np K m) dvs (WE W) (tA K W a) σ H Q := by
  obtain ⟨C, ρ, t, A, p⟩ := p
  refine use okE A p fun ds t1 vs H1 e1 s1 A1 r1 p1 => ?_
  refine ⟨SC.pure (Fo C.F ρ σ) H1 A1.dom, ds ++ df, (), trivial, ⟨Stp.refl _ _, fun _ _ _ e => e⟩, Reps.append r1 (hd _ _), by rw [List.length_append, hn _ _ _ _ e1, hj], ?_⟩
  cases e : m (ds ++ df) () with
  | ok d u =>
    rw [e] at p1
    exact fun v H' s i r => p1 v H' (Sm.of_same (SC.pure_same i)) (C.stay A1.st (SC.pure_same i)) r
  | ex n fs u =>
    rw [e] at p1
    exact fun cls dd H' s i x => p1 cls dd H' (Sm.of_same (SC.pure_same i)) (C.stay A1.st (SC.pure_same i)) x
  | bad =>
    rw [e] at p1
    exact p1.elim
theorem me_call {k np j : Nat} {x : Str} {df : List D} {m : List D → Unit → Res Unit D} {e : Expr} {es : List Expr} {p pos : Pos} {a : ME τ (List D)} (Df : Def X.prog X.w X.K X.mg X.base k x np df m) (hr : Room k X.A) (tk : Takes X W) (hg : Gl X x) (hn : ALen a j)
    (ha : PA X (e :: es) (tA X.K W a)) (hdb : (x == ("__debug__" : Str)) = false := by decide) (hj : j + df.length = np := by rfl) (he : starEach (e :: es) X.env = (false, eval e X.env) :: starEach es X.env := by rfl) (hpl : (backTo pos (starEach es X.env)).any (·.1) = false := by rfl) :
    PE X (.Call (.Name x p) (e :: es) [] pos) (tE X.K W (eCall m df a)) := by
  obtain ⟨fd, ps, ds, dvs, F, hm, hk, hb, hd, hdf⟩ := Df.ex
  exact PE.imp (pe_callSD F hr hg hm hk hb hd (fun σ => passAt tk σ) ha hdb he hpl) fun _ _ _ p => call_red hdf hn hj p
def eCallS (m : List D → τ → Res τ D) (df : List D) (a : ME τ (List D)) : ME τ D := fun ρ t => (a ρ t).bind fun ds t => m (ds ++ df) t
theorem SC.ov_sm {C : SC τ} {F : Fp} {H1 : Hp} {hF : ∀ b, C.F b → F b} {dm : Dom F H1} {t : τ} {G : Fp} {H' : Hp} (h : (SC.ov C F H1 hF dm).Iv t G H') : Sm C.F H1 H' := fun b o n e => by
  by_cases q : F b
  · exact h.2.2 b o q n e
  · exact h.2.1.keep b o q e
theorem callS_red {np j : Nat} {K : Fg} {m : List D → τ → Res τ D} {df : List D} {dvs : List V} {a : ME τ (List D)} {σ : St} {H : Hp} {Q : VK} (hd : ∀ F H, Reps K F H dvs df) (hn : ALen a j) (hj : j + df.length = np) (p : tE K W (eCallS m df a) σ H Q) :
    tCallSD (spF np K m) dvs (WE W) (tA K W a) σ H Q := by
  obtain ⟨C, ρ, t, A, p⟩ := p
  refine use okE A p fun ds t1 vs H1 e1 s1 A1 r1 p1 => ?_
  refine ⟨SC.ov C (Fo C.F ρ σ) H1 (fun _ => Fo.base) A1.dom, ds ++ df, t1, Sto.ov _ _ _ _ _ _ A1.okC, ⟨A1.st, Stp.refl _ _, fun _ _ _ _ e => e⟩, Reps.append r1 (hd _ _), by rw [List.length_append, hn _ _ _ _ e1, hj], ?_⟩
  cases e : m (ds ++ df) t1 with
  | ok d u =>
    rw [e] at p1
    exact fun v H' s i r => p1 v H' (SC.ov_sm i) i.1 r
  | ex n fs u =>
    rw [e] at p1
    exact fun cls dd H' s i x => p1 cls dd H' (SC.ov_sm i) i.1 x
  | bad =>
    rw [e] at p1
    exact p1.elim
theorem me_callS {k np j : Nat} {x : Str} {df : List D} {m : List D → τ → Res τ D} {e : Expr} {es : List Expr} {p pos : Pos} {a : ME τ (List D)} (Df : Def X.prog X.w X.K X.mg X.base k x np df m) (hr : Room k X.A) (tk : Takes X W) (hg : Gl X x) (hn : ALen a j)
    (ha : PA X (e :: es) (tA X.K W a)) (hdb : (x == ("__debug__" : Str)) = false := by decide) (hj : j + df.length = np := by rfl) (he : starEach (e :: es) X.env = (false, eval e X.env) :: starEach es X.env := by rfl) (hpl : (backTo pos (starEach es X.env)).any (·.1) = false := by rfl) :
    PE X (.Call (.Name x p) (e :: es) [] pos) (tE X.K W (eCallS m df a)) := by
  obtain ⟨fd, ps, ds, dvs, F, hm, hk, hb, hd, hdf⟩ := Df.ex
  exact PE.imp (pe_callSD F hr hg hm hk hb hd (fun σ => passAt tk σ) ha hdb he hpl) fun _ _ _ p => callS_red hdf hn hj p

def sRaise (n : Str) : MS τ := fun ρ t => .ex n none ρ t
theorem ms_raise {e : Expr} {n : Str} {pos : Pos} (hc : X.calm = true) (tk : Takes X W) (h : PMk X e (fun _ H Q => Q (.ref (He.ga X.K n)) none H)) : PS X (.Raise (some e) none pos) (tS X.K W (sRaise (τ := τ) n)) := PS.imp (ps_raise hc tk h) fun E σ H ⟨C, ρ, t, A, p⟩ =>
  p _ _ σ H (Stp.refl _ _) A ⟨rfl, rfl⟩
end
end
end MM

namespace MM
open PySem PySem.Spec PyProof.Rows L2
section
variable {X : Cx} {K : Fg}
theorem DOp2.int0 {g : Int → Int → V} {f : Int → Int → D} (h : ∀ i j F H, Rep K F H (g i j) (f i j)) : DOp2 K (rI0 g) (fun d e => match d, e with
    | .int i, .int j => some (f i j)
    | _, _ => none) := fun F0 F H x y d e z Q dm rx ry q k => by
  dsimp only at q
  split at q
  · cases q
    exact ⟨_, _, rx.intOf, ry.intOf, k _ _ (Same.refl H) (h _ _ _ _)⟩
  · cases q
theorem DOp2.intC {g : Int → Int → V} {f : Int → Int → D} {C : Int → Int → Prop} {c : Int → Int → Bool} (hc : ∀ i j, c i j = true → C i j) (h : ∀ i j F H, c i j = true → Rep K F H (g i j) (f i j)) : DOp2 K (rI C g) (fun d e => match d, e with
    | .int i, .int j => if c i j = true then some (f i j) else none
    | _, _ => none) := fun F0 F H x y d e z Q dm rx ry q k => by
  dsimp only at q
  split at q
  · split at q
    · rename_i hcc
      cases q
      exact ⟨_, _, rx.intOf, ry.intOf, hc _ _ hcc, k _ _ (Same.refl H) (h _ _ _ _ hcc)⟩
    · cases q
  · cases q
def mulOk (i j : Int) : Bool := decide (i.natAbs.log2 + j.natAbs.log2 < 1000000)
def divOk (_ j : Int) : Bool := decide (j ≠ 0 ∧ j.natAbs.log2 < 9000)
def modOk (_ j : Int) : Bool := decide (j ≠ 0)
def powOk (i j : Int) : Bool := decide (0 ≤ j ∧ j ≤ 1000000 ∧ i.natAbs < 2 ^ 64)
def dSub : D → D → Option D := fun d e => match d, e with
  | .int i, .int j => some (.int (i - j))
  | _, _ => none
def dMulI : D → D → Option D := fun d e => match d, e with
  | .int i, .int j => if mulOk i j = true then some (.int (i * j)) else none
  | _, _ => none
def dDiv : D → D → Option D := fun d e => match d, e with
  | .int i, .int j => if divOk i j = true then some (.int (i.fdiv j)) else none
  | _, _ => none
def dMod : D → D → Option D := fun d e => match d, e with
  | .int i, .int j => if modOk i j = true then some (.int (i.fmod j)) else none
  | _, _ => none
def dPow : D → D → Option D := fun d e => match d, e with
  | .int i, .int j => if powOk i j = true then some (.int (i ^ j.toNat)) else none
  | _, _ => none
theorem o_sub : DOp2 K (rI0 fun i j => .int (i - j)) dSub := DOp2.int0 fun _ _ _ _ => .int _
theorem o_mul : DOp2 K (rI CMulW fun i j => .int (i * j)) dMulI := DOp2.intC (fun i j h => (of_decide_eq_true h : i.natAbs.log2 + j.natAbs.log2 < 1000000)) fun _ _ _ _ _ => .int _
def CDivB (_ j : Int) : Prop := j ≠ 0 ∧ j.natAbs.log2 < 9000
theorem op_fdivB : OpR X (binaryOp .FloorDiv) (rI CDivB fun i j => .int (i.fdiv j)) := opI fun i j _ _ _ _ _ hc q => floordiv_int hc.1 q (.inl (PyProof.noPylong_of_log2 hc.2))
theorem o_div : DOp2 K (rI CDivB fun i j => .int (i.fdiv j)) dDiv := DOp2.intC (fun i j h => (of_decide_eq_true h : j ≠ 0 ∧ j.natAbs.log2 < 9000)) fun _ _ _ _ _ => .int _
theorem o_mod : DOp2 K (rI (fun _ j => j ≠ 0) fun i j => .int (i.fmod j)) dMod := DOp2.intC (fun i j h => of_decide_eq_true h) fun _ _ _ _ _ => .int _
theorem o_pow : DOp2 K (rI CPow fun i j => .int (i ^ j.toNat)) dPow := DOp2.intC (fun i j h => (of_decide_eq_true h : 0 ≤ j ∧ j ≤ 1000000 ∧ i.natAbs < 2 ^ 64)) fun _ _ _ _ _ => .int _
def dLt : D → D → Option D := fun d e => match d, e with
  | .int i, .int j => some (.bl (decide (i < j)))
  | _, _ => none
def dLe : D → D → Option D := fun d e => match d, e with
  | .int i, .int j => some (.bl (decide (i ≤ j)))
  | _, _ => none
def dGt : D → D → Option D := fun d e => match d, e with
  | .int i, .int j => some (.bl (decide (j < i)))
  | _, _ => none
def dGe : D → D → Option D := fun d e => match d, e with
  | .int i, .int j => some (.bl (decide (j ≤ i)))
  | _, _ => none
theorem o_lt : DOp2 K (rI0 fun i j => .bl (decide (i < j))) dLt := DOp2.int0 fun _ _ _ _ => .bl _
theorem o_le : DOp2 K (rI0 fun i j => .bl (decide (i ≤ j))) dLe := DOp2.int0 fun _ _ _ _ => .bl _
theorem o_gt : DOp2 K (rI0 fun i j => .bl (decide (j < i))) dGt := DOp2.int0 fun _ _ _ _ => .bl _
theorem o_ge : DOp2 K (rI0 fun i j => .bl (decide (j ≤ i))) dGe := DOp2.int0 fun _ _ _ _ => .bl _
def lim2 (n : Nat) : Bool := decide (n ≤ 16777216)
def dAdd : D → D → Option D := fun d e => match d, e with
  | .int i, .int j => some (.int (i + j))
  | .str x, .str y => if lim2 (x.length + y.length) = true then some (.str (x ++ y)) else none
  | .lst xs, .lst ys => if lim2 (xs.length + ys.length) = true then some (.lst (xs ++ ys)) else none
  | .tup xs, .tup ys => if lim2 (xs.length + ys.length) = true then some (.tup (xs ++ ys)) else none
  | _, _ => none
theorem lim2_le {n : Nat} (h : lim2 n = true) : n ≤ sizeLine := of_decide_eq_true h
theorem Inv.lstR {pins : List (Addr × Obj)} {σ : L2.St} {H : Hp} {s : Shared} {l : Addr} {xs : List V} (I : Inv X pins σ H s) (hH : LsR X.K H l xs) : xs.length ≤ sizeLine ∧ ∃ (its : List Value) (n : Nat), Vals xs its ∧ xs.length = its.length ∧ s.heap.get? l = some { cls := .type "list", data := .seq its.toArray n } := by
  obtain ⟨z, its, n, r, e⟩ := hH.ok I.hok
  exact ⟨z, its, n, r, r.length, e⟩
def rCatL (K : Fg) : R2 := fun x y H Q => ∃ l b xs zs, x = .ref l ∧ y = .ref b ∧ LsR K H l xs ∧ LsR K H b zs ∧ xs.length + zs.length ≤ sizeLine ∧ ∀ p, H p = none → Q (.ref p) (upd H p (.lst (xs ++ zs)))
theorem op_catL : OpR X (binaryOp .Add) (rCatL X.K) := by
  intro pins s σ H x y v u Q I rx ry h
  obtain ⟨l, b, xs, zs, rfl, rfl, hH, hB, hz, q⟩ := h
  cases rx
  cases ry
  obtain ⟨z, its, n, r, hl, e⟩ := Inv.lstR I hH
  obtain ⟨z2, its2, n2, r2, hl2, e2⟩ := Inv.lstR I hB
  refine PySem.P.add_list e e2 ?_ (by rw [List.size_toArray, List.size_toArray]; omega)
  have ea : its.toArray ++ its2.toArray = (its ++ its2).toArray := by simp
  rw [ea]
  exact ⟨.ref _, _, I.lnew (t' := s.toks) (r.append r2) (by rw [List.length_append]; omega), rfl, q _ I.fresh⟩
def rAdd4 (K : Fg) : R2 := fun x y H Q => rI0 (fun i j => V.int (i + j)) x y H Q ∨ (fun x y H Q => (∃ i j, x = .str i ∧ y = .str j ∧ i.length + j.length ≤ sizeLine ∧ Q (.str (i ++ j)) H) ∨ (fun x y H Q => rCatL K x y H Q ∨ rCatA K x y H Q) x y H Q) x y H Q
theorem op_add4 : OpR X (binaryOp .Add) (rAdd4 X.K) := op_add.or (op_add_str.or (op_catL.or op_catA))
theorem o_add : DOp2 K (rAdd4 K) dAdd := fun F0 F H x y d e z Q dm rx ry q k => by
  unfold dAdd at q
  split at q
  · cases q
    exact .inl ⟨_, _, rx.intOf, ry.intOf, k _ _ (Same.refl H) (.int _)⟩
  · split at q
    · rename_i hl
      cases q
      exact .inr (.inl ⟨_, _, rx.strOf, ry.strOf, lim2_le hl, k _ _ (Same.refl H) (.str _)⟩)
    · cases q
  · split at q
    · rename_i hl
      cases q
      obtain ⟨a, vs, rfl, h1, r1⟩ := rx.lstOf
      obtain ⟨b, ws, rfl, h2, r2⟩ := ry.lstOf
      exact .inr (.inr (.inl ⟨a, b, vs, ws, rfl, rfl, h1, h2, by rw [r1.length, r2.length]; exact lim2_le hl, fun p np => k _ _ (same_upd np) (Rep.newLst (r1.append r2) dm np)⟩))
    · cases q
  · split at q
    · rename_i hl
      cases q
      obtain ⟨a, vs, rfl, h1, r1⟩ := rx.tupOf
      obtain ⟨b, ws, rfl, h2, r2⟩ := ry.tupOf
      refine .inr (.inr (.inr ⟨a, b, vs, ws, rfl, rfl, h1.sq, h2.sq, by rw [r1.length, r2.length]; exact lim2_le hl, fun e => ?_, fun _ e => ?_, fun _ _ p np => k _ _ (same_upd np) (Rep.newTup (r1.append r2) dm np)⟩))
      · subst e
        cases r1
        exact k _ _ (Same.refl H) (.tup h2 r2)
      · subst e
        cases r2
        rw [List.append_nil] at k
        exact k _ _ (Same.refl H) (.tup h1 r1)
    · cases q
  · cases q
def dIx : D → D → Option D := fun d e => match d, e with
  | .lst ds, .int i => atI ds i
  | .tup ds, .int i => atI ds i
  | .scr ns, .int i => (atI ns i).map .int
  | .str z, .int i => if lim2 z.length = true then (atI z.cps.toList i).map fun c => .str ⟨#[c]⟩ else none
  | _, _ => none
theorem Reps.atI {F : Fp} {H : Hp} {vs : List V} {ds : List D} {i : Int} {d : D} (r : Reps K F H vs ds) (h : L2.atI ds i = some d) : ∃ v, L2.atI vs i = some v ∧ Rep K F H v d := by
  unfold L2.atI at h ⊢
  rw [r.length]
  cases e : ixN ds.length i with
  | none => rw [e] at h; cases h
  | some j =>
    rw [e] at h
    exact r.get h
theorem o_ix : DOp2 K (rIx K) dIx := fun F0 F H x y d e z Q dm rx ry q k => by
  unfold dIx at q
  split at q
  · obtain ⟨a, vs, rfl, h1, r1⟩ := rx.lstOf
    obtain ⟨v, h2, r2⟩ := r1.atI q
    exact .inl ⟨a, vs, _, v, rfl, ry.intOf, h1.sq, h2, k _ _ (Same.refl H) r2⟩
  · obtain ⟨a, vs, rfl, h1, r1⟩ := rx.tupOf
    obtain ⟨v, h2, r2⟩ := r1.atI q
    exact .inr (.inl ⟨a, vs, _, v, rfl, ry.intOf, h1.sq, h2, k _ _ (Same.refl H) r2⟩)
  · obtain ⟨a, rfl, h1⟩ := rx.scrOf
    rename_i ns i
    cases e : L2.atI ns i with
    | none => rw [e] at q; cases q
    | some n =>
      rw [e] at q
      cases q
      refine .inl ⟨a, _, _, .int n, rfl, ry.intOf, h1.sq, ?_, k _ _ (Same.refl H) (.int n)⟩
      unfold L2.atI at e ⊢
      rw [List.length_map]
      cases e2 : ixN ns.length i with
      | none => rw [e2] at e; cases e
      | some j =>
        rw [e2] at e
        have e' : ns[j]? = some n := e
        show (ns.map V.int)[j]? = some (V.int n)
        rw [List.getElem?_map, e']
        rfl
  · split at q
    · rename_i zs i hl
      cases e : atI zs.cps.toList i with
      | none => rw [e] at q; cases q
      | some c =>
        rw [e] at q
        cases q
        exact .inr (.inr ⟨_, _, c, rx.strOf, ry.intOf, lim2_le hl, e, k _ _ (Same.refl H) (.str _)⟩)
    · cases q
  · cases q
mutual
def py : D → Option PyData
  | .non => some .none
  | .bl b => some (.bool b)
  | .int i => some (.int i)
  | .str x => some (.str x)
  | .tup ds => (pys ds).map .tuple
  | .lst ds => (pys ds).map .list
  | _ => none
def pys : List D → Option (List PyData)
  | [] => some []
  | d :: ds => (py d).bind fun p => (pys ds).map (p :: ·)
end
mutual
theorem dp_of {F0 F : Fp} {H : Hp} : ∀ {d : D} {v : V} {p : PyData}, Rep K F H v d → py d = some p → Dp K H v p
  | .non, _, _, .non, e => by unfold py at e; cases e; exact .non
  | .bl b, _, _, .bl _, e => by unfold py at e; cases e; exact .bl b
  | .int b, _, _, .int _, e => by unfold py at e; cases e; exact .int b
  | .str b, _, _, .str _, e => by unfold py at e; cases e; exact .str b
  | .tup ds, _, _, .tup h r, e => by
    unfold py at e
    cases q : pys ds with
    | none => rw [q] at e; cases e
    | some ps => rw [q] at e; cases e; exact .tup h.sq (dps_of (F0 := F0) r q)
  | .lst ds, _, _, .lst h r, e => by
    unfold py at e
    cases q : pys ds with
    | none => rw [q] at e; cases e
    | some ps => rw [q] at e; cases e; exact .lst h.sq (dps_of (F0 := F0) r q)
theorem dps_of {F0 F : Fp} {H : Hp} : ∀ {ds : List D} {vs : List V} {ps : List PyData}, Reps K F H vs ds → pys ds = some ps → DpAll K H vs ps
  | [], _, _, .nil, e => by unfold pys at e; cases e; exact .nil
  | d :: ds, _, _, .cons r t, e => by
    unfold pys at e
    cases q : py d with
    | none => rw [q] at e; cases e
    | some p =>
      rw [q] at e
      cases q2 : pys ds with
      | none =>
        have e' : (pys ds).map (p :: ·) = some _ := e
        rw [q2] at e'
        cases e'
      | some ps =>
        have e' : (pys ds).map (p :: ·) = some _ := e
        rw [q2] at e'
        cases e'
        exact .cons (dp_of (F0 := F0) r q) (dps_of (F0 := F0) t q2)
end
theorem RepW.dp {F0 F : Fp} {H : Hp} {d : D} {v : V} {p : PyData} (r : RepW K F0 F H v d) (e : py d = some p) : Dp K H v p := by
  cases r with
  | of r => exact dp_of (F0 := F0) r e
  | dct n h r => unfold py at e; cases e
  | lst h r =>
    unfold py at e
    rename_i a vs ds
    cases q : pys ds with
    | none => rw [q] at e; cases e
    | some ps => rw [q] at e; cases e; exact .lst h.sq (dps_of (F0 := F0) r q)
def eqD (d e : D) : Option Bool := match py d, py e with
  | some p, some q => if SeqAt.shaped p = true ∧ SeqAt.shaped q = true then some (PyData.eqv p q) else none
  | _, _ => none
def dEq : D → D → Option D := fun d e => (eqD d e).map .bl
def dNe : D → D → Option D := fun d e => (eqD d e).map fun b => .bl (!b)
theorem eqD_of {d e : D} {b : Bool} (h : eqD d e = some b) : ∃ p q, py d = some p ∧ py e = some q ∧ SeqAt.shaped p = true ∧ SeqAt.shaped q = true ∧ b = PyData.eqv p q := by
  unfold eqD at h
  split at h
  · rename_i p q h1 h2
    split at h
    · rename_i hs
      cases h
      exact ⟨p, q, h1, h2, hs.1, hs.2, rfl⟩
    · cases h
  · cases h
theorem o_eq : DOp2 K (rEqD K) dEq := fun F0 F H x y d e z Q dm rx ry q k => by
  unfold dEq at q
  cases h : eqD d e with
  | none => rw [h] at q; cases q
  | some b =>
    rw [h] at q
    cases q
    obtain ⟨p, p2, h1, h2, h3, h4, rfl⟩ := eqD_of h
    exact ⟨p, p2, rx.dp h1, ry.dp h2, h3, h4, k _ _ (Same.refl H) (.bl _)⟩
theorem o_ne : DOp2 K (rNeD K) dNe := fun F0 F H x y d e z Q dm rx ry q k => by
  unfold dNe at q
  cases h : eqD d e with
  | none => rw [h] at q; cases q
  | some b =>
    rw [h] at q
    cases q
    obtain ⟨p, p2, h1, h2, h3, h4, rfl⟩ := eqD_of h
    exact ⟨p, p2, rx.dp h1, ry.dp h2, h3, h4, k _ _ (Same.refl H) (.bl _)⟩
def dNeg : D → Option D
  | .int i => some (.int (-i))
  | _ => none
theorem o_neg : DOp1 K (rU fun i => .int (-i)) dNeg := fun F0 F H x d z Q dm rx q k => by
  unfold dNeg at q
  split at q
  · cases q
    exact ⟨_, rx.intOf, k _ _ (Same.refl H) (.int _)⟩
  · cases q
def fAbs : List D → Option D
  | [.int i] => some (.int (if i < 0 then -i else i))
  | _ => none
theorem c_abs : DCall K (fun xs H Q => ∃ i, xs = [.int i] ∧ Q (.int (if i < 0 then -i else i)) H) fAbs := fun F0 F H xs ds z Q dm r q k => by
  unfold fAbs at q
  split at q
  · cases q
    obtain ⟨v, rfl, r1⟩ := r.one
    exact ⟨_, by rw [r1.intOf], k _ _ (Same.refl H) (.int _)⟩
  · cases q
def fLen : List D → Option D
  | [.lst xs] => some (.int (xs.length : Nat))
  | [.tup xs] => some (.int (xs.length : Nat))
  | [.scr xs] => some (.int (xs.length : Nat))
  | [.str x] => if lim2 x.length = true then some (.int (x.length : Nat)) else none
  | _ => none
def rLen3 (K : Fg) : List V → Hp → VK → Prop := fun xs H Q => (∃ p ys, xs = [.ref p] ∧ (SqL K H p ys ∨ SqT K H p ys) ∧ Q (.int ys.length) H) ∨ ∃ z, xs = [.str z] ∧ z.length ≤ sizeLine ∧ Q (.int z.length) H
theorem call_len3 : CallR X (.builtin "len") (rLen3 X.K) := call_len_seq.or call_len_str
theorem c_len : DCall K (rLen3 K) fLen := fun F0 F H xs ds z Q dm r q k => by
  unfold fLen at q
  split at q
  · cases q
    obtain ⟨v, rfl, r0⟩ := r.one
    obtain ⟨a, vs, rfl, h1, r1⟩ := r0.lstOf
    exact .inl ⟨a, vs, rfl, .inl h1.sq, k _ _ (Same.refl H) (by rw [r1.length]; exact .int _)⟩
  · cases q
    obtain ⟨v, rfl, r0⟩ := r.one
    obtain ⟨a, vs, rfl, h1, r1⟩ := r0.tupOf
    exact .inl ⟨a, vs, rfl, .inr h1.sq, k _ _ (Same.refl H) (by rw [r1.length]; exact .int _)⟩
  · cases q
    obtain ⟨v, rfl, r0⟩ := r.one
    obtain ⟨a, rfl, h1⟩ := r0.scrOf
    exact .inl ⟨a, _, rfl, .inl h1.sq, k _ _ (Same.refl H) (by rw [List.length_map]; exact .int _)⟩
  · split at q
    · rename_i hl
      cases q
      obtain ⟨v, rfl, r1⟩ := r.one
      exact .inr ⟨_, by rw [r1.strOf], lim2_le hl, k _ _ (Same.refl H) (.int _)⟩
    · cases q
  · cases q
def keyOf : D → Option Key
  | .int i => some (.inl i)
  | .str x => some (.inr x)
  | _ => none
theorem keyOf_keyD (k : Key) : keyOf (keyD k) = some k := by cases k <;> rfl
theorem all_keyD (kvs : List (Key × V)) : ((kvs.map fun p => keyD p.1).all fun k => (keyOf k).isSome) = true := by
  rw [List.all_map, List.all_eq_true]
  intro p _
  show (keyOf (keyD p.1)).isSome = true
  rw [keyOf_keyD]; rfl
theorem not_all_tup {es : List EX} (h : es ≠ []) : ((es.map fun p => D.tup (p.1.map D.int)).all fun k => (keyOf k).isSome) ≠ true := by
  cases es with
  | nil => exact absurd rfl h
  | cons p es => simp [keyOf]
def tyN : D → Option String
  | .non => some "NoneType"
  | .bl _ => some "bool"
  | .int _ => some "int"
  | .str _ => some "str"
  | .tup _ => some "tuple"
  | .lst _ => some "list"
  | .dct ks _ => if (ks.all fun k => (keyOf k).isSome) = true then some "dict" else none
  | _ => none
theorem tyX_of {F0 F : Fp} {H : Hp} {v : V} {d : D} {n : String} (r : RepW K F0 F H v d) (h : tyN d = some n) : TyX K H v (.type n) := by
  have lst : ∀ {a : Addr} {vs : List V}, LsR K H a vs → TyX K H (.ref a) (.type "list") := fun {a vs} h => by
    rcases h with h | ⟨o, h⟩
    · exact .base (.lst h)
    · exact .base (.frz h)
  cases r with
  | lst q r => unfold tyN at h; cases h; exact lst q.ls
  | dct n q r =>
    unfold tyN at h
    cases r with
    | k r => dsimp only at h; rw [if_pos (all_keyD _)] at h; cases h; exact .base (.dK q)
    | x ne ox kt r => dsimp only at h; rw [if_neg (not_all_tup ne)] at h; cases h
  | of r =>
    cases r with
    | non => cases h; exact .base .non
    | bl => cases h; exact .base (.bl _)
    | int => cases h; exact .base (.int _)
    | str => cases h; exact .base (.str _)
    | tup q r =>
      cases h
      rcases q with ⟨_, q | ⟨o, q⟩⟩ | ⟨o, its, n, q, q2, _⟩
      · exact .base (.tup q)
      · exact .fTuple q
      · exact .kTuple q q2
    | lst q r => cases h; exact lst q.ls
    | dK n q r => unfold tyN at h; dsimp only at h; rw [if_pos (all_keyD _)] at h; cases h; exact .base (.dK q)
    | dX n ne q ox kt r => unfold tyN at h; dsimp only at h; rw [if_neg (not_all_tup ne)] at h; cases h
    | _ => cases h
def kitN (a b : String) : Option Bool :=
  if (["NoneType", "bool", "int", "str", "tuple", "list", "dict"].contains a && ["int", "bool", "tuple", "list", "str", "dict"].contains b) = true then some (a == b || (a == "bool" && b == "int")) else none
theorem kitN_ok {a b : String} {r : Bool} (h : kitN a b = some r) : kitB a b = some r := by
  unfold kitN at h
  split at h
  · rename_i hc
    have e : (a == b || (a == "bool" && b == "int")) = r := Option.some.inj h
    subst e
    rw [Bool.and_eq_true, List.contains_iff_mem, List.contains_iff_mem] at hc
    obtain ⟨h1, h2⟩ := hc
    simp only [List.mem_cons, List.not_mem_nil, or_false] at h1 h2
    rcases h1 with rfl | rfl | rfl | rfl | rfl | rfl | rfl <;> rcases h2 with rfl | rfl | rfl | rfl | rfl | rfl <;> decide +kernel
  · cases h
def isi (d : D) (n : String) : Option Bool := (tyN d).bind fun a => kitN a n
def fIsi : List D → Option D
  | [d, .ty n] => (isi d n).map .bl
  | _ => none
theorem isi_of {F0 F : Fp} {H : Hp} {v : V} {d : D} {n : String} {b : Bool} (r : RepW K F0 F H v d) (h : isi d n = some b) : ∃ t, TyX K H v t ∧ PySem.W.kitOne K t (.type n) = some b := by
  unfold isi at h
  cases e : tyN d with
  | none => rw [e] at h; cases h
  | some a =>
    rw [e] at h
    exact ⟨_, tyX_of r e, kit_ty (kitN_ok h)⟩
theorem c_isi : DCall K (rIsi K) fIsi := fun F0 F H xs ds z Q dm r q k => by
  unfold fIsi at q
  split at q
  · rename_i d n
    obtain ⟨v, w, rfl, r1, r2⟩ := r.two
    cases e : isi d n with
    | none => rw [e] at q; cases q
    | some b =>
      rw [e] at q
      cases q
      obtain ⟨t, h1, h2⟩ := isi_of r1 e
      cases r2 with
      | of r2 =>
        cases r2
        exact ⟨v, _, t, _, b, rfl, .ty n, h1, h2, k _ _ (Same.refl H) (.bl _)⟩
  · cases q
def strOf (i : Int) : Str := toString i
def cutD (xs : List D) (lo hi : Option Int) : List D := (xs.drop (HT.sIx xs.length 0 lo)).take (HT.sIx xs.length xs.length hi - HT.sIx xs.length 0 lo)
theorem Reps.cut {F : Fp} {H : Hp} {vs : List V} {ds : List D} (r : Reps K F H vs ds) (lo hi : Option Int) : Reps K F H (cutV vs lo hi) (cutD ds lo hi) := by
  unfold cutV cutD
  rw [r.length]
  exact (r.drop _).take _
end
end MM

namespace MM
open PySem PySem.Spec PyProof.Rows L2
section
variable {X : Cx} {W : WX} {τ : Type} [Sto τ] {K : Fg}
def truth : D → Option Bool
  | .non => some false
  | .bl b => some b
  | .int i => some (i != 0)
  | .str x => if lim2 x.length = true then some ((x.length : Int) != 0) else none
  | .lst xs => some (!xs.isEmpty)
  | .tup xs => some (!xs.isEmpty)
  | _ => none
theorem Reps.isEmpty {F : Fp} {H : Hp} {vs : List V} {ds : List D} (r : Reps K F H vs ds) : vs.isEmpty = ds.isEmpty := by cases r <;> rfl
theorem RepW.truV {F0 F : Fp} {H : Hp} {v : V} {d : D} {b : Bool} (r : RepW K F0 F H v d) (h : truth d = some b) : TruV K v H b := by
  cases d <;> first
    | (cases h; done)
    | skip
  · cases h; rw [r.nonOf]; exact rfl
  · cases h; rw [r.blOf]; exact rfl
  · cases h; rw [r.intOf]; exact rfl
  · rw [r.strOf]
    rename_i z
    have h' : (if lim2 z.length = true then some ((z.length : Int) != 0) else none) = some b := h
    split at h'
    · rename_i hl
      cases h'
      exact ⟨lim2_le hl, rfl⟩
    · cases h'
  · cases h
    obtain ⟨a, vs, rfl, q, rs⟩ := r.tupOf
    exact .inr (.inl ⟨vs, q.sq, by rw [rs.isEmpty]⟩)
  · cases h
    obtain ⟨a, vs, rfl, q, rs⟩ := r.lstOf
    exact .inl ⟨vs, q.sq, by rw [rs.isEmpty]⟩
theorem mt_truth {e : Expr} {m : ME τ D} (h : PE X e (tW X.K W m)) (he : ∀ whole, isTrue e X.env whole = (do let v ← whole; standAt e.pos; holding [v] (truthy v)) := by intro _; rfl) : PT X e (tT X.K W (e1 truth m)) :=
  PT.imp (pt_truth h he) fun σ H Q ⟨C, ρ, t, A, p⟩ => by
    refine use okB A p fun d t1 v H1 e1 s1 A1 r1 p1 => ?_
    cases e : truth d with
    | none => rw [e] at p1; exact p1.elim
    | some b =>
      rw [e] at p1
      exact ⟨b, RepW.truV r1 e, p1 _ H1 (Sm.refl _ _) A1.st rfl⟩
def oNone : ME τ (Option Int) := fun _ t => .ok none t
def oSome (m : ME τ D) : ME τ (Option Int) := e1 (fun d => match d with
  | .int i => some (some i)
  | _ => none) m
def rO : Rel (Option Int) (Option Int) := fun _ _ _ _ _ _ v d => v = d
theorem okO : RelOk rO := ⟨fun _ _ _ _ _ _ _ _ _ _ h => h⟩
abbrev tO (K : Fg) (W : WX) (m : ME τ (Option Int)) : TO := tG rO K W m
theorem mo_none : PO X none (tO X.K W (oNone (τ := τ))) := ⟨fun pins s σ H Q I ⟨C, ρ, t, A, p⟩ => po_none.run pins s σ H Q I (p none H (Sm.refl _ _) A.st rfl)⟩
theorem mo_some {e : Expr} {m : ME τ D} (h : PE X e (tE X.K W m)) : PO X (some e) (tO X.K W (oSome m)) := ⟨fun pins s σ H Q I ⟨C, ρ, t, A, p⟩ => (po_some h).run pins s σ H Q I (by
  refine use okO A p fun d t1 v H1 e1 s1 A1 r1 p1 => ?_
  cases d <;> first
    | exact p1.elim
    | (cases r1; exact ⟨_, rfl, p1 _ H1 (Sm.refl _ _) A1.st rfl⟩))⟩
def e3 {α β γ δ : Type} (f : α → β → γ → Option δ) (a : ME τ α) (b : ME τ β) (c : ME τ γ) : ME τ δ := fun ρ t => (a ρ t).bind fun d t => (b ρ t).bind fun e t => (c ρ t).bind fun g t => opt (f d e g) t
theorem new_fin {C : SC τ} {ρ : Rho} {t : τ} {σ : St} {H : Hp} {vs : List V} {ds : List D} {Q : VK} (A : At K C ρ t σ H) (r : Reps K (Fo C.F ρ σ) H vs ds) (p : Post rF K W C (Fo C.F ρ σ) σ H (.ok ds t) Q) : ∀ a, H a = none → Q (.ref a) (upd H a (.lst vs)) := fun a na => by
  have sp : Stp (Fo C.F ρ σ) H (fun b => Fo C.F ρ σ b ∨ b = a) (upd H a (.lst vs)) := ⟨fun b o _ e => same_upd na b o e, fun b h => h.elim .inl fun e => .inr (by rw [e]; exact na)⟩
  exact p _ _ (Sm.of_same (same_upd na)) (C.less (C.stay A.st (same_upd na)) fun _ => id) ⟨a, vs, rfl, fun z => A.dom a z na, na, upd_same, Reps.step sp r, C.step _ _ _ _ _ A.st (fun b o _ e => same_upd na b o e) sp⟩
def fTup : List D → Option D
  | [.lst ds] => some (.tup ds)
  | [.tup ds] => some (.tup ds)
  | _ => none
theorem c_tup : DCall K (fun xs H Q => ∃ p ys, xs = [.ref p] ∧ ((SqL K H p ys ∧ ∀ l, H l = none → Q (.ref l) (upd H l (.tup ys))) ∨ (SqT K H p ys ∧ Q (.ref p) H))) fTup := fun F0 F H xs ds z Q dm r q k => by
  unfold fTup at q
  split at q
  · cases q
    obtain ⟨v, rfl, r0⟩ := r.one
    obtain ⟨a, vs, rfl, h1, r1⟩ := r0.lstOf
    exact ⟨a, vs, rfl, .inl ⟨h1.sq, fun l nl => k _ _ (same_upd nl) (Rep.newTup r1 dm nl)⟩⟩
  · cases q
    obtain ⟨v, rfl, r0⟩ := r.one
    obtain ⟨a, vs, rfl, h1, r1⟩ := r0.tupOf
    exact ⟨a, vs, rfl, .inr ⟨h1.sq, k _ _ (Same.refl H) (.tup h1 r1)⟩⟩
  · cases q
def fLst : List D → Option (List D)
  | [.lst ds] => some ds
  | [.tup ds] => some ds
  | _ => none
theorem mf_list {x : Str} {e : Expr} {es : List Expr} {p pos : Pos} {ms : ME τ (List D)} (hg : Gl X x) (hm : X.mg x = none) (hv : bootBuiltins x = some (.type "list"))
    (ha : PA X (e :: es) (tAW X.K W ms)) (hn : x ≠ "__name__" := by decide) (hdb : (x == ("__debug__" : Str)) = false := by decide)
    (he : starEach (e :: es) X.env = (false, eval e X.env) :: starEach es X.env := by rfl) (hpl : (backTo pos (starEach es X.env)).any (·.1) = false := by rfl) :
    PE X (.Call (.Name x p) (e :: es) [] pos) (tF X.K W (MM.e1 fLst ms)) := PE.imp (pe_callTy call_list_of hg hm hv ha hn hdb he hpl) fun σ H Q ⟨C, ρ, t, A, p⟩ => by
  refine use okF A p fun ds t1 v H1 e1 s1 A1 r1 p1 => ?_
  unfold fLst at p1
  split at p1
  · obtain ⟨v, rfl, r0⟩ := RepsW.one r1
    obtain ⟨a, vs, rfl, h1, rs⟩ := r0.lstOf
    exact ⟨a, vs, rfl, .inl h1.sq, new_fin A1 rs p1⟩
  · obtain ⟨v, rfl, r0⟩ := RepsW.one r1
    obtain ⟨a, vs, rfl, h1, rs⟩ := r0.tupOf
    exact ⟨a, vs, rfl, .inr h1.sq, new_fin A1 rs p1⟩
  · exact p1.elim
theorem me_glob {x : Str} {v : V} {u : Value} {d : D} {pos : Pos} (hg : Gl X x) (hm : X.mg x = some u) (r : RelV v u) (rd : ∀ F H, Rep X.K F H v d) (hd : (x == ("__debug__" : Str)) = false := by decide) : PE X (.Name x pos) (tE X.K W (eC (τ := τ) d)) := me_c (pe_glob hg hm r hd) rd
theorem me_type {x : Str} {n : String} {pos : Pos} (hg : Gl X x) (hm : X.mg x = none) (hv : bootBuiltins x = some (.type n)) (hn : x ≠ "__name__" := by decide) (hd : (x == ("__debug__" : Str)) = false := by decide) : PE X (.Name x pos) (tE X.K W (eC (τ := τ) (.ty n))) :=
  me_c (pe_bltn (v := .ty n) hg hm hv rfl hn hd) fun _ _ => .ty n
end
theorem Def.mk' {τ : Type} [Sto τ] {P : Program} {w : World} {K : Fg} {mg : Str → Option Value} {base : Heap} {x qual : Str} {params : Arguments} {body : List Stmt} {scope : Scope} {dvs : List V} {kws : List (Str × V)} {fd : FuncData} {N ps : List Str} {k : Nat} {df : List D}
    (F : FunD K x qual params body scope dvs kws (He.ga K x) fd) (hm : mg x = some (.ref (He.ga K x))) (S : FnScope N ps scope) (mb : MS τ) (hb : ∃ ds dv, Vals dv ds ∧ Binds K fd ps ds ∧ ∀ F H, Reps K F H dv df)
    (hbody : ∀ (cdv : Value) (A : Around) (outer : List Env) (s : Shared) (H : Hp) (E : XK), Room k (A.deeper (envOfC qual scope s.heap.objs.size (He.ga K x) cdv)) →
      PSs (cxOf (L2.CX P w) P w K mg base N qual scope (He.ga K x) cdv A outer s H E) body (tS K (fun cls d _ H => E cls d H) mb)) : Def P w K mg base (k + 1) x ps.length df (runB N.length mb) := by
  obtain ⟨ds, dv, h1, h2, h3⟩ := hb
  exact ⟨fd, ps, ds, dv, fn_mk F S mb hbody, hm, F.kp, h2, h1, h3⟩
theorem Def.mono {τ : Type} [Sto τ] {P : Program} {w : World} {K : Fg} {mg : Str → Option Value} {base : Heap} {j k : Nat} {x : Str} {np : Nat} {df : List D} {m : List D → τ → Res τ D} (F : Def P w K mg base j x np df m) (h : j ≤ k) : Def P w K mg base k x np df m := by
  obtain ⟨fd, ps, ds, dv, F, r⟩ := F.ex
  exact ⟨fd, ps, ds, dv, F.mono h, r⟩
end MM

namespace MM
open PySem PySem.Spec PyProof.Rows L2
def Glc (K : Fg) (mg : Str → Option Value) (x : Str) (d : D) : Prop := ∃ v u, mg x = some u ∧ RelV v u ∧ ∀ F H, Rep K F H v d
section
variable {X : Cx} {W : WX} {τ : Type} [Sto τ] {K : Fg}
theorem me_g {x : Str} {d : D} {pos : Pos} (g : Glc X.K X.mg x d) (hg : Gl X x) (hd : (x == ("__debug__" : Str)) = false := by decide) : PE X (.Name x pos) (tE X.K W (eC (τ := τ) d)) := by
  obtain ⟨v, u, h1, h2, h3⟩ := g
  exact me_glob hg h1 h2 h3 hd
end
structure ExcF (K : Fg) (mg : Str → Option Value) (n : Str) : Prop where
  x : PySem.W.excIn K (He.ga K n) He.veBase "ValueError.__new__" = true
  g : mg n = some (.ref (He.ga K n))
  k : PySem.W.keepIn K (.ref (He.ga K n)) = true
  b : PySem.W.subIn K (.ref (He.ga K n)) (.type "BaseException") = some true
  t : PySem.W.typeIn K (.ref (He.ga K n)) = some (.type "type")
theorem tk_cx {P : Program} {w : World} {K : Fg} {mg : Str → Option Value} {base : Heap} {N : List Str} {qual : Str} {scope : Scope} {f : Addr} {cd : Value} {A : Around} {outer : List Env} {s : Shared} {H : Hp} {E : XK} :
    Takes (cxOf (L2.CX P w) P w K mg base N qual scope f cd A outer s H E) (fun cls d _ H => E cls d H) := takes_of rfl rfl rfl rfl
theorem po_cx {P : Program} {w : World} {K : Fg} {mg : Str → Option Value} {base : Heap} {N : List Str} {qual : Str} {scope : Scope} {f : Addr} {cd : Value} {A : Around} {outer : List Env} {s : Shared} {H : Hp} {E : XK} :
    PassesOwn (model (cxOf (L2.CX P w) P w K mg base N qual scope f cd A outer s H E).prog (cxOf (L2.CX P w) P w K mg base N qual scope f cd A outer s H E).w) (cxOf (L2.CX P w) P w K mg base N qual scope f cd A outer s H E).A (cxOf (L2.CX P w) P w K mg base N qual scope f cd A outer s H E).env (cxOf (L2.CX P w) P w K mg base N qual scope f cd A outer s H E).xe := PassesOwn.leaving
end MM

namespace MM
open PySem PySem.Spec PyProof.Rows L2
structure Dk where
  a : Addr
  b : Addr
  scr : D
  big : List Int
  pos : Nat
  cnt : Nat
structure DkAt (K : Fg) (F : Fp) (t : Dk) (G : Fp) (H : Hp) : Prop where
  fa : F t.a
  fb : F t.b
  ne : t.a ≠ t.b
  cells : ∃ sv, Rep K G H sv t.scr ∧ H t.a = some (.lst [sv, .ref t.b, .int (t.pos : Nat), .int (t.cnt : Nat)]) ∧ H t.b = some (.lst (t.big.map V.int))
structure DkOk (K : Fg) (C : SC Dk) : Prop where
  at_ : ∀ t G H, C.Iv t G H → DkAt K C.F t G H
  up : ∀ (t t' : Dk) (G : Fp) (H H' : Hp) (sv : V), C.Iv t G H → t'.a = t.a → t'.b = t.b → t'.scr = t.scr → H t.a = some (.lst [sv, .ref t.b, .int (t.pos : Nat), .int (t.cnt : Nat)]) → (∀ x, x ≠ t.a → x ≠ t.b → H' x = H x) →
    H' t.a = some (.lst [sv, .ref t.b, .int (t'.pos : Nat), .int (t'.cnt : Nat)]) → H' t.b = some (.lst (t'.big.map V.int)) → C.Iv t' G H'
instance : Sto Dk where
  ok := DkOk
  cmp := fun K C D0 acc nF h => {
    at_ := fun t G H i => by
      have q := h.at_ t G H i.1
      exact ⟨.inl q.fa, .inl q.fb, q.ne, q.cells⟩
    up := fun t t' G H H' sv i e1 e2 e3 ha ho h1 h2 => by
      have q := h.at_ t G H i.1
      refine ⟨h.up t t' G H H' sv i.1 e1 e2 e3 ha ho h1 h2, ?_⟩
      rw [ho D0 (fun z => nF (by rw [z]; exact q.fa)) (fun z => nF (by rw [z]; exact q.fb))]
      exact i.2 }
  ov := fun K C F H1 hF dm h => {
    at_ := fun t G H i => by
      have q := h.at_ t G H i.1
      exact ⟨hF _ q.fa, hF _ q.fb, q.ne, q.cells⟩
    up := fun t t' G H H' sv i e1 e2 e3 ha ho h1 h2 => by
      have q := h.at_ t G H i.1
      have ot : ∀ x, ¬ C.F x → H' x = H x := fun x n => ho x (fun z => n (by rw [z]; exact q.fa)) (fun z => n (by rw [z]; exact q.fb))
      refine ⟨h.up t t' G H H' sv i.1 e1 e2 e3 ha ho h1 h2, ⟨fun b o n e => ?_, i.2.1.new⟩, fun b o hb n e => ?_⟩
      · rw [ot b fun z => n (hF b z)]; exact i.2.1.keep b o n e
      · rw [ot b n]; exact i.2.2 b o hb n e }
  lend := fun K C O H1 hO dm h => {
    at_ := fun t G H i => by
      have q := h.at_ t _ H i.1
      obtain ⟨sv, r, e⟩ := q.cells
      exact ⟨q.fa, q.fb, q.ne, sv, r.anti fun _ => .inl, e⟩
    up := fun t t' G H H' sv i e1 e2 e3 ha ho h1 h2 => by
      have q := h.at_ t _ H i.1
      refine ⟨h.up t t' _ H H' sv i.1 e1 e2 e3 ha ho h1 h2, i.2.1, fun b o hb e => ?_⟩
      rw [ho b (fun z => hO b hb (by rw [z]; exact q.fa)) (fun z => hO b hb (by rw [z]; exact q.fb))]
      exact i.2.2 b o hb e }
section
variable {X : Cx} {W : WX} {K : Fg}
def isDk (i : Nat) (ρ : Rho) (t : Dk) : Bool := match ρ[i]? with
  | some (.val (.at a)) => decide (a = t.a)
  | _ => false
theorem isDk_slot {i : Nat} {ρ : Rho} {t : Dk} {C : SC Dk} {σ : St} {H : Hp} (h : isDk i ρ t = true) (A : At K C ρ t σ H) : σ[i]? = some (some (.ref t.a)) := by
  unfold isDk at h
  split at h
  · rename_i a e
    obtain ⟨v, h1, h2⟩ := A.val i _ e
    cases h2
    rw [h1, of_decide_eq_true h]
  · cases h
def eDk (i j : Nat) : ME Dk D := fun ρ t => if isDk i ρ t = true then (match j with
  | 0 => .ok t.scr t
  | 2 => .ok (.int t.pos) t
  | 3 => .ok (.int t.cnt) t
  | _ => .bad) else .bad
theorem At.dk {C : SC Dk} {ρ : Rho} {t : Dk} {σ : St} {H : Hp} (A : At K C ρ t σ H) : DkAt K C.F t (Fo C.F ρ σ) H := (show DkOk K C from A.okC).at_ _ _ _ A.st
theorem me_dk {i j : Nat} {e : Expr} (h : PE X e (tOp (rIxL X.K) (tVar i) (tC (.int (j : Nat))))) : PE X e (tE X.K W (eDk i j)) := PE.imp h fun σ H Q ⟨C, ρ, t, A, p⟩ => by
  unfold eDk at p
  split at p
  · rename_i hi
    obtain ⟨sv, hs, ha, hb⟩ := A.dk.cells
    refine ⟨_, isDk_slot hi A, ?_⟩
    split at p
    · exact ⟨t.a, _, _, sv, rfl, rfl, .inl (.inl ha), atI_nat (j := 0) rfl, p _ H (Sm.refl _ _) A.st hs⟩
    · exact ⟨t.a, _, _, _, rfl, rfl, .inl (.inl ha), atI_nat (j := 2) rfl, p _ H (Sm.refl _ _) A.st (.int _)⟩
    · exact ⟨t.a, _, _, _, rfl, rfl, .inl (.inl ha), atI_nat (j := 3) rfl, p _ H (Sm.refl _ _) A.st (.int _)⟩
    · exact p.elim
  · exact p.elim
def eDkLen (i : Nat) : ME Dk D := fun ρ t => if isDk i ρ t = true then .ok (.int (t.big.length : Nat)) t else .bad
theorem me_dkLen {i : Nat} {e : Expr} (h : PE X e (tCB (rLen3 X.K) (tCons (tOp (rIxL X.K) (tVar i) (tC (.int 1))) tNil))) : PE X e (tE X.K W (eDkLen i)) := PE.imp h fun σ H Q ⟨C, ρ, t, A, p⟩ => by
  unfold eDkLen at p
  split at p
  · rename_i hi
    obtain ⟨sv, hs, ha, hb⟩ := A.dk.cells
    refine ⟨_, isDk_slot hi A, t.a, _, _, _, rfl, rfl, .inl (.inl ha), atI_nat (j := 1) rfl, .inl ⟨t.b, _, rfl, .inl (.inl (.inl hb)), ?_⟩⟩
    rw [List.length_map]
    exact p _ H (Sm.refl _ _) A.st (.int _)
  · exact p.elim
def eDkAt (i : Nat) : ME Dk D := fun ρ t => if isDk i ρ t = true then (match t.big[t.pos]? with
  | some c => .ok (.int c) t
  | none => .bad) else .bad
theorem me_dkAt {i : Nat} {e : Expr} (h : PE X e (tOp (rIxL X.K) (tOp (rIxL X.K) (tVar i) (tC (.int 1))) (tOp (rIxL X.K) (tVar i) (tC (.int 2))))) : PE X e (tE X.K W (eDkAt i)) := PE.imp h fun σ H Q ⟨C, ρ, t, A, p⟩ => by
  unfold eDkAt at p
  split at p
  · rename_i hi
    split at p
    · rename_i c hc
      obtain ⟨sv, hs, ha, hb⟩ := A.dk.cells
      have si := isDk_slot hi A
      refine ⟨_, si, t.a, _, _, _, rfl, rfl, .inl (.inl ha), atI_nat (j := 1) rfl, _, si, t.a, _, _, _, rfl, rfl, .inl (.inl ha), atI_nat (j := 2) rfl, t.b, _, _, _, rfl, rfl, .inl (.inl hb), atI_nat (v := V.int c) ?_, p _ H (Sm.refl _ _) A.st (.int _)⟩
      rw [List.getElem?_map, hc]
      rfl
    · exact p.elim
  · exact p.elim
def sDkBig (i : Nat) (m : ME Dk D) : MS Dk := sDo m fun d ρ t => match d with
  | .int c => if isDk i ρ t = true ∧ t.pos < t.big.length then .nx ρ { t with big := t.big.set t.pos c } else .bad
  | _ => .bad
theorem dk_write {C : SC Dk} {ρ : Rho} {t t' : Dk} {σ : St} {H H' : Hp} {sv : V} (A : At K C ρ t σ H) (e1 : t'.a = t.a) (e2 : t'.b = t.b) (e3 : t'.scr = t.scr) (ha : H t.a = some (.lst [sv, .ref t.b, .int (t.pos : Nat), .int (t.cnt : Nat)])) (ho : ∀ x, x ≠ t.a → x ≠ t.b → H' x = H x)
    (h1 : H' t.a = some (.lst [sv, .ref t.b, .int (t'.pos : Nat), .int (t'.cnt : Nat)])) (h2 : H' t.b = some (.lst (t'.big.map V.int))) : At K C ρ t' σ H' ∧ Sm C.F H H' := by
  have q := A.dk
  have sm : Sm C.F H H' := fun b o n e => by rw [ho b (fun z => n (by rw [z]; exact q.fa)) (fun z => n (by rw [z]; exact q.fb))]; exact e
  exact ⟨A.next sm ((show DkOk K C from A.okC).up t t' _ H H' sv A.st e1 e2 e3 ha ho h1 h2), sm⟩
theorem ms_dkBig {s : Stmt} {i : Nat} {m : ME Dk D} (h : PS X s (tAsg (tE X.K W m) (gSub (tOp (rIxL X.K) (tVar i) (tC (.int 1))) (tOp (rIxL X.K) (tVar i) (tC (.int 2))) rSetL))) : PS X s (tS X.K W (sDkBig i m)) := PS.imp h fun E σ H ⟨C, ρ, t, A, p⟩ => by
  refine useS A p fun d t1 v H1 e1 s1 A1 r1 p1 => ?_
  cases d <;> first
    | exact p1.elim
    | skip
  rename_i c
  cases r1
  dsimp only at p1
  split at p1
  · rename_i hi
    obtain ⟨sv, hs, ha, hb⟩ := A1.dk.cells
    have si := isDk_slot hi.1 A1
    have ne := A1.dk.ne
    refine ⟨_, si, t1.a, _, _, _, rfl, rfl, .inl (.inl ha), atI_nat (j := 1) rfl, _, si, t1.a, _, _, _, rfl, rfl, .inl (.inl ha), atI_nat (j := 2) rfl, t1.b, _, _, t1.pos, rfl, rfl, hb, ?_, ?_⟩
    · unfold ixN
      rw [if_pos (by omega), List.length_map, if_pos (by omega)]
      simp
    · have e : (t1.big.map V.int).set t1.pos (V.int c) = (t1.big.set t1.pos c).map V.int := by rw [List.map_set]
      rw [e]
      obtain ⟨A2, sm⟩ := dk_write (t' := { t1 with big := t1.big.set t1.pos c }) (H' := upd H1 t1.b (.lst ((t1.big.set t1.pos c).map V.int))) A1 rfl rfl rfl ha (fun x _ n => upd_ne n) (by rw [upd_ne ne]; exact ha) upd_same
      exact p1 σ _ (Stp.of_sm sm fun _ => Fo.base) A2
  · exact p1.elim
def sDkSet (i j : Nat) (m : ME Dk D) : MS Dk := sDo m fun d ρ t => match d with
  | .int c => if isDk i ρ t = true ∧ 0 ≤ c then (match j with
    | 2 => .nx ρ { t with pos := c.toNat }
    | 3 => .nx ρ { t with cnt := c.toNat }
    | _ => .bad) else .bad
  | _ => .bad
theorem ms_dkSet {s : Stmt} {i j : Nat} {m : ME Dk D} (h : PS X s (tAsg (tE X.K W m) (gSub (tVar i) (tC (.int (j : Nat))) rSetL))) : PS X s (tS X.K W (sDkSet i j m)) := PS.imp h fun E σ H ⟨C, ρ, t, A, p⟩ => by
  refine useS A p fun d t1 v H1 e1 s1 A1 r1 p1 => ?_
  cases d <;> first
    | exact p1.elim
    | skip
  rename_i c
  cases r1
  dsimp only at p1
  split at p1
  · rename_i hi
    obtain ⟨sv, hs, ha, hb⟩ := A1.dk.cells
    have si := isDk_slot hi.1 A1
    have ne := A1.dk.ne
    have ec : c = (c.toNat : Nat) := by omega
    refine ⟨_, si, ?_⟩
    split at p1
    · refine ⟨t1.a, _, _, 2, rfl, rfl, ha, rfl, ?_⟩
      obtain ⟨A2, sm⟩ := dk_write (t' := { t1 with pos := c.toNat }) (H' := upd H1 t1.a (.lst [sv, .ref t1.b, .int c, .int (t1.cnt : Nat)])) A1 rfl rfl rfl ha (fun x n _ => upd_ne n) (by rw [upd_same]; rw [← ec]) (by rw [upd_ne (Ne.symm ne)]; exact hb)
      exact p1 σ _ (Stp.of_sm sm fun _ => Fo.base) A2
    · refine ⟨t1.a, _, _, 3, rfl, rfl, ha, rfl, ?_⟩
      obtain ⟨A2, sm⟩ := dk_write (t' := { t1 with cnt := c.toNat }) (H' := upd H1 t1.a (.lst [sv, .ref t1.b, .int (t1.pos : Nat), .int c])) A1 rfl rfl rfl ha (fun x n _ => upd_ne n) (by rw [upd_same]; rw [← ec]) (by rw [upd_ne (Ne.symm ne)]; exact hb)
      exact p1 σ _ (Stp.of_sm sm fun _ => Fo.base) A2
    · exact p1.elim
  · exact p1.elim
end
end MM

namespace MM
open PySem PySem.Spec PyProof.Rows L2
section
variable {X : Cx} {W : WX} {τ : Type} [Sto τ] {K : Fg}
theorem PSs.pure {sts : List Stmt} {t : TS} {P : Prop} (h : P → PSs X sts t) : PSs X sts (fun E σ H => P ∧ t E σ H) := ⟨fun pins s σ H D I ⟨p, q⟩ => (h p).run pins s σ H D I q⟩
theorem Fo.setNo {F : Fp} {ρ : Rho} {σ : St} {i : Nat} {v : Option V} {b : Addr} (h : Fo F (ρ.set i .no) (σ.set i v) b) : Fo F ρ σ b := by
  rcases h with h | ⟨j, xs, ⟨h1, hm⟩, h2⟩
  · exact .inl h
  · rcases set_at h1 with ⟨_, e, _⟩ | ⟨ne, h1⟩
    · cases e; cases hm
    · rw [List.getElem?_set_ne ne] at h2
      exact .inr ⟨j, xs, ⟨h1, hm⟩, h2⟩
theorem At.clear {C : SC τ} {ρ : Rho} {t : τ} {σ : St} {H : Hp} (A : At K C ρ t σ H) (i : Nat) (v : Option V) : At K C (ρ.set i .no) t (σ.set i v) H where
  okC := A.okC
  st := C.less A.st fun _ => Fo.setNo
  len := by simp [A.len]
  val := fun j e h => by
    rcases set_at h with ⟨_, e1, _⟩ | ⟨ne, h⟩
    · cases e1
    · obtain ⟨w, h1, h2⟩ := A.val j e h
      exact ⟨w, by rw [List.getElem?_set_ne ne]; exact h1, h2.anti fun _ => Fo.setNo⟩
  mine := fun j xs hh => by
    obtain ⟨h, hm⟩ := hh
    rcases set_at h with ⟨_, e1, _⟩ | ⟨ne, h⟩
    · cases e1; cases hm
    · obtain ⟨a, vs, h1, h2, h3, h4⟩ := A.mine j xs ⟨h, hm⟩
      exact ⟨a, vs, by rw [List.getElem?_set_ne ne]; exact h1, h2, h3, h4.anti fun _ => Fo.setNo⟩
  dis := fun j k xs ys hh1 hh2 e => by
    obtain ⟨h1, m1⟩ := hh1
    obtain ⟨h2, m2⟩ := hh2
    rcases set_at h1 with ⟨_, e1, _⟩ | ⟨n1, h1⟩
    · cases e1; cases m1
    · rcases set_at h2 with ⟨_, e2, _⟩ | ⟨n2, h2⟩
      · cases e2; cases m2
      · rw [List.getElem?_set_ne n1, List.getElem?_set_ne n2] at e
        exact A.dis j k xs ys ⟨h1, m1⟩ ⟨h2, m2⟩ e
theorem Stp.setNo {F : Fp} {ρ : Rho} {σ : St} {i : Nat} {v : Option V} {H : Hp} : Stp (Fo F ρ σ) H (Fo F (ρ.set i .no) (σ.set i v)) H := Stp.less fun _ => Fo.setNo
end
end MM

namespace MM
open PySem PySem.Spec PyProof.Rows L2 PySem.NumText PySem.Calls
section
variable {X : Cx} {W : WX} {τ : Type} [Sto τ] {K : Fg}
def aVar (i : Nat) : Rho → Option D := fun ρ => match ρ[i]? with
  | some (.val d) => some d
  | _ => none
end
end MM

namespace MM
open PySem PySem.Spec PyProof.Rows L2
abbrev MSd := Rho → Option (D × List Int)
section
variable {X : Cx} {W : WX} {K : Fg}
def SPostD (K : Fg) (C : SC Unit) (F1 : Fp) (H : Hp) (r : Option (D × List Int)) (Q : VK) : Prop := match r with
  | some (d, big) => ∀ sv a b H', Stp F1 H (fun x => C.F x ∨ x = a ∨ x = b) H' → Rep K (fun x => C.F x ∨ x = a ∨ x = b) H' sv d → a ≠ b → H' a = some (.lst [sv, .ref b, .int 0, .int 0]) → H' b = some (.lst (big.map V.int)) → Q (.ref a) H'
  | none => False
theorem SPostD.rebase {C : SC Unit} {F1 F2 : Fp} {H H1 : Hp} {r : Option (D × List Int)} {Q : VK} (h : SPostD K C F1 H r Q) (s : Stp F1 H F2 H1) : SPostD K C F2 H1 r Q := by
  cases r with
  | none => exact h
  | some p =>
    obtain ⟨d, big⟩ := p
    exact fun sv a b H' s' r ne ha hb => h sv a b H' (s.trans s') r ne ha hb
def tSd (K : Fg) (m : MSd) : TS := fun E σ H => ∃ (C : SC Unit) (ρ : Rho), At K C ρ () σ H ∧ SPostD K C (Fo C.F ρ σ) H (m ρ) E.rt
def seqD (a : MS Unit) (b : MSd) : MSd := fun ρ => match a ρ () with
  | .nx ρ' _ => b ρ'
  | _ => none
theorem mss_consD {s : Stmt} {r : List Stmt} {a : MS Unit} {b : MSd} (h1 : PS X s (tS X.K W a)) (h2 : PSs X r (tSd X.K b)) : PSs X (s :: r) (tSd X.K (seqD a b)) := PSs.imp (pss_cons h1 h2) fun E σ H ⟨C, ρ, A, p⟩ => by
  refine ⟨C, ρ, (), A, ?_⟩
  unfold seqD at p
  cases e : a ρ () with
  | nx ρ' t' =>
    rw [e] at p
    exact fun σ' H' s' A' => ⟨C, ρ', A', SPostD.rebase p s'⟩
  | rt d t' => rw [e] at p; exact p.elim
  | bk ρ' t' => rw [e] at p; exact p.elim
  | ct ρ' t' => rw [e] at p; exact p.elim
  | ex n fs ρ' t' => rw [e] at p; exact p.elim
  | bad => rw [e] at p; exact p.elim
theorem mss_oneD {s : Stmt} {b : MSd} (h : PS X s (tSd X.K b)) : PSs X [s] (tSd X.K b) := pss_one h
def intsD : List D → Option (List Int)
  | [] => some []
  | .int i :: r => (intsD r).map (i :: ·)
  | _ => none
theorem intsD_ok {F : Fp} {H : Hp} : ∀ {vs : List V} {ds : List D} {ns : List Int}, Reps K F H vs ds → intsD ds = some ns → vs = ns.map V.int
  | _, _, ns, .nil, e => by cases e; rfl
  | _, _, ns, .cons (v := v) (vs := vs) (d := d) (ds := ds) r t, e => by
    cases d <;> first
      | (cases e; done)
      | skip
    rename_i i
    cases q : intsD ds with
    | none =>
      have e' : (intsD ds).map (i :: ·) = some ns := e
      rw [q] at e'; cases e'
    | some l =>
      have e' : (intsD ds).map (i :: ·) = some ns := e
      rw [q] at e'
      cases e'
      cases r
      rw [intsD_ok t q]
      rfl
def retD (i : Nat) (m : ME Unit (List D)) : MSd := fun ρ => match aVar i ρ, m ρ () with
  | some d, .ok ds _ => (intsD ds).map fun l => (d, l)
  | _, _ => none
theorem ms_retDk {i : Nat} {n c : Expr} {j1 j2 : Nat} {p1 p2 pos pos' : Pos} {m : ME Unit (List D)} (hn : PE X n (tVar i)) (hc : PE X c (tF X.K W m)) (h1 : starEach [n, c, .Constant (.int 0) j1 p1, .Constant (.int 0) j2 p2] X.env = (false, eval n X.env) :: starEach [c, .Constant (.int 0) j1 p1, .Constant (.int 0) j2 p2] X.env := by rfl)
    (h2 : starEach [c, .Constant (.int 0) j1 p1, .Constant (.int 0) j2 p2] X.env = (false, eval c X.env) :: starEach [.Constant (.int 0) j1 p1, .Constant (.int 0) j2 p2] X.env := by rfl) :
    PS X (.Return (some (.List [n, c, .Constant (.int 0) j1 p1, .Constant (.int 0) j2 p2] pos)) pos') (tSd X.K (retD i m)) :=
  PS.imp (ps_ret (pe_lst (pa_cons hn (pa_cons hc (pa_cons pe_int (pa_cons pe_int pa_nil))  h2) h1))) fun E σ H ⟨C, ρ, A, p⟩ => by
    unfold retD aVar at p
    split at p
    · rename_i d ds u ed em
      split at ed
      · rename_i d' hr
        cases ed
        cases el : intsD ds with
        | none => rw [el] at p; exact p.elim
        | some l =>
          rw [el] at p
          obtain ⟨v, h1, h2⟩ := A.val i _ hr
          refine ⟨v, h1, C, ρ, (), A, ?_⟩
          rw [em]
          intro y H1 sm iv r
          obtain ⟨b, vs, rfl, nb, hb0, hb1, rr, _⟩ := r
          have ev := intsD_ok rr el
          subst ev
          refine ⟨by show 4 ≤ sizeLine; decide, fun a na => ?_⟩
          have ne : a ≠ b := fun z => by rw [z, hb1] at na; cases na
          have key : ∀ x, x = a → Fo C.F ρ σ x ∨ H x = none := fun x e => by
            by_cases q : Fo C.F ρ σ x
            · exact .inl q
            · right
              cases z : H x with
              | none => rfl
              | some o =>
                have := sm x o (fun w => q (.inl w)) z
                rw [e, na] at this; cases this
          have st : Stp (Fo C.F ρ σ) H (fun x => C.F x ∨ x = a ∨ x = b) (upd H1 a (.lst [v, .ref b, .int 0, .int 0])) := ⟨fun x o n e => by
            have e1 := sm x o (fun w => n (.inl w)) e
            rw [upd_ne (fun z => by rw [z, na] at e1; cases e1)]
            exact e1, fun x h => by
            rcases h with h | h | h
            · exact .inl (.inl h)
            · exact key x h
            · rw [h]; exact .inr hb0⟩
          exact p v a b _ st (h2.step st) ne upd_same (by rw [upd_ne (Ne.symm ne)]; exact hb1)
      · cases ed
    · exact p.elim
end
def spDk (np : Nat) (K : Fg) (m : List D → Option (D × List Int)) : Sp := fun vs H Q _ => ∃ (C : SC Unit) (ds : List D), C.Iv () C.F H ∧ Reps K C.F H vs ds ∧ ds.length = np ∧ SPostD K C C.F H (m ds) Q
def runD (n : Nat) (mb : MSd) : List D → Option (D × List Int) := fun ds => mb (ds.map Slot.val ++ List.replicate (n - ds.length) .no)
theorem fn_mkD {P : Program} {w : World} {K : Fg} {mg : Str → Option Value} {base : Heap} {x qual : Str} {params : Arguments} {body : List Stmt} {scope : Scope} {dvs : List V} {kws : List (Str × V)} {f : Addr} {fd : FuncData} {N ps : List Str} {k : Nat}
    (F : FunD K x qual params body scope dvs kws f fd) (S : FnScope N ps scope) (mb : MSd)
    (hb : ∀ (cdv : Value) (A : Around) (outer : List Env) (s : Shared) (H : Hp) (E : XK), Room k (A.deeper (envOfC qual scope s.heap.objs.size f cdv)) →
      PSs (cxOf (L2.CX P w) P w K mg base N qual scope f cdv A outer s H E) body (tSd K mb)) : FnOk P w K mg base (L2.CX P w) (k + 1) f fd ps (spDk ps.length K (runD N.length mb)) := by
  have hpl : ps.length ≤ N.length := by have := congrArg List.length S.pre; rw [List.length_take] at this; omega
  refine F.ok S (fun vs H Q E ⟨C, ds, _, r, hl, _⟩ => r.length.trans hl) fun cdv A outer s H vs Q E hr ⟨C, ds, iv, r, hl, p⟩ => ⟨_, hb cdv A outer s H E hr, C, _, At.start trivial iv r (by rw [hl]; exact hpl), ?_⟩
  unfold runD at p
  exact SPostD.rebase p ⟨fun b o n e => e, fun b h => .inl (FoStart h)⟩
structure DefD (P : Program) (w : World) (K : Fg) (mg : Str → Option Value) (base : Heap) (k : Nat) (x : Str) (np : Nat) (m : List D → Option (D × List Int)) : Prop where
  ex : ∃ (fd : FuncData) (ps : List Str) (ds : List Value), FnOk P w K mg base (L2.CX P w) k (He.ga K x) fd ps (spDk np K m) ∧ mg x = some (.ref (He.ga K x)) ∧ PySem.W.keepIn K (.ref (He.ga K x)) = true ∧ Binds K fd ps ds ∧ Vals [] ds
theorem DefD.mk' {P : Program} {w : World} {K : Fg} {mg : Str → Option Value} {base : Heap} {x qual : Str} {params : Arguments} {body : List Stmt} {scope : Scope} {dvs : List V} {kws : List (Str × V)} {fd : FuncData} {N ps : List Str} {k : Nat}
    (F : FunD K x qual params body scope dvs kws (He.ga K x) fd) (hm : mg x = some (.ref (He.ga K x))) (S : FnScope N ps scope) (mb : MSd) (hb : ∃ ds, Vals [] ds ∧ Binds K fd ps ds)
    (hbody : ∀ (cdv : Value) (A : Around) (outer : List Env) (s : Shared) (H : Hp) (E : XK), Room k (A.deeper (envOfC qual scope s.heap.objs.size (He.ga K x) cdv)) →
      PSs (cxOf (L2.CX P w) P w K mg base N qual scope (He.ga K x) cdv A outer s H E) body (tSd K mb)) : DefD P w K mg base (k + 1) x ps.length (runD N.length mb) := by
  obtain ⟨ds, h1, h2⟩ := hb
  exact ⟨fd, ps, ds, fn_mkD F S mb hbody, hm, F.kp, h2, h1⟩
theorem DefD.mono {P : Program} {w : World} {K : Fg} {mg : Str → Option Value} {base : Heap} {j k : Nat} {x : Str} {np : Nat} {m : List D → Option (D × List Int)} (F : DefD P w K mg base j x np m) (h : j ≤ k) : DefD P w K mg base k x np m := by
  obtain ⟨fd, ps, ds, F, r⟩ := F.ex
  exact ⟨fd, ps, ds, F.mono h, r⟩

theorem stp_or {G G' S : Fp} {H H' : Hp} (s : Stp G H G' H') (h : ∀ b o, S b → H b = some o → H' b = some o) : Stp (fun x => G x ∨ S x) H (fun x => G' x ∨ S x) H' :=
  ⟨fun b o n e => s.keep b o (fun z => n (.inl z)) e, fun b h => h.elim (fun z => (s.new b z).elim (fun z => .inl (.inl z)) .inr) fun z => .inl (.inr z)⟩
structure DkIv (K : Fg) (a b : Addr) (t : Dk) (G : Fp) (H : Hp) : Prop where
  ea : t.a = a
  eb : t.b = b
  ne : a ≠ b
  cells : ∃ sv, Rep K (fun x => G x ∨ (x = a ∨ x = b)) H sv t.scr ∧ H a = some (.lst [sv, .ref b, .int (t.pos : Nat), .int (t.cnt : Nat)]) ∧ H b = some (.lst (t.big.map V.int))
def SC.dk (K : Fg) (a b : Addr) : SC Dk where
  F := fun x => x = a ∨ x = b
  Iv := DkIv K a b
  dom := fun t G H x h hx => by
    obtain ⟨sv, _, h2, h3⟩ := h.cells
    rcases hx with rfl | rfl
    · rw [h2]; intro z; cases z
    · rw [h3]; intro z; cases z
  step := fun t G H G' H' h1 h2 s => by
    obtain ⟨sv, r, e1, e2⟩ := h1.cells
    exact ⟨h1.ea, h1.eb, h1.ne, sv, r.step (stp_or s h2), h2 _ _ (.inl rfl) e1, h2 _ _ (.inr rfl) e2⟩
theorem dkOk (K : Fg) (a b : Addr) : DkOk K (SC.dk K a b) where
  at_ := fun t G H i => by
    obtain ⟨sv, r, e1, e2⟩ := i.cells
    refine ⟨.inl i.ea, .inr i.eb, by rw [i.ea, i.eb]; exact i.ne, sv, r.anti fun _ => .inl, by rw [i.ea, i.eb]; exact e1, by rw [i.eb]; exact e2⟩
  up := fun t t' G H H' sv i ea eb es ha ho h1 h2 => by
    obtain ⟨sv', r, e1, e2⟩ := i.cells
    have esv : sv' = sv := by
      rw [i.ea, e1] at ha
      injection ha with ha
      injection ha with ha
      injection ha with ha
    subst esv
    rw [i.ea] at h1 ho
    rw [i.eb] at h1 h2 ho
    refine ⟨by rw [ea]; exact i.ea, by rw [eb]; exact i.eb, i.ne, sv', ?_, h1, h2⟩
    rw [es]
    exact r.same fun x o n e => by rw [ho x (fun z => n (.inr (.inl z))) (fun z => n (.inr (.inr z)))]; exact e
theorem At.toDk {K : Fg} {C : SC Unit} {ρ : Rho} {σ : St} {H H' : Hp} {sv : V} {a b : Addr} {i : Nat} {d : D} {big : List Int} (A : At K C ρ () σ H) (hF : ∀ x, ¬ C.F x) (hno : ∀ (j : Nat) (x : Slot), ¬ (ρ[j]? = some x ∧ x.mine = true))
    (s : Stp (Fo C.F ρ σ) H (fun x => C.F x ∨ x = a ∨ x = b) H') (r : Rep K (fun x => C.F x ∨ x = a ∨ x = b) H' sv d) (ne : a ≠ b) (ha : H' a = some (.lst [sv, .ref b, .int 0, .int 0])) (hb : H' b = some (.lst (big.map V.int))) :
    At K (SC.dk K a b) (ρ.set i (.val (.at a))) ⟨a, b, d, big, 0, 0⟩ (σ.set i (some (.ref a))) H' := by
  have hno' : ∀ (j : Nat) (x : Slot), ¬ ((ρ.set i (.val (.at a)))[j]? = some x ∧ x.mine = true) := fun j xs ⟨h, hm⟩ => by
    rcases set_at h with ⟨_, e, _⟩ | ⟨_, h⟩
    · cases e; cases hm
    · exact hno j xs ⟨h, hm⟩
  have sub : ∀ x, Fo (SC.dk K a b).F (ρ.set i (.val (.at a))) (σ.set i (some (.ref a))) x → C.F x ∨ x = a ∨ x = b := fun x h => by
    rcases h with h | ⟨j, xs, h, _⟩
    · exact .inr h
    · exact absurd h (hno' j xs)
  exact {
    okC := dkOk K a b
    st := ⟨rfl, rfl, ne, sv, r.anti fun x h => h.elim (sub x) .inr, ha, hb⟩
    len := by simp [A.len]
    val := fun j e h => by
      rcases set_at h with ⟨rfl, e1, hl⟩ | ⟨nj, h⟩
      · cases e1
        exact ⟨_, List.getElem?_set_self (by rw [A.len]; exact hl), .at a⟩
      · obtain ⟨w, h1, h2⟩ := A.val j e h
        exact ⟨w, by rw [List.getElem?_set_ne nj]; exact h1, (h2.step s).anti sub⟩
    mine := fun j xs h => absurd h (hno' j xs)
    dis := fun j k xs ys h => absurd h (hno' j xs) }
def lawIs (n : Nat) (m : List D → Option (D × List Int)) (rest : MS Dk) (ns : List Int) : Prop := ∃ d big, m [.scr ns] = some (d, big) ∧ ∀ a b, ∃ t, rest ((Slot.val (.scr ns) :: List.replicate (n - 1) .no).set 1 (.val (.at a))) ⟨a, b, d, big, 0, 0⟩ = .rt (.bl true) t
def spLaw (K : Fg) (n : Nat) (m : List D → Option (D × List Int)) (rest : MS Dk) : Sp := fun vs H Q _ => ∃ (a : Addr) (ns : List Int), vs = [.ref a] ∧ SqL K H a (ns.map V.int) ∧ lawIs n m rest ns ∧ ∀ H', Q (.bl true) H'
section
variable {P : Program} {w : World} {K : Fg} {mg : Str → Option Value} {base : Heap}
theorem start_none {n : Nat} {d : D} {j : Nat} {x : Slot} : ¬ ((Slot.val d :: List.replicate n .no)[j]? = some x ∧ x.mine = true) := by
  rintro ⟨h, hm⟩
  cases j with
  | zero => cases h; cases hm
  | succ j =>
    rw [List.getElem?_cons_succ, List.getElem?_replicate] at h
    split at h
    · cases h; cases hm
    · cases h
theorem law_fn {fd : FuncData} {N : List Str} {params : Arguments} {s0 : Stmt} {r : List Stmt} {scope : Scope} {dvs : List V} {kws : List (Str × V)} {k : Nat} {m : List D → Option (D × List Int)} {rest : MS Dk} {nd : Str}
    (F : FunD K "law" "law" params (s0 :: r) scope dvs kws (He.ga K "law") fd) (S : FnScope N ["_law_script"] scope) (hn : 2 ≤ N.length)
    (D0 : DefD P w K mg base k nd 1 m)
    (h0 : ∀ (cdv : Value) (A : Around) (outer : List Env) (s : Shared) (H : Hp) (E : XK), Room k (A.deeper (envOfC "law" scope s.heap.objs.size (He.ga K "law") cdv)) →
      PS (cxOf (L2.CX P w) P w K mg base N "law" scope (He.ga K "law") cdv A outer s H E) s0 (tAsg (tCallSD (spDk 1 K m) [] (WE fun cls d _ H => E cls d H) (tCons (tVar 0) tNil)) (gName 1)))
    (hr : ∀ (cdv : Value) (A : Around) (outer : List Env) (s : Shared) (H : Hp) (E : XK), Room k (A.deeper (envOfC "law" scope s.heap.objs.size (He.ga K "law") cdv)) →
      PSs (cxOf (L2.CX P w) P w K mg base N "law" scope (He.ga K "law") cdv A outer s H E) r (tS K (fun cls d _ H => E cls d H) rest)) :
    FnOk P w K mg base (L2.CX P w) (k + 1) (He.ga K "law") fd ["_law_script"] (spLaw K N.length m rest) := by
  refine F.ok S (fun vs H Q E ⟨a, ns, e, _⟩ => by rw [e]; rfl) fun cdv A outer s H vs Q E hrm ⟨a, ns, e, hs, good, hq⟩ => ⟨_, pss_cons (h0 cdv A outer s H E hrm) (hr cdv A outer s H E hrm), ?_⟩
  subst e
  obtain ⟨d, big, em, good⟩ := good
  have dm : Dom (fun _ => False) H := fun b h => h.elim
  have iv0 : (SC.pure (fun _ => False) H dm).Iv () (fun _ => False) H := ⟨Stp.refl _ _, fun _ _ _ e => e⟩
  have rs : Rep K (fun _ => False) H (.ref a) (.scr ns) := .scr (by
    rcases hs with hs | hs
    · exact .inl ⟨fun z => z, hs⟩
    · exact .inr hs)
  have A0 : At K (SC.pure (fun _ => False) H dm) (Slot.val (.scr ns) :: List.replicate (N.length - 1) .no) () (start N [.ref a]) H := At.start (ds := [.scr ns]) trivial iv0 (.cons rs .nil) (by simp; omega)
  refine ⟨.ref a, rfl, SC.pure (fun _ => False) H dm, [.scr ns], iv0, .cons rs .nil, rfl, ?_⟩
  rw [em]
  intro sv x y H' st r ne hx hy
  have A1 := A0.toDk (i := 1) (fun _ z => z) (fun j xs => start_none) ⟨fun b o n e => st.keep b o (fun z => z) e, fun b h => (st.new b h).elim False.elim .inr⟩ r ne hx hy
  obtain ⟨t, et⟩ := good x y
  refine ⟨_, _, _, A1, ?_⟩
  rw [et]
  intro v H2 _ _ r2
  cases r2
  exact hq H2
end
section
variable {chk : Chk} {fn : List He.DefD} {K : Fg}
theorem SaysM.fact (c : SaysM chk fn K) (i : Nat) {f : Fg → Bool} (h : chk[i]? = some f := by rfl) : f K = true := by
  have c1 := (He.ba (show ((chk.all fun f => f K) && fn.all fun d => d.ok K) = true from congrArg (fun z : He.AlD => z.1) c)).1
  exact List.all_eq_true.mp c1 f (List.mem_of_getElem? h)
theorem SaysM.def_ (c : SaysM chk fn K) (i : Nat) {d : He.DefD} (h : fn[i]? = some d := by rfl) : ∃ fd, FunD K d.name d.qual d.params d.body d.scope (d.dvs K) (d.kws K) (He.fAd K d.at_) fd := by
  have c2 := (He.ba (show ((chk.all fun f => f K) && fn.all fun d => d.ok K) = true from congrArg (fun z : He.AlD => z.1) c)).2
  have e : fn.map (fun d => He.fnW K d.at_) = fn.map He.DefD.val := congrArg (fun z : He.AlD => z.2) c
  have e2 : (fn.map fun d => He.fnW K d.at_)[i]? = (fn.map He.DefD.val)[i]? := by rw [e]
  rw [List.getElem?_map, List.getElem?_map, h] at e2
  exact He.DefD.funD (Option.some.inj e2) (List.all_eq_true.mp c2 d (List.mem_of_getElem? h))
end
end MM

namespace MM
open PySem PySem.Spec PyProof.Rows L2
section
variable {K : Fg} {h : Heap} {mg : Str → Option Value}
theorem cGlo_ok {x : Str} (X : K.In h) (G : h.Ns mainGlobals mg) (c : cGlo x K = true) : mg x = some (.ref (He.ga K x)) := He.glo_ok X G c
theorem cFree_ok {x : Str} (X : K.In h) (G : h.Ns mainGlobals mg) (c : cFree x K = true) : mg x = none := He.free_ok X G c
theorem cExc_ok {x : Str} (X : K.In h) (G : h.Ns mainGlobals mg) (c : cExc x K = true) : ExcF K mg x := by
  obtain ⟨c, g⟩ := He.ba c
  have c' : (PySem.W.excIn K (He.ga K x) He.veBase "ValueError.__new__" && (PySem.W.keepIn K (.ref (He.ga K x)) && (decide (PySem.W.subIn K (.ref (He.ga K x)) (.type "BaseException") = some true) && decide (PySem.W.typeIn K (.ref (He.ga K x)) = some (.type "type"))))) = true := c
  obtain ⟨c1, c'⟩ := He.ba c'
  obtain ⟨c2, c'⟩ := He.ba c'
  obtain ⟨c3, c4⟩ := He.ba c'
  exact ⟨c1, He.glo_ok X G g, c2, of_decide_eq_true c3, of_decide_eq_true c4⟩
end
mutual
theorem isDV_ok {K : Fg} : ∀ (n : Nat) (v : Value) (d : D), isDV K n v d = true → ∃ x : V, RelV x v ∧ ∀ F H, Rep K F H x d := by
  intro n v d h
  unfold isDV at h
  split at h
  · exact ⟨.non, rfl, fun _ _ => .non⟩
  · rename_i b c
    have e : b = c := eq_of_beq h
    subst e
    exact ⟨.bl b, rfl, fun _ _ => .bl _⟩
  · rename_i i t j
    have e : i = j := of_decide_eq_true h
    subst e
    exact ⟨.int i, ⟨t, rfl⟩, fun _ _ => .int _⟩
  · rename_i i t j
    have e : i = j := of_decide_eq_true h
    subst e
    exact ⟨.str i, ⟨t, rfl⟩, fun _ _ => .str _⟩
  · rename_i n a ds
    split at h
    · rename_i c od its m sl q
      obtain ⟨h1, h⟩ := He.ba h
      obtain ⟨h2, h3⟩ := He.ba h
      obtain ⟨xs, r1, r2⟩ := isDVs_ok n its.toList ds h3
      exact ⟨.ref a, rfl, fun F H => .tup (.inr ⟨_, its, m, q, congrArg Value.type (of_decide_eq_true h1), rfl, of_decide_eq_true h2, r1⟩) (r2 F H)⟩
    · cases h
  · cases h
theorem isDVs_ok {K : Fg} : ∀ (n : Nat) (vs : List Value) (ds : List D), isDVs K n vs ds = true → ∃ xs : List V, Vals xs vs ∧ ∀ F H, Reps K F H xs ds := by
  intro n vs ds h
  unfold isDVs at h
  split at h
  · exact ⟨[], .nil, fun _ _ => .nil⟩
  · rename_i v vs d ds
    obtain ⟨h1, h2⟩ := He.ba h
    obtain ⟨x, r1, r2⟩ := isDV_ok n v d h1
    obtain ⟨xs, q1, q2⟩ := isDVs_ok n vs ds h2
    exact ⟨x :: xs, .cons r1 q1, fun F H => .cons (r2 F H) (q2 F H)⟩
  · cases h
end
theorem cVal_ok {K : Fg} {h : Heap} {mg : Str → Option Value} {x : Str} {d : D} (X : K.In h) (G : h.Ns mainGlobals mg) (c : cVal x d K = true) : Glc K mg x d := by
  unfold cVal at c
  split at c
  · rename_i v e
    obtain ⟨y, r1, r2⟩ := isDV_ok 8 v d c
    exact ⟨y, v, PySem.W.mg_of X G e, r1, r2⟩
  · cases c
theorem room_k {k : Nat} (h : k ≤ 60) : Room k callerA := Room.mono (k := 60) ⟨rfl, by decide, by decide⟩ h
theorem pe_deck {X : Cx} {W : WX} {k : Nat} {x : Str} {m : List D → Option (D × List Int)} {e : Expr} {p pos : Pos} {t : TA} (Df : DefD X.prog X.w X.K X.mg X.base k x 1 m) (hr : Room k X.A) (tk : Takes X W) (hg : Gl X x) (ha : PA X [e] t)
    (hdb : (x == ("__debug__" : Str)) = false := by decide) (he : starEach [e] X.env = (false, eval e X.env) :: starEach [] X.env := by rfl) (hpl : (backTo pos (starEach [] X.env)).any (·.1) = false := by rfl) :
    PE X (.Call (.Name x p) [e] [] pos) (tCallSD (spDk 1 X.K m) [] (WE W) t) := by
  obtain ⟨fd, ps, ds, F, hm, hk, hb, hd⟩ := Df.ex
  exact pe_callSD F hr hg hm hk hb hd (fun σ => passAt tk σ) ha hdb he hpl
theorem walk_mm {l : PySem.W.OpenLaw} {n k nn : Nat} {q : Program} {loose : List Str} {XP : (Str → Option Value) → Heap → Prop} {chk : Chk} {fn : List He.DefD} {d : DefRec} {N : Nat} {m : List D → Option (D × List Int)} {rest : MS Dk}
    (hn : l.most = some n) (hn2 : n ≤ sizeLine) (hdf : d.params.defaults = []) (hname : d.name = "law") (hr : Room k callerA)
    (F : ∀ (w : World) (mg : Str → Option Value) (K : Fg) (h : Heap), K.In h → h.Ns mainGlobals mg → SaysM chk fn K → mg "law" = some (.ref (He.ga K "law")) ∧
      ∃ fd : FuncData, (∀ (s : Shared) (u : Value), BindsTo s fd ⟨[u], []⟩ [("_law_script", u)]) ∧ ∀ base : Heap, FnOk l.prog w K mg base (L2.CX l.prog w) k (He.ga K "law") fd ["_law_script"] (spLaw K N m rest))
    (good : ∀ ns : List Int, ns.length ≤ n → (∀ z ∈ ns, Builtin.Int.intBits z ≤ 1048576) → lawIs N m rest ns) :
    PySem.W.WalkO q loose XP (hookM nn chk fn).says l.row.toRowW d [] (fun f vs => PySem.call f vs) := by
  refine Att.attach_callB hn hdf fun w s₀ s₁ mg mb fa o pm cd doc a vs ns G Y ho hd hcd hmg hobj hints hlen hbits hg => ?_
  obtain ⟨K, KX, sm⟩ := Y
  obtain ⟨e1, fd, hb, hF⟩ := F w mg K _ KX G.T.g sm
  rw [hname, e1] at hmg
  injection hmg with hmg
  injection hmg with hmg
  subst hmg
  refine law_call KX G.T.g G.T.b G.T.builtins G.T.nolimit hg hobj hints (Nat.le_trans hlen hn2) hr (fun base _ _ => hF base) hb (fun H _ hS => ⟨a, ns, rfl, hS, good ns hlen hbits, fun _ => rfl⟩) fun H e s' => ?_
  rintro ⟨a, B, H', cls, dd, _, _, _, _, _, _, _, z⟩
  exact z
end MM

namespace MM
open PySem PySem.Spec PyProof.Rows L2
section
variable {τ : Type}
def oE {α : Type} (r : Res τ α) (Q : α → τ → Prop) (X : Str → Fds → τ → Prop) : Prop := match r with
  | .ok a t => Q a t
  | .ex n fs t => X n fs t
  | .bad => False
structure Pt (τ : Type) where
  nx : Rho → τ → Prop
  rt : D → τ → Prop
  ex : Str → Fds → Rho → τ → Prop := fun _ _ _ _ => False
  bk : Rho → τ → Prop := fun _ _ => False
  ct : Rho → τ → Prop := fun _ _ => False
def oS (r : Fl τ) (P : Pt τ) : Prop := match r with
  | .nx ρ t => P.nx ρ t
  | .rt d t => P.rt d t
  | .ex n fs ρ t => P.ex n fs ρ t
  | .bk ρ t => P.bk ρ t
  | .ct ρ t => P.ct ρ t
  | .bad => False
section
variable {α β γ δ : Type} {Q : α → τ → Prop} {X : Str → Fds → τ → Prop} {P : Pt τ}
@[simp] theorem oE_ok {a : α} {t : τ} : oE (.ok a t) Q X = Q a t := rfl
@[simp] theorem oE_ex {n : Str} {fs : Fds} {t : τ} : oE (α := α) (.ex n fs t) Q X = X n fs t := rfl
@[simp] theorem oE_bad : oE (α := α) .bad Q X = False := rfl
@[simp] theorem oE_bind {r : Res τ β} {k : β → τ → Res τ α} : oE (r.bind k) Q X = oE r (fun b t => oE (k b t) Q X) X := by cases r <;> rfl
@[simp] theorem oE_opt {o : Option α} {t : τ} : oE (opt o t) Q X = ∃ a, o = some a ∧ Q a t := by
  cases o with
  | none => simp [opt, oE]
  | some a => simp [opt, oE]
@[simp] theorem oE_ite {c : Prop} [Decidable c] {a b : Res τ α} : oE (if c then a else b) Q X = ((c → oE a Q X) ∧ (¬ c → oE b Q X)) := by
  by_cases h : c <;> simp [h]
theorem oE_imp {r : Res τ α} {Q' : α → τ → Prop} {X' : Str → Fds → τ → Prop} (h : oE r Q' X') (i : ∀ a t, Q' a t → Q a t) (ix : ∀ n fs t, X' n fs t → X n fs t) : oE r Q X := by
  cases r with
  | ok a t => exact i _ _ h
  | ex n fs t => exact ix _ _ _ h
  | bad => exact h
theorem oE_eq {r : Res τ α} {v : α} {u : τ} (h : oE r (fun a t => a = v ∧ t = u) (fun _ _ _ => False)) : r = .ok v u := by
  cases r with
  | ok a t => obtain ⟨rfl, rfl⟩ := h; rfl
  | ex n fs t => exact h.elim
  | bad => exact h.elim
theorem oE_ex' {r : Res τ α} (h : oE r Q (fun _ _ _ => False)) : ∃ a t, r = .ok a t ∧ Q a t := by
  cases r with
  | ok a t => exact ⟨a, t, rfl, h⟩
  | ex n fs t => exact h.elim
  | bad => exact h.elim
theorem oS_imp {r : Fl τ} {P' : Pt τ} (h : oS r P') (i1 : ∀ ρ t, P'.nx ρ t → P.nx ρ t) (i2 : ∀ d t, P'.rt d t → P.rt d t) (i3 : ∀ n fs ρ t, P'.ex n fs ρ t → P.ex n fs ρ t) (i4 : ∀ ρ t, P'.bk ρ t → P.bk ρ t) (i5 : ∀ ρ t, P'.ct ρ t → P.ct ρ t) : oS r P := by
  cases r with
  | nx => exact i1 _ _ h
  | rt => exact i2 _ _ h
  | ex => exact i3 _ _ _ _ h
  | bk => exact i4 _ _ h
  | ct => exact i5 _ _ h
  | bad => exact h
theorem oS_cut {r : Fl τ} (M : Rho → τ → Prop) (h : oS r { P with nx := M }) (k : ∀ ρ t, M ρ t → P.nx ρ t) : oS r P :=
  oS_imp h k (fun _ _ h => h) (fun _ _ _ _ h => h) (fun _ _ h => h) (fun _ _ h => h)
variable {ρ : Rho} {t : τ}
@[simp] theorem oE_var {i : Nat} {Q : D → τ → Prop} : oE (eVar i ρ t) Q X = (match ρ[i]? with | some (.val d) => Q d t | _ => False) := by
  unfold eVar; split <;> simp_all [oE]
@[simp] theorem oE_varW {i : Nat} {Q : D → τ → Prop} : oE (eVarW i ρ t) Q X = (match ρ[i]? with | some (.val d) => Q d t | some (.own xs) => Q (.lst xs) t | some (.dct ks xs) => Q (.dct ks xs) t | _ => False) := by
  unfold eVarW; split <;> simp_all [oE]
@[simp] theorem oE_c {d : D} {Q : D → τ → Prop} : oE (eC d ρ t) Q X = Q d t := rfl
@[simp] theorem oE_e1 {f : β → Option α} {a : ME τ β} : oE (e1 f a ρ t) Q X = oE (a ρ t) (fun d t => ∃ z, f d = some z ∧ Q z t) X := by unfold e1; simp
@[simp] theorem oE_e2 {f : β → γ → Option α} {a : ME τ β} {b : ME τ γ} : oE (e2 f a b ρ t) Q X = oE (a ρ t) (fun d t => oE (b ρ t) (fun e t => ∃ z, f d e = some z ∧ Q z t) X) X := by unfold e2; simp
@[simp] theorem oE_e3 {f : β → γ → δ → Option α} {a : ME τ β} {b : ME τ γ} {c : ME τ δ} : oE (e3 f a b c ρ t) Q X = oE (a ρ t) (fun d t => oE (b ρ t) (fun e t => oE (c ρ t) (fun g t => ∃ z, f d e g = some z ∧ Q z t) X) X) X := by unfold e3; simp
@[simp] theorem oE_not {a : ME τ Bool} {Q : Bool → τ → Prop} : oE (tNot1 a ρ t) Q X = oE (a ρ t) (fun b t => Q (!b) t) X := by unfold tNot1; simp
@[simp] theorem oE_and {a b : ME τ Bool} {Q : Bool → τ → Prop} : oE (tAnd2 a b ρ t) Q X = oE (a ρ t) (fun c t => (c = true → oE (b ρ t) Q X) ∧ (¬ c = true → Q false t)) X := by unfold tAnd2; simp
@[simp] theorem oE_or {a b : ME τ Bool} {Q : Bool → τ → Prop} : oE (tOr2 a b ρ t) Q X = oE (a ρ t) (fun c t => (c = true → Q true t) ∧ (¬ c = true → oE (b ρ t) Q X)) X := by unfold tOr2; simp
@[simp] theorem oE_andE {a b : ME τ D} {Q : D → τ → Prop} : oE (eAnd2 a b ρ t) Q X = oE (a ρ t) (fun d t => ∃ c, asB d = some c ∧ ((c = true → oE (b ρ t) Q X) ∧ (¬ c = true → Q (.bl false) t))) X := by unfold eAnd2; simp
@[simp] theorem oE_notE {a : ME τ D} {Q : D → τ → Prop} : oE (eNot1 a ρ t) Q X = oE (a ρ t) (fun d t => ∃ c, asB d = some c ∧ Q (.bl (!c)) t) X := by unfold eNot1; simp
@[simp] theorem oE_if {c : ME τ Bool} {a b : ME τ α} : oE (eIf c a b ρ t) Q X = oE (c ρ t) (fun k t => (k = true → oE (a ρ t) Q X) ∧ (¬ k = true → oE (b ρ t) Q X)) X := by unfold eIf; simp
@[simp] theorem oE_nil {Q : List α → τ → Prop} : oE (aNil ρ t) Q X = Q [] t := rfl
@[simp] theorem oE_cons {a : ME τ α} {b : ME τ (List α)} {Q : List α → τ → Prop} : oE (aCons a b ρ t) Q X = oE (a ρ t) (fun d t => oE (b ρ t) (fun ds t => Q (d :: ds) t) X) X := by unfold aCons; simp
@[simp] theorem oE_tup {a : ME τ (List D)} {Q : D → τ → Prop} : oE (eTup a ρ t) Q X = oE (a ρ t) (fun ds t => ds.length ≤ 16777216 ∧ Q (.tup ds) t) X := by
  unfold eTup; rw [oE_e1]; congr; funext ds t; unfold lim
  by_cases h : ds.length ≤ 16777216 <;> simp [h]
@[simp] theorem ex_lim {ds : List α} {Q : List α → Prop} : (∃ z, lim ds = some z ∧ Q z) ↔ ds.length ≤ 16777216 ∧ Q ds := by
  unfold lim
  by_cases h : ds.length ≤ 16777216 <;> simp [h]
@[simp] theorem oE_lst {a : ME τ (List D)} {Q : D → τ → Prop} : oE (eLst a ρ t) Q X = oE (a ρ t) (fun ds t => Q (.lst ds) t) X := by unfold eLst; simp
@[simp] theorem oE_call {m : List D → Unit → Res Unit D} {df : List D} {a : ME τ (List D)} {Q : D → τ → Prop} : oE (eCall m df a ρ t) Q X = oE (a ρ t) (fun ds t => oE (m (ds ++ df) ()) (fun d _ => Q d t) (fun n fs _ => X n fs t)) X := by
  unfold eCall; rw [oE_bind]; congr; funext ds t
  cases m (ds ++ df) () <;> rfl
@[simp] theorem oE_callS {m : List D → τ → Res τ D} {df : List D} {a : ME τ (List D)} {Q : D → τ → Prop} : oE (eCallS m df a ρ t) Q X = oE (a ρ t) (fun ds t => oE (m (ds ++ df) t) Q X) X := by unfold eCallS; simp
@[simp] theorem oE_oNone {Q : Option Int → τ → Prop} : oE (oNone ρ t) Q X = Q none t := rfl
@[simp] theorem oE_oSome {a : ME τ D} {Q : Option Int → τ → Prop} : oE (oSome a ρ t) Q X = oE (a ρ t) (fun d t => ∃ i, d = .int i ∧ Q (some i) t) X := by
  unfold oSome; rw [oE_e1]; congr; funext d t
  cases d <;> simp
@[simp] theorem aVar_eq {i : Nat} : aVar i ρ = (match ρ[i]? with | some (.val d) => some d | _ => none) := rfl
@[simp] theorem keyOf_int {i : Int} : keyOf (.int i) = some (.inl i) := rfl
@[simp] theorem keyOf_str {i : Str} : keyOf (.str i) = some (.inr i) := rfl
@[simp] theorem oE_run {n : Nat} {b : MS τ} {ds : List D} {Q : D → τ → Prop} : oE (runB n b ds t) Q X = oS (b (ds.map Slot.val ++ List.replicate (n - ds.length) .no) t) { nx := fun _ t => Q .non t, rt := Q, ex := fun n fs _ t => X n fs t } := by
  unfold runB; cases b (ds.map Slot.val ++ List.replicate (n - ds.length) .no) t <;> rfl
@[simp] theorem oS_nx : oS (.nx ρ t) P = P.nx ρ t := rfl
@[simp] theorem oS_rt {d : D} : oS (.rt d t) P = P.rt d t := rfl
@[simp] theorem oS_bk : oS (.bk ρ t) P = P.bk ρ t := rfl
@[simp] theorem oS_ct : oS (.ct ρ t) P = P.ct ρ t := rfl
@[simp] theorem oS_ex {n : Str} {fs : Fds} : oS (.ex n fs ρ t) P = P.ex n fs ρ t := rfl
@[simp] theorem oS_bad : oS .bad P = False := rfl
@[simp] theorem oS_ite {c : Prop} [Decidable c] {a b : Fl τ} : oS (if c then a else b) P = ((c → oS a P) ∧ (¬ c → oS b P)) := by
  by_cases h : c <;> simp [h]
def Nxt (b : MS τ) (ρ : Rho) (t : τ) (P : Pt τ) : Prop := oS (b ρ t) P
@[simp] theorem oS_seq {a b : MS τ} : oS (sSeq a b ρ t) P = oS (a ρ t) { P with nx := fun ρ t => Nxt b ρ t P } := by
  unfold sSeq Nxt; cases a ρ t <;> rfl
@[simp] theorem oS_skip : oS (sSkip ρ t) P = P.nx ρ t := rfl
theorem oS_do {m : ME τ α} {k : α → Rho → τ → Fl τ} : oS (sDo m k ρ t) P = oE (m ρ t) (fun a t => oS (k a ρ t) P) (fun n fs t => P.ex n fs ρ t) := by
  unfold sDo; cases m ρ t <;> rfl
@[simp] theorem oS_asg {i : Nat} {m : ME τ D} : oS (sAsg (gN i) m ρ t) P = oE (m ρ t) (fun d t => P.nx (ρ.set i (.val d)) t) (fun n fs t => P.ex n fs ρ t) := by
  unfold sAsg; rw [oS_do]; rfl
@[simp] theorem oS_asgT {gs : Tgts} {m : ME τ D} : oS (sAsg (gT gs) m ρ t) P = oE (m ρ t) (fun d t => ∃ ρ', gT gs ρ d = some ρ' ∧ P.nx ρ' t) (fun n fs t => P.ex n fs ρ t) := by
  unfold sAsg; rw [oS_do]; congr; funext d t
  cases gT gs ρ d <;> simp
@[simp] theorem gNil_eq : gNil ρ [] = some ρ := rfl
@[simp] theorem gCons_eq {g : Tgt} {gs : Tgts} {d : D} {ds : List D} : gCons g gs ρ (d :: ds) = (g ρ d).bind fun ρ' => gs ρ' ds := rfl
@[simp] theorem gN_eq {i : Nat} {d : D} : gN i ρ d = some (ρ.set i (.val d)) := rfl
@[simp] theorem gT_tup {gs : Tgts} {ds : List D} : gT gs ρ (.tup ds) = gs ρ ds := rfl
@[simp] theorem oS_app {i : Nat} {m : ME τ D} : oS (sApp i m ρ t) P = (match ρ[i]? with | some (.own xs) => oE (m ρ t) (fun d t => xs.length < 16777216 ∧ P.nx (ρ.set i (.own (xs ++ [d]))) t) (fun n fs t => P.ex n fs ρ t) | _ => False) := by
  have key : ∀ o : Option Slot, oS ((match o with
      | some (.own xs) => sDo m (fun d ρ t => if xs.length < 16777216 then .nx (ρ.set i (.own (xs ++ [d]))) t else .bad) ρ t
      | _ => .bad) : Fl τ) P = (match o with | some (.own xs) => oE (m ρ t) (fun d t => xs.length < 16777216 ∧ P.nx (ρ.set i (.own (xs ++ [d]))) t) (fun n fs t => P.ex n fs ρ t) | _ => False) := fun o => by
    cases o with
    | none => rfl
    | some s =>
      cases s with
      | no => rfl
      | val d => rfl
      | dct _ _ => rfl
      | own xs =>
        dsimp only
        rw [oS_do]
        congr; funext d t
        by_cases h : xs.length < 16777216 <;> simp [h]
  exact key (ρ[i]?)
theorem oS_asgG {g : Tgt} {m : ME τ D} : oS (sAsg g m ρ t) P = oE (m ρ t) (fun d t => ∃ ρ', g ρ d = some ρ' ∧ P.nx ρ' t) (fun n fs t => P.ex n fs ρ t) := by
  unfold sAsg; rw [oS_do]; congr; funext d t
  cases g ρ d <;> simp
@[simp] theorem oS_own {i : Nat} {m : ME τ (List D)} : oS (sOwn i m ρ t) P = oE (m ρ t) (fun ds t => P.nx (ρ.set i (.own ds)) t) (fun n fs t => P.ex n fs ρ t) := by
  unfold sOwn; rw [oS_do]; rfl
@[simp] theorem oS_frz {i : Nat} {m : MS τ} : oS (sFrz i m ρ t) P = (match ρ[i]? with | some (.own xs) => oS (m (ρ.set i (.val (.lst xs))) t) P | some (.dct ks xs) => oS (m (ρ.set i (.val (.dct ks xs))) t) P | _ => oS (m ρ t) P) := by
  unfold sFrz; split <;> simp_all
@[simp] theorem oS_ret {m : ME τ D} : oS (sRet m ρ t) P = oE (m ρ t) P.rt (fun n fs t => P.ex n fs ρ t) := by
  unfold sRet; rw [oS_do]; rfl
@[simp] theorem oS_if {c : ME τ Bool} {a b : MS τ} : oS (sIf c a b ρ t) P = oE (c ρ t) (fun k t => (k = true → oS (a ρ t) P) ∧ (¬ k = true → oS (b ρ t) P)) (fun n fs t => P.ex n fs ρ t) := by
  unfold sIf; rw [oS_do]; simp
@[simp] theorem oS_par {i j : Nat} {a b : ME τ D} : oS (sPar i j a b ρ t) P = oE (a ρ t) (fun d t => oE (b ρ t) (fun e t => P.nx ((ρ.set i (.val d)).set j (.val e)) t) (fun n fs t => P.ex n fs ρ t)) (fun n fs t => P.ex n fs ρ t) := by
  unfold sPar; rw [oS_do]; simp
@[simp] theorem oS_raise {n : Str} : oS (sRaise n ρ t) P = P.ex n none ρ t := rfl
@[simp] theorem oS_for {m : ME τ (List D)} {g : Tgt} {b : MS τ} : oS (sFor m g b ρ t) P = oE (m ρ t) (fun ds t => oS (loopF g b ds ρ t) P) (fun n fs t => P.ex n fs ρ t) := by
  unfold sFor; rw [oS_do]
theorem oS_loop_cons {g : Tgt} {b : MS τ} {d : D} {ds : List D} : oS (loopF g b (d :: ds) ρ t) P = ∃ ρ1, g ρ d = some ρ1 ∧ oS (b ρ1 t) { P with nx := fun ρ t => oS (loopF g b ds ρ t) P, ct := fun ρ t => oS (loopF g b ds ρ t) P, bk := P.nx } := by
  rw [show loopF g b (d :: ds) = fun ρ t => match g ρ d with
    | some ρ1 => (match b ρ1 t with
      | .nx ρ' t' => loopF g b ds ρ' t'
      | .ct ρ' t' => loopF g b ds ρ' t'
      | .bk ρ' t' => .nx ρ' t'
      | r => r)
    | none => .bad from rfl]
  cases e : g ρ d with
  | none => simp [e]
  | some ρ1 =>
    simp only [e, Option.some.injEq, exists_eq_left']
    cases e2 : b ρ1 t <;> simp
theorem oS_rtEx {r : Fl τ} {R : D → τ → Prop} (h : oS r { nx := fun _ _ => False, rt := R }) : ∃ d t, r = .rt d t ∧ R d t := by
  cases r with
  | rt d t => exact ⟨d, t, rfl, h⟩
  | _ => exact h.elim
theorem compL_ok {g : Tgt} {tt : ME Unit Bool} {te : ME Unit D} {ρ : Rho} {p : D → Prop} : ∀ ds : List D, (∀ d ∈ ds, ∃ ρ1, g ρ d = some ρ1 ∧ ∃ b, tt ρ1 () = .ok b () ∧ (b = true → ∃ y, te ρ1 () = .ok y () ∧ p y)) →
    ∃ ys, compL g tt te ρ ds () = .ok ys () ∧ ∀ y ∈ ys, p y
  | [], _ => ⟨[], rfl, fun y h => by cases h⟩
  | d :: ds, h => by
    obtain ⟨ρ1, e1, b, e2, h3⟩ := h d List.mem_cons_self
    obtain ⟨ys, e4, h4⟩ := compL_ok (p := p) ds fun d hd => h d (List.mem_cons_of_mem _ hd)
    unfold compL
    rw [e1]
    dsimp only
    rw [e2]
    cases b with
    | false => exact ⟨ys, e4, h4⟩
    | true =>
      obtain ⟨y, e5, h5⟩ := h3 rfl
      refine ⟨y :: ys, ?_, fun z hz => by rcases List.mem_cons.mp hz with rfl | hz; exact h5; exact h4 z hz⟩
      simp [noEx, e5, e4]
theorem intsD_all : ∀ ys : List D, (∀ y ∈ ys, ∃ i, y = .int i) → ∃ l, intsD ys = some l
  | [], _ => ⟨[], rfl⟩
  | y :: ys, h => by
    obtain ⟨i, rfl⟩ := h y List.mem_cons_self
    obtain ⟨l, e⟩ := intsD_all ys fun y hy => h y (List.mem_cons_of_mem _ hy)
    exact ⟨i :: l, by show (intsD ys).map (i :: ·) = _; rw [e]; rfl⟩
theorem oS_while [Sto τ] {c : ME τ Bool} {b : MS τ} (I : Nat → Rho → τ → Prop) (hs : ∀ n ρ t, I n ρ t → oE (c ρ t) (fun k t => (k = true → oS (b ρ t) { P with nx := fun ρ t => ∃ m, m < n ∧ I m ρ t, ct := fun ρ t => ∃ m, m < n ∧ I m ρ t, bk := P.nx }) ∧ (¬ k = true → P.nx ρ t)) (fun n fs t => P.ex n fs ρ t)) :
    ∀ (n : Nat) (ρ : Rho) (t : τ), I n ρ t → oS (sWhile c b ρ t) P := by
  intro n
  induction n using Nat.strongRecOn with
  | _ n ih =>
    intro ρ t h
    rw [sWhile_turn, oS_do]
    refine oE_imp (hs n ρ t h) (fun k t1 h1 => ?_) fun _ _ _ h => h
    rw [oS_ite]
    refine ⟨fun hk => ?_, fun hk => h1.2 hk⟩
    have h2 := h1.1 hk
    cases e : b ρ t1 <;> rw [e] at h2
    · obtain ⟨m, hm, h3⟩ := h2; exact ih m hm _ _ h3
    · exact h2
    · exact h2
    · obtain ⟨m, hm, h3⟩ := h2; exact ih m hm _ _ h3
    · exact h2
    · exact h2
end
end
section
variable {Q : D → Dk → Prop} {X : Str → Fds → Dk → Prop} {P : Pt Dk} {ρ : Rho} {t : Dk} {i j : Nat} {m : ME Dk D}
@[simp] theorem isDk_eq : isDk i ρ t = (match ρ[i]? with | some (.val (.at a)) => decide (a = t.a) | _ => false) := rfl
@[simp] theorem oE_dk0 : oE (eDk i 0 ρ t) Q X = (isDk i ρ t = true ∧ Q t.scr t) := by unfold eDk; by_cases h : isDk i ρ t = true <;> simp only [h, if_true, if_false, true_and, false_and, oE_ok, oE_bad, Bool.false_eq_true]
@[simp] theorem oE_dk2 : oE (eDk i 2 ρ t) Q X = (isDk i ρ t = true ∧ Q (.int t.pos) t) := by unfold eDk; by_cases h : isDk i ρ t = true <;> simp only [h, if_true, if_false, true_and, false_and, oE_ok, oE_bad, Bool.false_eq_true]
@[simp] theorem oE_dk3 : oE (eDk i 3 ρ t) Q X = (isDk i ρ t = true ∧ Q (.int t.cnt) t) := by unfold eDk; by_cases h : isDk i ρ t = true <;> simp only [h, if_true, if_false, true_and, false_and, oE_ok, oE_bad, Bool.false_eq_true]
@[simp] theorem oE_dkLen : oE (eDkLen i ρ t) Q X = (isDk i ρ t = true ∧ Q (.int (t.big.length : Nat)) t) := by unfold eDkLen; by_cases h : isDk i ρ t = true <;> simp only [h, if_true, if_false, true_and, false_and, oE_ok, oE_bad, Bool.false_eq_true]
@[simp] theorem oE_dkAt : oE (eDkAt i ρ t) Q X = (isDk i ρ t = true ∧ ∃ c, t.big[t.pos]? = some c ∧ Q (.int c) t) := by
  unfold eDkAt
  by_cases h : isDk i ρ t = true
  · simp only [h, if_true, true_and]
    cases e : t.big[t.pos]? <;> simp
  · simp only [h, if_false, false_and, oE_bad, Bool.false_eq_true]
@[simp] theorem oS_dkBig : oS (sDkBig i m ρ t) P = oE (m ρ t) (fun d t => ∃ c, d = .int c ∧ isDk i ρ t = true ∧ t.pos < t.big.length ∧ P.nx ρ { t with big := t.big.set t.pos c }) (fun n fs t => P.ex n fs ρ t) := by
  unfold sDkBig; rw [oS_do]; congr; funext d t
  cases d <;> simp only [oS_bad, reduceCtorEq, false_and, exists_false, D.int.injEq, exists_eq_left']
  rename_i c
  by_cases h : isDk i ρ t = true ∧ t.pos < t.big.length
  · rw [if_pos h]; simp only [oS_nx, h.1, h.2, true_and]
  · rw [if_neg h]; simp only [oS_bad]; exact (propext ⟨fun z => z.elim, fun z => h ⟨z.1, z.2.1⟩⟩)
@[simp] theorem oS_dkSet2 : oS (sDkSet i 2 m ρ t) P = oE (m ρ t) (fun d t => ∃ c, d = .int c ∧ isDk i ρ t = true ∧ 0 ≤ c ∧ P.nx ρ { t with pos := c.toNat }) (fun n fs t => P.ex n fs ρ t) := by
  unfold sDkSet; rw [oS_do]; congr; funext d t
  cases d <;> simp only [oS_bad, reduceCtorEq, false_and, exists_false, D.int.injEq, exists_eq_left']
  rename_i c
  by_cases h : isDk i ρ t = true ∧ 0 ≤ c
  · rw [if_pos h]; simp only [oS_nx, h.1, h.2, true_and]
  · rw [if_neg h]; simp only [oS_bad]; exact (propext ⟨fun z => z.elim, fun z => h ⟨z.1, z.2.1⟩⟩)
@[simp] theorem oS_dkSet3 : oS (sDkSet i 3 m ρ t) P = oE (m ρ t) (fun d t => ∃ c, d = .int c ∧ isDk i ρ t = true ∧ 0 ≤ c ∧ P.nx ρ { t with cnt := c.toNat }) (fun n fs t => P.ex n fs ρ t) := by
  unfold sDkSet; rw [oS_do]; congr; funext d t
  cases d <;> simp only [oS_bad, reduceCtorEq, false_and, exists_false, D.int.injEq, exists_eq_left']
  rename_i c
  by_cases h : isDk i ρ t = true ∧ 0 ≤ c
  · rw [if_pos h]; simp only [oS_nx, h.1, h.2, true_and]
  · rw [if_neg h]; simp only [oS_bad]; exact (propext ⟨fun z => z.elim, fun z => h ⟨z.1, z.2.1⟩⟩)
end
@[simp] theorem asB_bl {b : Bool} : asB (.bl b) = some b := rfl
@[simp] theorem dLt_int {i j : Int} : dLt (.int i) (.int j) = some (.bl (decide (i < j))) := rfl
@[simp] theorem dLe_int {i j : Int} : dLe (.int i) (.int j) = some (.bl (decide (i ≤ j))) := rfl
@[simp] theorem dGt_int {i j : Int} : dGt (.int i) (.int j) = some (.bl (decide (j < i))) := rfl
@[simp] theorem dGe_int {i j : Int} : dGe (.int i) (.int j) = some (.bl (decide (j ≤ i))) := rfl
@[simp] theorem dAdd_int {i j : Int} : dAdd (.int i) (.int j) = some (.int (i + j)) := rfl
@[simp] theorem dSub_int {i j : Int} : dSub (.int i) (.int j) = some (.int (i - j)) := rfl
@[simp] theorem ex_asc {α : Sort _} {a : α} {c : Prop} {Q : α → Prop} : (∃ z, (z = a ∧ c) ∧ Q z) ↔ c ∧ Q a := ⟨fun ⟨z, ⟨e, hc⟩, q⟩ => ⟨hc, e ▸ q⟩, fun ⟨hc, q⟩ => ⟨a, ⟨rfl, hc⟩, q⟩⟩
@[simp] theorem ex_asc0 {α : Sort _} {a : α} {c : Prop} : (∃ z, z = a ∧ c) ↔ c := ⟨fun ⟨z, _, hc⟩ => hc, fun hc => ⟨a, rfl, hc⟩⟩
@[simp] theorem dMul_some {i j : Int} {z : D} : (dMulI (.int i) (.int j) = some z) = (z = .int (i * j) ∧ mulOk i j = true) := by
  unfold dMulI; by_cases h : mulOk i j = true <;> simp [h, eq_comm]
@[simp] theorem dDiv_some {i j : Int} {z : D} : (dDiv (.int i) (.int j) = some z) = (z = .int (i.fdiv j) ∧ divOk i j = true) := by
  unfold dDiv; by_cases h : divOk i j = true <;> simp [h, eq_comm]
@[simp] theorem dMod_some {i j : Int} {z : D} : (dMod (.int i) (.int j) = some z) = (z = .int (i.fmod j) ∧ j ≠ 0) := by
  unfold dMod modOk; by_cases h : j ≠ 0 <;> simp [h, eq_comm]
@[simp] theorem dPow_some {i j : Int} {z : D} : (dPow (.int i) (.int j) = some z) = (z = .int (i ^ j.toNat) ∧ powOk i j = true) := by
  unfold dPow; by_cases h : powOk i j = true <;> simp [h, eq_comm]
@[simp] theorem ex_addL {xs ys : List D} {Q : D → Prop} : (∃ z, dAdd (.lst xs) (.lst ys) = some z ∧ Q z) ↔ xs.length + ys.length ≤ 16777216 ∧ Q (.lst (xs ++ ys)) := by
  unfold dAdd lim2; by_cases h : xs.length + ys.length ≤ 16777216 <;> simp [h]
@[simp] theorem ex_addT {xs ys : List D} {Q : D → Prop} : (∃ z, dAdd (.tup xs) (.tup ys) = some z ∧ Q z) ↔ xs.length + ys.length ≤ 16777216 ∧ Q (.tup (xs ++ ys)) := by
  unfold dAdd lim2; by_cases h : xs.length + ys.length ≤ 16777216 <;> simp [h]
theorem rng_red {j : Int} {Q : List D → Prop} : (∃ z, (if -(2 ^ 62) ≤ j ∧ j < 2 ^ 62 then some (rngD 0 j.toNat) else none) = some z ∧ Q z) ↔ (-(2 ^ 62) ≤ j ∧ j < 2 ^ 62) ∧ Q (rngD 0 j.toNat) := by
  generalize (2 : Int) ^ 62 = P
  by_cases h : -P ≤ j ∧ j < P
  · rw [if_pos h]; exact ⟨fun ⟨z, e, q⟩ => ⟨h, by cases e; exact q⟩, fun q => ⟨_, rfl, q.2⟩⟩
  · rw [if_neg h]; exact ⟨fun ⟨z, e, q⟩ => (by cases e), fun q => absurd q.1 h⟩
@[simp] theorem ex_rng {j : Int} {Q : List D → Prop} : (∃ z, fRng1 [.int j] = some z ∧ Q z) ↔ (-4611686018427387904 ≤ j ∧ j < 4611686018427387904) ∧ Q (rngD 0 j.toNat) := rng_red
@[simp] theorem dNeg_int {i : Int} : dNeg (.int i) = some (.int (-i)) := rfl
theorem abs_if (i : Int) : (if i < 0 then -i else i) = (i.natAbs : Int) := by split <;> omega
@[simp] theorem fAbs_int {i : Int} : fAbs [.int i] = some (.int (i.natAbs : Int)) := by show some (D.int (if i < 0 then -i else i)) = _; rw [abs_if]
@[simp] theorem fLen_lst {xs : List D} : fLen [.lst xs] = some (.int (xs.length : Nat)) := rfl
@[simp] theorem fLen_tup {xs : List D} : fLen [.tup xs] = some (.int (xs.length : Nat)) := rfl
@[simp] theorem fLen_scr {xs : List Int} : fLen [.scr xs] = some (.int (xs.length : Nat)) := rfl
@[simp] theorem dIx_lst {xs : List D} {i : Int} : dIx (.lst xs) (.int i) = atI xs i := rfl
@[simp] theorem dIx_tup {xs : List D} {i : Int} : dIx (.tup xs) (.int i) = atI xs i := rfl
@[simp] theorem dIx_scr {xs : List Int} {i : Int} : dIx (.scr xs) (.int i) = (atI xs i).map .int := rfl
@[simp] theorem itD_lst {xs : List D} : itD (.lst xs) = some xs := rfl
@[simp] theorem itD_tup {xs : List D} : itD (.tup xs) = some xs := rfl
@[simp] theorem itD_scr {xs : List Int} : itD (.scr xs) = some (xs.map .int) := rfl
@[simp] theorem truth_bl {b : Bool} : truth (.bl b) = some b := rfl
@[simp] theorem truth_int {i : Int} : truth (.int i) = some (i != 0) := rfl
theorem eqD_int {i j : Int} : eqD (.int i) (.int j) = some (decide (i = j)) := by
  simp [eqD, py, SeqAt.shaped, PyData.canLay0, PyData.depth, PyData.eqv]
  rfl
@[simp] theorem dEq_int {i j : Int} : dEq (.int i) (.int j) = some (.bl (decide (i = j))) := by unfold dEq; rw [eqD_int]; rfl
@[simp] theorem dNe_int {i j : Int} : dNe (.int i) (.int j) = some (.bl (!decide (i = j))) := by unfold dNe; rw [eqD_int]; rfl
theorem eqD_pair {i j k l : Int} : eqD (.tup [.int i, .int j]) (.tup [.int k, .int l]) = some (decide (i = k) && decide (j = l)) := by
  simp [eqD, py, pys, SeqAt.shaped, PyData.canLay0, PyData.canLayAll0, PyData.depth, PyData.depthAll, PyData.eqv, PyData.eqvAll]
  rfl
@[simp] theorem dEq_pair {i j k l : Int} : dEq (.tup [.int i, .int j]) (.tup [.int k, .int l]) = some (.bl (decide (i = k) && decide (j = l))) := by unfold dEq; rw [eqD_pair]; rfl
@[simp] theorem dNe_pair {i j k l : Int} : dNe (.tup [.int i, .int j]) (.tup [.int k, .int l]) = some (.bl (!(decide (i = k) && decide (j = l)))) := by unfold dNe; rw [eqD_pair]; rfl
theorem eqD_bl {i j : Bool} : eqD (.bl i) (.bl j) = some (i == j) := by
  simp [eqD, py, SeqAt.shaped, PyData.canLay0, PyData.depth, PyData.eqv]
@[simp] theorem dEq_bl {i j : Bool} : dEq (.bl i) (.bl j) = some (.bl (i == j)) := by unfold dEq; rw [eqD_bl]; rfl
@[simp] theorem dNe_bl {i j : Bool} : dNe (.bl i) (.bl j) = some (.bl (!(i == j))) := by unfold dNe; rw [eqD_bl]; rfl
theorem small_mul {i j : Int} {a b : Nat} (h1 : i.natAbs < 2 ^ a) (h2 : j.natAbs < 2 ^ b) (ha : 0 < a) (hb : 0 < b) (h : a + b ≤ 1000000) : mulOk i j = true := by
  have x := PySem.Flt.log2_lt_of ha h1
  have y := PySem.Flt.log2_lt_of hb h2
  unfold mulOk
  exact decide_eq_true (by omega)
theorem small_div {i j : Int} {b : Nat} (h : j ≠ 0) (h2 : j.natAbs < 2 ^ b) (hb : 0 < b) (h9 : b ≤ 9000) : divOk i j = true := by
  have y := PySem.Flt.log2_lt_of hb h2
  unfold divOk
  exact decide_eq_true ⟨h, by omega⟩
end MM

namespace MM
open PySem PySem.Spec PyProof.Rows L2
section
variable {prog : Program} {w : World} {A : Around} {E : Value → Shared → Prop} {s : Shared}
def midOf (its : List Value) (i n : Nat) : List Value := (its.drop i).take (its.length + 1 - n)
def endOf (its : List Value) (i n : Nat) : List Value := (its.drop i).drop (its.length + 1 - n)
theorem un_tail {I l : Addr} {items : Array Value} {n i : Nat} {T : String} {St : Nat → Heap → Prop} {Q : List Value → Shared → Prop} {h1 : Heap} (hi : i < n) (hn : n ≤ items.size + 1) (hz : items.size ≤ 16384)
    (hT : T = "str_ascii_iterator" ∨ T = "str_iterator" ∨ T = "list_iterator" ∨ T = "tuple_iterator") (W : Walks prog w A.in1 I [I, l] [I] items.size (fun j v => items[j]? = some v) St) (hty : ∀ j (u : Shared), St j u.heap → u.TypeIs (.ref I) T) (st : St i h1)
    (hI : I < h1.objs.size) (hl : l < h1.objs.size)
    (h : ∀ (h2 : Heap) (tk : Nat), (∀ b o, b ≠ I → h1.get? b = some o → h2.get? b = some o) → Q (items.toList.take i ++ [.ref h2.objs.size] ++ endOf items.toList i n) { s with heap := h2.push { cls := .type "list", data := .seq (midOf items.toList i n).toArray }, toks := tk }) :
    wpAny (model prog w) A (do
      let rest ← holding (items.toList.take i) (collect (.ref I))
      let after := n - 1 - i
      if rest.length < after then
        rule "unpack.star.too-few"
        raiseError "ValueError" s!"not enough values to unpack (expected at least {n - 1}, got {i + rest.length})"
      let mid := rest.length - after
      return items.toList.take i ++ [← newList (rest.take mid)] ++ rest.drop mid) Q E { s with heap := h1 } := by
  have len : items.toList.length = items.size := Array.length_toList
  have dl : (items.toList.drop i).length = items.size - i := by rw [List.length_drop, len]
  refine wpAny_bind (wpAny_holding (PySem.W.kun_collect (s := { s with heap := h1 }) hT W hty (k := i) (by omega) st hI hl (fun h2 tk hk => ?_) (by rw [sizeLine_eq]; omega)))
  have hm : (items.toList.drop i).length - (n - 1 - i) = items.toList.length + 1 - n := by omega
  dsimp only
  rw [if_neg (by omega), hm]
  exact wpAny_bind (wpAny_newList (wpAny_pure (h h2 tk hk)) (by rw [List.length_take, dl, sizeLine_eq]; omega))
theorem un_starL {l : Addr} {items : Array Value} {n i : Nat} {Q : List Value → Shared → Prop} (hL : s.heap.IsList l items) (hh : A.handled = none) (hi : i < n) (hn : n ≤ items.size + 1) (hz : items.size ≤ 16384)
    (h : ∀ (h2 : Heap) (tk : Nat), (∀ b o, s.heap.get? b = some o → h2.get? b = some o) → Q (items.toList.take i ++ [.ref h2.objs.size] ++ endOf items.toList i n) { s with heap := h2.push { cls := .type "list", data := .seq (midOf items.toList i n).toArray }, toks := tk }) :
    wpAny (model prog w) A (unpackItems (.ref l) n (some i)) Q E s := by
  have hlt : l ≠ s.heap.objs.size := by obtain ⟨o, ho, _⟩ := hL; exact Nat.ne_of_lt (Heap.lt_size ho)
  unfold unpackItems notIterableAtAll
  refine wpAny_bind (wpAny_bind (wpAny_specialOf hL.typeIs slot_list_iter.lookup (wpAny_pure ?_)))
  simp only [Bool.false_eq_true, if_false]
  refine wpAny_bind (wpAny_holding (wpAny_pyIter_list hL ?_))
  refine wpAny_bind (wpAny_holding (PySem.W.kun_draw hlt i 0 _ _ ⟨_, Heap.get?_push_size _ rfl, rfl, rfl⟩ (hL.push _) (by omega) fun h1 it1 sb => ?_))
  have l1 : h1.IsList l items := (hL.push _).extBut sb.extBut hlt
  rw [Nat.zero_add] at it1
  rw [List.drop_zero]
  have z : (items.toList.take i).length = i := by rw [List.length_take, Array.length_toList]; omega
  rw [if_neg (by rw [z]; omega)]
  have bI : s.heap.objs.size < h1.objs.size := by obtain ⟨o, ho, _⟩ := it1; exact Heap.lt_size ho
  have bl : l < h1.objs.size := by obtain ⟨o, ho, _⟩ := l1; exact Heap.lt_size ho
  exact un_tail (s := s) hi hn hz (.inr (.inr (.inl rfl))) (Walks.list (A := A.in1) hh s.heap.objs.size l hlt items) (fun j u st => st.1.typeIs) ⟨it1, l1⟩ bI bl fun h2 tk hk =>
    h h2 tk fun b o e => hk b o (Nat.ne_of_lt (Heap.lt_size e)) (sb.extBut b o (Nat.ne_of_lt (Heap.lt_size e)) (Heap.get?_push_of_some _ e))
theorem un_starT {l : Addr} {items : Array Value} {n i : Nat} {Q : List Value → Shared → Prop} (hL : IsTup s.heap l items) (hh : A.handled = none) (hi : i < n) (hn : n ≤ items.size + 1) (hz : items.size ≤ 16384)
    (h : ∀ (h2 : Heap) (tk : Nat), (∀ b o, s.heap.get? b = some o → h2.get? b = some o) → Q (items.toList.take i ++ [.ref h2.objs.size] ++ endOf items.toList i n) { s with heap := h2.push { cls := .type "list", data := .seq (midOf items.toList i n).toArray }, toks := tk }) :
    wpAny (model prog w) A (unpackItems (.ref l) n (some i)) Q E s := by
  have hlt : l ≠ s.heap.objs.size := by obtain ⟨o, ho, _⟩ := hL; exact Nat.ne_of_lt (Heap.lt_size ho)
  unfold unpackItems notIterableAtAll
  refine wpAny_bind (wpAny_bind (wpAny_specialOf hL.typeIs slot_tuple_iter.lookup (wpAny_pure ?_)))
  simp only [Bool.false_eq_true, if_false]
  refine wpAny_bind (wpAny_holding (iter_tuple hL ?_))
  refine wpAny_bind (wpAny_holding (draw_tuple hlt i 0 _ _ ⟨_, Heap.get?_push_size _ rfl, rfl, rfl⟩ (hL.push _) (by omega) fun h1 it1 sb => ?_))
  have l1 : IsTup h1 l items := (hL.push _).extBut sb.extBut hlt
  rw [Nat.zero_add] at it1
  rw [List.drop_zero]
  have z : (items.toList.take i).length = i := by rw [List.length_take, Array.length_toList]; omega
  rw [if_neg (by rw [z]; omega)]
  have bI : s.heap.objs.size < h1.objs.size := by obtain ⟨o, ho, _⟩ := it1; exact Heap.lt_size ho
  have bl : l < h1.objs.size := by obtain ⟨o, ho, _⟩ := l1; exact Heap.lt_size ho
  exact un_tail (s := s) hi hn hz (.inr (.inr (.inr rfl))) (Walks.tuple (A := A.in1) hh s.heap.objs.size l hlt items) (fun j u st => st.1.typeIs) ⟨it1, l1⟩ bI bl fun h2 tk hk =>
    h h2 tk fun b o e => hk b o (Nat.ne_of_lt (Heap.lt_size e)) (sb.extBut b o (Nat.ne_of_lt (Heap.lt_size e)) (Heap.get?_push_of_some _ e))
end
def midV (xs : List V) (i n : Nat) : List V := (xs.drop i).take (xs.length + 1 - n)
def endV (xs : List V) (i n : Nat) : List V := (xs.drop i).drop (xs.length + 1 - n)
def gStarV (K : Fg) (n i : Nat) (t : TGs) : TG := fun v σ H Q => ∃ a xs, v = .ref a ∧ (SqL K H a xs ∨ SqT K H a xs) ∧ n ≤ xs.length + 1 ∧ xs.length ≤ 16384 ∧
  ∀ D, H D = none → t (xs.take i ++ [.ref D] ++ endV xs i n) σ (upd H D (.lst (midV xs i n))) Q
theorem take_drop_rel {xs : List V} {us : List Value} (r : Vals xs us) (i n : Nat) : Vals (midV xs i n) (midOf us i n) ∧ Vals (endV xs i n) (endOf us i n) ∧ Vals (xs.take i) (us.take i) := by
  have l := r.length
  unfold midV midOf endV endOf
  rw [← l]
  exact ⟨(r.drop i).take _, (r.drop i).drop _, r.take i⟩
theorem pg_star {X : Cx} {es es0 : List Expr} {k : Nat} {pos : Pos} {t : TGs} {n i : Nat} (hc : X.calm = true) (h : PGs X es0 t) (he : (assignEach es X.env).map (·.2) = (assignEach es0 X.env).map (·.2) := by rfl) (hn : (assignEach es X.env).length = n := by rfl)
    (hst : (assignEach es X.env).findIdx? (·.1) = some i := by rfl) (hi : i < n := by decide) : PG X (.Tuple es k pos) (gStarV X.K n i t) := by
  refine ⟨fun pins s σ H v u Q I r hw => ?_⟩
  obtain ⟨a, xs, e1, hq, hl, hz, hw⟩ := hw
  subst e1
  cases r
  have fin : ∀ (its : List Value), Vals xs its → ∀ (h2 : Heap) (tk : Nat), (∀ b o, s.heap.get? b = some o → h2.get? b = some o) →
      wpAny (model X.prog X.w) X.A (assignInOrder ((assignEach es X.env).map (·.2)) (its.take i ++ [.ref h2.objs.size] ++ endOf its i n)) (fun _ s' => ∃ σ' H', Inv X pins σ' H' s' ∧ Q σ' H') X.xe { s with heap := h2.push { cls := .type "list", data := .seq (midOf its i n).toArray }, toks := tk } := fun its rv h2 tk up => by
    obtain ⟨r1, r2, r3⟩ := take_drop_rel rv i n
    have I2 : Inv X pins σ H { s with heap := h2 } := I.kept (t' := s.toks) up
    have hf : H h2.objs.size = none := I2.hok.fresh (Nat.le_refl _)
    have I3 := I2.laid (t' := tk) (h' := h2.push { cls := .type "list", data := .seq (midOf its i n).toArray }) (a := h2.objs.size) (o := .lst (midV xs i n)) (fun b u e => Heap.get?_push_of_some _ e) (Nat.le_refl _)
      ⟨by unfold midV; rw [List.length_take, List.length_drop]; have : (16384 : Nat) ≤ sizeLine := by decide
          omega, midOf its i n, 0, r1, Heap.get?_push_size _ rfl⟩
    rw [he]
    exact h.run pins _ σ _ _ _ Q I3 ((r3.append (.cons (show RelV (.ref h2.objs.size) (.ref h2.objs.size) from rfl) .nil)).append r2) (hw _ hf)
  rw [PyProof.Rows.assign_Tuple]
  refine wpAny_bind (wpAny_standAt ?_)
  unfold unpack
  rw [hn, hst]
  rcases hq with hq | hq
  · obtain ⟨its, rv, pl, _⟩ := I.list hq
    have hsz : its.toArray.size = xs.length := by simp [rv.length]
    refine wpAny_bind (wpAny_holding (un_starL pl.isList (I.ok.hd hc) hi (by rw [hsz]; exact hl) (by rw [hsz]; exact hz) fun h2 tk up => ?_))
    exact fin its rv h2 tk up
  · obtain ⟨its, rv, pl, _⟩ := I.tuple hq
    have hsz : its.toArray.size = xs.length := by simp [rv.length]
    refine wpAny_bind (wpAny_holding (un_starT pl (I.ok.hd hc) hi (by rw [hsz]; exact hl) (by rw [hsz]; exact hz) fun h2 tk up => ?_))
    exact fin its rv h2 tk up
section
variable {X : Cx} {W : WX} {τ : Type} [Sto τ] {K : Fg}
def starD (ds : List D) (i n : Nat) : Option (List D) := if n ≤ ds.length + 1 ∧ ds.length ≤ 16384 then some (ds.take i ++ [.lst ((ds.drop i).take (ds.length + 1 - n))] ++ (ds.drop i).drop (ds.length + 1 - n)) else none
def gStar (i n : Nat) (gs : Tgts) : Tgt := fun ρ d => match d with
  | .lst ds => (starD ds i n).bind fun es => gs ρ es
  | .tup ds => (starD ds i n).bind fun es => gs ρ es
  | _ => none
theorem Reps.mid {F : Fp} {H : Hp} {xs : List V} {ds : List D} (r : Reps K F H xs ds) (i n : Nat) : Reps K F H (midV xs i n) ((ds.drop i).take (ds.length + 1 - n)) := by
  unfold midV; rw [r.length]; exact (r.drop i).take _
theorem Reps.fin {F : Fp} {H : Hp} {xs : List V} {ds : List D} (r : Reps K F H xs ds) (i n : Nat) : Reps K F H (endV xs i n) ((ds.drop i).drop (ds.length + 1 - n)) := by
  unfold endV; rw [r.length]; exact (r.drop i).drop _
def unstar : Expr → Expr
  | .Starred e _ => e
  | e => e
theorem mg_star {es : List Expr} {k n i : Nat} {pos : Pos} {gs : Tgts} {vs : List Nat} (hc : X.calm = true) (h : PGs X (es.map unstar) (tTgs τ X.K gs vs)) (he : (assignEach es X.env).map (·.2) = (assignEach (es.map unstar) X.env).map (·.2) := by rfl)
    (hn : (assignEach es X.env).length = n := by rfl) (hst : (assignEach es X.env).findIdx? (·.1) = some i := by rfl) (hi : i < n := by decide) : PG X (.Tuple es k pos) (tTg τ X.K (gStar i n gs) vs) :=
  PG.imp (pg_star hc h he hn hst hi) fun v σ H Q ⟨C, ρ, t, d, A, r, ρ', e, k⟩ => by
    have fin : ∀ (xs : List V) (ds : List D), Reps X.K (Fo C.F ρ σ) H xs ds → (starD ds i n).bind (fun es => gs ρ es) = some ρ' → n ≤ xs.length + 1 ∧ xs.length ≤ 16384 ∧ ∀ q, H q = none → tTgs τ X.K gs vs (xs.take i ++ [.ref q] ++ endV xs i n) σ (upd H q (.lst (midV xs i n))) Q := fun xs ds rs e => by
      unfold starD at e
      have lr := rs.length
      by_cases c : n ≤ ds.length + 1 ∧ ds.length ≤ 16384
      · rw [if_pos c] at e
        have e' : gs ρ (ds.take i ++ [.lst ((ds.drop i).take (ds.length + 1 - n))] ++ (ds.drop i).drop (ds.length + 1 - n)) = some ρ' := e
        refine ⟨by omega, by omega, fun q nq => ?_⟩
        have sm : Same H (upd H q (.lst (midV xs i n))) := same_upd nq
        have A1 : At X.K C ρ t σ (upd H q (.lst (midV xs i n))) := A.next (Sm.of_same sm) (C.stay A.st sm)
        have rs1 := rs.same (Sm.of_same (F := Fo C.F ρ σ) sm)
        have nq' : ¬ Fo C.F ρ σ q := fun z => A.dom q z nq
        have mid : Rep X.K (Fo C.F ρ σ) (upd H q (.lst (midV xs i n))) (.ref q) (.lst ((ds.drop i).take (ds.length + 1 - n))) := .lst ⟨nq', .inl upd_same⟩ (rs1.mid i n)
        refine ⟨C, ρ, t, _, A1, ((rs1.take i).append (.cons mid .nil)).append (rs1.fin i n), ρ', e', fun σ' H' f m s A' => k σ' H' f (fun b o e => m b o (sm b o e)) ?_ A'⟩
        exact (Stp.of_sm (Sm.of_same (F := C.F) sm) fun _ => .inl).trans s
      · rw [if_neg c] at e; cases e
    cases r with
    | tup tf rs => obtain ⟨h1, h2, h3⟩ := fin _ _ rs e; exact ⟨_, _, rfl, .inr tf.sq, h1, h2, h3⟩
    | lst tf rs => obtain ⟨h1, h2, h3⟩ := fin _ _ rs e; exact ⟨_, _, rfl, .inl tf.sq, h1, h2, h3⟩
    | _ => cases e
end
end MM

namespace MM
open PySem PySem.Spec PyProof.Rows L2 RZ
section
variable {X : Cx} {W : WX} {τ : Type} [Sto τ] {K : Fg}
def enumD (ds : List D) : List D := ds.mapIdx fun i d => .tup [.int (i : Nat), d]
def fEnum : List D → Option (List D)
  | [.lst ds] => some (enumD ds)
  | _ => none
theorem rIt_enum {I : Fp → Hp → Prop} {F0 F : Fp} {H H' : Hp} {a : Addr} {vs : List V} {ds : List D} (hl : LstF K F H' a vs) (r : Reps K F H' vs ds) : rIt K I F0 F H H' (Ite K a) (enumD ds) := by
  have w : Walk (Ite K a) (enumD ds).length (fun H => SqL K H a vs) (YPair (fun i => some (.int (i : Nat))) (fun i => vs[i]?)) := by
    rw [show (enumD ds).length = vs.length by unfold enumD; rw [List.length_mapIdx, r.length]]
    exact walk_enum
  refine ⟨_, _, w, fun H2 s => (hl.step ⟨s, fun _ z => .inl z⟩).sq, fun Fc i H2 x H3 hi s dm y => ?_⟩
  obtain ⟨T, x0, y0, rfl, nT, rfl, e1, e2⟩ := y
  cases e1
  obtain ⟨d, ed, q⟩ := (r.step s).getV e2
  exact ⟨same_upd nT, .tup [.int (i : Nat), d], by unfold enumD; rw [List.getElem?_mapIdx, ed]; rfl, Rep.newTup (.cons (.int _) (.cons q .nil)) dm nT⟩
theorem mi_enum {e : Expr} {p pos tpos : Pos} {elts : List Expr} {kk : Nat} {m : ME τ (List D)} (hg : Gl X "enumerate") (hm : X.mg "enumerate" = none) (ha : PA X [e] (tA X.K W m)) (hs : starEach [e] X.env = [(false, eval e X.env)] := by rfl) :
    PI X (.Tuple elts kk tpos) (.Call (.Name "enumerate" p) [e] [] pos) (tI X.K W (e1 fEnum m)) := PI.imp (pi_enum hg hm ha hs) fun σ H R ⟨C, ρ, t, A, p⟩ => by
  refine use okI A p fun d t1 v H1 e1 s1 A1 r1 p1 => ?_
  unfold fEnum at p1
  split at p1
  · cases r1 with
    | cons r1 r2 =>
      cases r2
      cases r1 with
      | lst hl rs => exact ⟨_, _, rfl, hl.sq, p1 _ H1 (Sm.refl _ _) A1.st (rIt_enum hl rs)⟩
  · exact p1.elim
def zipD (xs ys : List D) : List D := List.zipWith (fun x y => .tup [x, y]) xs ys
theorem zip_get {xs ys : List D} {i : Nat} {d e : D} (h1 : xs[i]? = some d) (h2 : ys[i]? = some e) : (zipD xs ys)[i]? = some (.tup [d, e]) := by
  unfold zipD
  rw [List.getElem?_zipWith, h1, h2]
def blsD : List D → Option (List Bool)
  | [] => some []
  | .bl b :: r => (blsD r).map (b :: ·)
  | _ => none
theorem blsD_ok {F : Fp} {H : Hp} : ∀ {vs : List V} {ds : List D} {bs : List Bool}, Reps K F H vs ds → blsD ds = some bs → vs = bs.map V.bl
  | _, _, _, .nil, e => by cases e; rfl
  | _, _, bs, .cons (v := v) (vs := vs) (d := d) (ds := ds) r t, e => by
    cases d <;> first
      | (cases e; done)
      | skip
    rename_i b
    have e' : (blsD ds).map (b :: ·) = some bs := e
    cases q : blsD ds with
    | none => rw [q] at e'; cases e'
    | some l =>
      rw [q] at e'
      cases e'
      cases r
      rw [blsD_ok t q]
      rfl
def fAll : List D → Option D
  | [.lst ds] => (blsD ds).map fun bs => .bl (bs.all id)
  | _ => none
def fMaxL : List D → Option D
  | [.lst ds] => (intsD ds).bind fun ns => ns.max?.map .int
  | _ => none
theorem c_all : DCall K (rAll K) fAll := fun F0 F H xs ds z Q dm r q k => by
  unfold fAll at q
  split at q
  · obtain ⟨v, rfl, r0⟩ := r.one
    obtain ⟨a, vs, rfl, h1, rs⟩ := r0.lstOf
    rename_i ds
    cases e : blsD ds with
    | none => rw [e] at q; cases q
    | some bs =>
      rw [e] at q; cases q
      have ev := blsD_ok rs e
      subst ev
      exact ⟨a, bs, rfl, h1.sq, k _ _ (Same.refl H) (.bl _)⟩
  · cases q
theorem c_maxL : DCall K (rMax K) fMaxL := fun F0 F H xs ds z Q dm r q k => by
  unfold fMaxL at q
  split at q
  · obtain ⟨v, rfl, r0⟩ := r.one
    obtain ⟨a, vs, rfl, h1, rs⟩ := r0.lstOf
    rename_i ds
    cases e : intsD ds with
    | none => rw [e] at q; cases q
    | some ns =>
      rw [e] at q
      have q' : ns.max?.map D.int = some z := q
      cases em : ns.max? with
      | none => rw [em] at q'; cases q'
      | some m =>
        rw [em] at q'; cases q'
        have ev := intsD_ok rs e
        subst ev
        obtain ⟨hm, hx⟩ := List.max?_eq_some_iff.mp em
        refine ⟨a, ns, rfl, h1.sq, List.length_pos_of_mem hm, fun m' h1' h2' => ?_⟩
        have : m' = m := Int.le_antisymm (hx _ h1') (h2' _ hm)
        subst this
        exact k _ _ (Same.refl H) (.int _)
  · cases q
end
@[simp] theorem fEnum_lst {ds : List D} : fEnum [.lst ds] = some (enumD ds) := rfl
@[simp] theorem fAll_lst {ds : List D} : fAll [.lst ds] = (blsD ds).map fun bs => .bl (bs.all id) := rfl
@[simp] theorem blsD_nil : blsD [] = some [] := rfl
@[simp] theorem blsD_cons {b : Bool} {r : List D} : blsD (.bl b :: r) = (blsD r).map (b :: ·) := rfl
end MM

namespace MM
open PySem PySem.Spec PyProof.Rows L2
section
variable {K : Fg} {F F2 : Fp} {H : Hp}
def looseB : HO → Bool
  | .lst _ => true
  | .dK _ => true
  | .dT _ => true
  | .ext _ => true
  | _ => false
theorem OwnR.loose {K : Fg} {F : Fp} {H : Hp} {a : Addr} {u : HO} {x : Slot} (r : OwnR K F H a u x) : looseB u = true := by
  cases r with
  | lst _ => rfl
  | dct r => cases r <;> rfl
end
section
variable {X : Cx} {W : WX} {τ : Type} [Sto τ] {K : Fg}
end
section
variable {τ : Type} {ρ : Rho} {t : τ} {X : Str → Fds → τ → Prop}
end
end MM

namespace MM
open PySem PySem.Spec PyProof.Rows L2
section
variable {X : Cx} {W : WX} {τ : Type} [Sto τ] {K : Fg}
theorem PK.imp {e : List Keyword} {t t' : TA} (h : PK X e t) (i : ∀ σ H Q, t' σ H Q → t σ H Q) : PK X e t' := ⟨fun pos pins s σ H Q I q => h.run pos pins s σ H Q I (i σ H Q q)⟩
end
section
variable {τ : Type} {ρ : Rho} {t : τ} {Q : List D → τ → Prop} {X : Str → Fds → τ → Prop} {g : Tgt} {tt : ME τ Bool} {te : ME τ D}
def Slot.nown : Slot → Bool
  | .own _ => false
  | .dct .. => false
  | _ => true
@[simp] theorem nown_no : Slot.nown .no = true := rfl
@[simp] theorem nown_val {d : D} : Slot.nown (.val d) = true := rfl
@[simp] theorem wipeR_nil : wipeR ρ [] = ρ := rfl
@[simp] theorem wipeR_cons {u : Nat} {us : List Nat} : wipeR ρ (u :: us) = (wipeR ρ us).set u .no := rfl
@[simp] theorem noOwn_nil : noOwn ρ [] = true := rfl
@[simp] theorem noOwn_cons {u : Nat} {us : List Nat} : noOwn ρ (u :: us) = ((match ρ[u]? with | some s => s.nown | none => true) && noOwn ρ us) := by
  unfold noOwn
  rw [List.all_cons]
  congr 1
  cases ρ[u]? with
  | none => rfl
  | some s => cases s <;> rfl
@[simp] theorem oE_noEx {α : Type} {r : Res τ α} {Q : α → τ → Prop} : oE (noEx r) Q X = oE r Q (fun _ _ _ => False) := by cases r <;> rfl
@[simp] theorem oE_comp {mi : ME τ (List D)} {vs : List Nat} : oE (eComp mi vs g tt te ρ t) Q X = oE (mi ρ t) (fun ds t => (ds.length ≤ 16777216 ∧ noOwn ρ vs = true) ∧ oE (compL g tt te (wipeR ρ vs) ds t) Q X) X := by
  unfold eComp; rw [oE_bind]; congr; funext ds t
  by_cases h : ds.length ≤ 16777216 ∧ noOwn ρ vs = true
  · rw [if_pos h]; simp only [h, and_self, true_and]
  · rw [if_neg h]; simp only [oE_bad, h, false_and]
theorem oE_compNil : oE (compL g tt te ρ [] t) Q X = Q [] t := rfl
theorem oE_compCons {d : D} {ds : List D} : oE (compL g tt te ρ (d :: ds) t) Q X = ∃ ρ1, g ρ d = some ρ1 ∧ oE (tt ρ1 t) (fun b t => (b = true → oE (te ρ1 t) (fun y t => oE (compL g tt te ρ ds t) (fun ys t => Q (y :: ys) t) X) (fun _ _ _ => False)) ∧ (¬ b = true → oE (compL g tt te ρ ds t) Q X)) (fun _ _ _ => False) := by
  rw [show compL g tt te ρ (d :: ds) t = (match g ρ d with
    | some ρ1 => (noEx (tt ρ1 t)).bind fun b t => if b = true then (noEx (te ρ1 t)).bind fun y t => (compL g tt te ρ ds t).bind fun ys t => .ok (y :: ys) t else compL g tt te ρ ds t
    | none => .bad) from rfl]
  cases e : g ρ d with
  | none => simp
  | some ρ1 =>
    simp only [Option.some.injEq, exists_eq_left']
    cases tt ρ1 t with
    | ok b t1 =>
      simp only [noEx, Res.bind_ok, oE_ite, oE_ok]
      cases te ρ1 t1 with
      | ok y t2 => simp
      | ex n fs t2 => simp
      | bad => simp
    | ex n fs t1 => rfl
    | bad => rfl
@[simp] theorem fLst_lst {ds : List D} : fLst [.lst ds] = some ds := rfl
@[simp] theorem fLst_tup {ds : List D} : fLst [.tup ds] = some ds := rfl
@[simp] theorem fTup_lst {ds : List D} : fTup [.lst ds] = some (.tup ds) := rfl
@[simp] theorem fTup_tup {ds : List D} : fTup [.tup ds] = some (.tup ds) := rfl
end
section
variable {τ : Type} {P : Pt τ} {ρ : Rho} {t : τ}
@[simp] theorem oS_asgS {i n : Nat} {gs : Tgts} {m : ME τ D} : oS (sAsg (gStar i n gs) m ρ t) P = oE (m ρ t) (fun d t => ∃ ρ', gStar i n gs ρ d = some ρ' ∧ P.nx ρ' t) (fun n fs t => P.ex n fs ρ t) := oS_asgG
@[simp] theorem gStar_lst {i n : Nat} {gs : Tgts} {ds : List D} : gStar i n gs ρ (.lst ds) = (starD ds i n).bind fun es => gs ρ es := rfl
@[simp] theorem gStar_tup {i n : Nat} {gs : Tgts} {ds : List D} : gStar i n gs ρ (.tup ds) = (starD ds i n).bind fun es => gs ρ es := rfl
end
section
variable {τ : Type} {ρ : Rho} {t : τ} {X : Str → Fds → τ → Prop}
end
end MM

namespace MM
open PySem PySem.Spec PyProof.Rows L2 RZ
open PySem.Builtin (SmallTypes.nextOrEnd)
def SIt (kd : Bool) (h : Heap) (i l : Addr) (k : Nat) : Prop := match kd with
  | true => h.IsTupleIter i l k
  | false => h.IsListIter i l k
def SSq (kd : Bool) (h : Heap) (l : Addr) (xs : Array Value) : Prop := match kd with
  | true => h.IsTuple l xs
  | false => h.IsList l xs
abbrev IsZipS (h : Heap) (z TI TO : Addr) (f0 : Value) : Prop := h.get? z = some { cls := .type "zip", dict := none, data := .fields #[f0, .bool false, .bool true, .ref TI, .ref TO], slots := #[] }
section
variable {prog : Program} {w : World} {A : Around} {E : Value → Shared → Prop} {s : Shared} {kd : Bool} {h h' : Heap} {i l : Addr} {k : Nat} {xs : Array Value}
theorem SIt.at (x : SIt kd h i l k) (e : ∀ o, h.get? i = some o → h'.get? i = some o) : SIt kd h' i l k := by
  cases kd with
  | true => obtain ⟨o, h1, h2⟩ := x; exact ⟨o, e o h1, h2⟩
  | false => obtain ⟨o, h1, h2⟩ := x; exact ⟨o, e o h1, h2⟩
theorem SSq.at (x : SSq kd h l xs) (e : ∀ o, h.get? l = some o → h'.get? l = some o) : SSq kd h' l xs := by
  cases kd with
  | true => obtain ⟨o, h1, h2⟩ := x; exact ⟨o, e o h1, h2⟩
  | false => obtain ⟨o, h1, h2⟩ := x; exact ⟨o, e o h1, h2⟩
theorem SIt.ex (x : SIt kd h i l k) : ∃ o, h.get? i = some o ∧ ∀ v, o.data ≠ .cell v := by
  cases kd with
  | true => obtain ⟨o, h1, h2, h3⟩ := x; exact ⟨o, h1, fun v q => by rw [h3] at q; cases q⟩
  | false => obtain ⟨o, h1, h2, h3⟩ := x; exact ⟨o, h1, fun v q => by rw [h3] at q; cases q⟩
theorem nOE_item {x : Value} {Q : Option Value → Shared → Prop} (hi : SIt kd s.heap i l k) (hs : SSq kd s.heap l xs) (hx : xs[k]? = some x) (hQ : ∀ h', SIt kd h' i l (k + 1) → Heap.SameBut i s.heap h' → Q (some x) { s with heap := h' }) :
    wpAny (model prog w) A (SmallTypes.nextOrEnd (.ref i)) Q E s := by
  unfold SmallTypes.nextOrEnd
  cases kd with
  | false => exact wpAny_bind (wpAny_attempt (wpAny_nextOf_list_item hi hs hx fun h' a b => wpAny_pure (hQ h' a b)))
  | true => exact wpAny_bind (wpAny_attempt (nextOf_tuple_item hi hs hx fun h' a b => wpAny_pure (hQ h' a b)))
theorem nOE_end {Q : Option Value → Shared → Prop} (hh : A.handled = none) (hi : SIt kd s.heap i l k) (hs : SSq kd s.heap l xs) (hx : xs[k]? = none) (hQ : ∀ h', Heap.ExtBut i s.heap h' → Q none { s with heap := h' }) :
    wpAny (model prog w) A (SmallTypes.nextOrEnd (.ref i)) Q E s := by
  unfold SmallTypes.nextOrEnd
  have fin : ∀ (h' : Heap) (e : Addr), Heap.ExtBut i s.heap h' → (∃ o, h'.get? e = some o ∧ o.cls = .type "StopIteration") → wpAny (model prog w) A (do if ← isInstance (.ref e) (.type "StopIteration") then pure none else throw (.ref e)) Q E { s with heap := h' } := fun h' e a b => by
    obtain ⟨o, ho, hc⟩ := b
    refine wpAny_bind (wpAny_isInstance (T := "StopIteration") (b := true) ⟨o, ho, hc⟩ isSubtype_stop ?_)
    exact wpAny_pure (hQ h' a)
  cases kd with
  | false => exact wpAny_bind (wpAny_attempt (wpAny_nextOf_list_end hh hi hs hx fun h' e a b => fin h' e a b))
  | true => exact wpAny_bind (wpAny_attempt (nextOf_tuple_end hh hi hs hx fun h' e a b => fin h' e a b))
theorem zipS_item {z TI TO i1 i2 l1 l2 : Addr} {k1 k2 : Bool} {n : Nat} {xs ys : Array Value} {x y a b : Value} {Q : Value → Shared → Prop} (D : ZipApart z TI TO i1 i2 l1 l2)
    (hz : IsZipS s.heap z TI TO .none) (hTI : IsPair s.heap TI (.ref i1) (.ref i2)) (hTO : IsPair s.heap TO a b)
    (h1 : SIt k1 s.heap i1 l1 n) (h2 : SIt k2 s.heap i2 l2 n) (s1 : SSq k1 s.heap l1 xs) (s2 : SSq k2 s.heap l2 ys) (hx : xs[n]? = some x) (hy : ys[n]? = some y)
    (hQ : ∀ h', IsZipS h' z TI TO (rawInt s.heap.objs.size) → IsPair h' TO x y → SIt k1 h' i1 l1 (n + 1) → SIt k2 h' i2 l2 (n + 1) → IsPair h' s.heap.objs.size x y → h'.objs.size = s.heap.objs.size + 1 →
      (∀ c o, c ≠ z → c ≠ TO → c ≠ i1 → c ≠ i2 → s.heap.get? c = some o → h'.get? c = some o) → Q (.ref s.heap.objs.size) { s with heap := h' }) :
    wpAny (model prog w) A (Builtin.«zip.__next__» ⟨[.ref z], []⟩) (fun fin s' => ∃ v, fin = .done (.ret v) ∧ Q v s') E s := by
  show wpAny _ _ (field (.ref z) 2 >>= _) _ _ _
  refine wpAny_bind (wpAny_field hz rfl (x := .bool true) rfl ?_)
  show wpAny _ _ (field (.ref z) 3 >>= _) _ _ _
  refine wpAny_bind (wpAny_field hz rfl (x := .ref TI) rfl (wpAny_bind (wpAny_seqItems hTI rfl ?_)))
  show wpAny _ _ (Builtin.SmallTypes.ownedTupleIsFree (.ref z) >>= _) _ _ _
  unfold Builtin.SmallTypes.ownedTupleIsFree
  refine wpAny_bind (wpAny_bind (wpAny_field hz rfl (x := .none) rfl (wpAny_pure ?_)))
  simp only [if_true]
  refine wpAny_bind (wpAny_rule (wpAny_bind (wpAny_field hz rfl (x := .ref TO) rfl (wpAny_bind (wpAny_setField_rec hz (by simp) fun g1 z1 b1 => ?_)))))
  replace z1 : IsZipS g1 z TI TO .ellipsis := z1
  simp only [List.zipIdx_cons, List.zipIdx_nil, List.forIn_cons, List.forIn_nil]
  refine wpAny_bind (wpAny_bind (wpAny_bind (wpAny_onRaise ?_)))
  show wpAny _ _ (SmallTypes.nextOrEnd (.ref i1)) _ _ _
  refine nOE_item (h1.at fun o e => b1.extBut _ _ D.i1z e) (s1.at fun o e => b1.extBut _ _ D.l1z e) hx fun g2 it2 b2 => ?_
  have t2 : IsPair g2 TO a b := b2.extBut _ _ D.TOi1 (b1.extBut _ _ D.TOz hTO)
  dsimp only
  refine wpAny_bind (wpAny_seqItems t2 rfl (wpAny_bind (wpAny_updateSeq_pair t2 fun g3 t3 b3 => ?_)))
  replace t3 : IsPair g3 TO x b := t3
  refine wpAny_bind (wpAny_letGo (wpAny_pure ?_))
  refine wpAny_bind (wpAny_bind (wpAny_onRaise ?_))
  show wpAny _ _ (SmallTypes.nextOrEnd (.ref i2)) _ _ _
  refine nOE_item (h2.at fun o e => b3.extBut _ _ D.TOi2.symm (b2.extBut _ _ D.i12.symm (b1.extBut _ _ D.i2z e))) (s2.at fun o e => b3.extBut _ _ D.l2TO (b2.extBut _ _ D.l2i1 (b1.extBut _ _ D.l2z e))) hy fun g4 it4 b4 => ?_
  have t4 : IsPair g4 TO x b := b4.extBut _ _ D.TOi2 t3
  dsimp only
  refine wpAny_bind (wpAny_seqItems t4 rfl (wpAny_bind (wpAny_updateSeq_pair t4 fun g5 t5 b5 => ?_)))
  replace t5 : IsPair g5 TO x y := t5
  refine wpAny_bind (wpAny_letGo (wpAny_pure (wpAny_pure ?_)))
  refine wpAny_bind (wpAny_seqItems t5 rfl (wpAny_bind (wpAny_newTuple ?_)))
  have sz5 : g5.objs.size = s.heap.objs.size := by rw [b5.1, b4.1, b3.1, b2.1, b1.1]
  have z5 : IsZipS g5 z TI TO .ellipsis := b5.extBut _ _ D.TOz.symm (b4.extBut _ _ D.i2z.symm (b3.extBut _ _ D.TOz.symm (b2.extBut _ _ D.i1z.symm z1)))
  have k5 : ∀ c o, c ≠ z → c ≠ TO → c ≠ i1 → c ≠ i2 → s.heap.get? c = some o → g5.get? c = some o := fun c o c1 c2 c3 c4 e => b5.extBut _ _ c2 (b4.extBut _ _ c4 (b3.extBut _ _ c2 (b2.extBut _ _ c3 (b1.extBut _ _ c1 e))))
  have i5 : SIt k1 g5 i1 l1 (n + 1) := it2.at fun o e => b5.extBut _ _ D.TOi1.symm (b4.extBut _ _ D.i12 (b3.extBut _ _ D.TOi1.symm e))
  have j5 : SIt k2 g5 i2 l2 (n + 1) := it4.at fun o e => b5.extBut _ _ D.TOi2.symm e
  have zl : z < g5.objs.size := Heap.lt_size z5
  show wpAny _ _ (Builtin.SmallTypes.ownedTupleHandOut (.ref z) (.ref g5.objs.size) >>= _) _ _ _
  unfold Builtin.SmallTypes.ownedTupleHandOut
  have z6 : IsZipS (g5.push { cls := .type "tuple", data := .seq #[x, y] }) z TI TO .ellipsis := Heap.get?_push_of_some _ z5
  refine wpAny_bind (wpAny_bind (wpAny_setField_rec z6 (by simp) fun g7 z7 b7 => ?_))
  replace z7 : IsZipS g7 z TI TO (rawInt g5.objs.size) := z7
  refine wpAny_setField_rec z7 (by simp) fun g8 z8 b8 => ?_
  replace z8 : IsZipS g8 z TI TO (rawInt g5.objs.size) := z8
  have up : ∀ c o, c ≠ z → g5.get? c = some o → g8.get? c = some o := fun c o c1 e => b8.extBut _ _ c1 (b7.extBut _ _ c1 (Heap.get?_push_of_some _ e))
  have new : IsPair g8 g5.objs.size x y := b8.extBut _ _ (Nat.ne_of_gt zl) (b7.extBut _ _ (Nat.ne_of_gt zl) (Heap.get?_push_size _ rfl))
  have sz8 : g8.objs.size = g5.objs.size + 1 := by rw [b8.1, b7.1, Heap.size_push]
  rw [sz5] at z8 new sz8
  refine wpAny_pure ⟨_, rfl, ?_⟩
  show Q (.ref g5.objs.size) _
  rw [sz5]
  exact hQ g8 z8 (up _ _ D.TOz t5) (i5.at fun o e => up _ o D.i1z e) (j5.at fun o e => up _ o D.i2z e) new sz8 fun c o c1 c2 c3 c4 e => up c o c1 (k5 c o c1 c2 c3 c4 e)
theorem zipS_end {z TI TO i1 i2 l1 l2 : Addr} {k1 k2 : Bool} {n : Nat} {xs ys : Array Value} {a b : Value} {Q : Fin → Shared → Prop} (hh : A.handled = none) (D : ZipApart z TI TO i1 i2 l1 l2)
    (hz : IsZipS s.heap z TI TO .none) (hTI : IsPair s.heap TI (.ref i1) (.ref i2)) (hTO : IsPair s.heap TO a b)
    (h1 : SIt k1 s.heap i1 l1 n) (h2 : SIt k2 s.heap i2 l2 n) (s1 : SSq k1 s.heap l1 xs) (s2 : SSq k2 s.heap l2 ys) (hx : xs[n]? = none) (hy : ys[n]? = none)
    (hE : ∀ h' e, (∀ c o, c ≠ z → c ≠ TO → c ≠ i1 → c ≠ i2 → s.heap.get? c = some o → h'.get? c = some o) → (∃ o, h'.get? e = some o ∧ o.cls = .type "StopIteration") → E (.ref e) { s with heap := h' }) :
    wpAny (model prog w) A (Builtin.«zip.__next__» ⟨[.ref z], []⟩) Q E s := by
  show wpAny _ _ (field (.ref z) 2 >>= _) _ _ _
  refine wpAny_bind (wpAny_field hz rfl (x := .bool true) rfl ?_)
  show wpAny _ _ (field (.ref z) 3 >>= _) _ _ _
  refine wpAny_bind (wpAny_field hz rfl (x := .ref TI) rfl (wpAny_bind (wpAny_seqItems hTI rfl ?_)))
  show wpAny _ _ (Builtin.SmallTypes.ownedTupleIsFree (.ref z) >>= _) _ _ _
  unfold Builtin.SmallTypes.ownedTupleIsFree
  refine wpAny_bind (wpAny_bind (wpAny_field hz rfl (x := .none) rfl (wpAny_pure ?_)))
  simp only [if_true]
  refine wpAny_bind (wpAny_rule (wpAny_bind (wpAny_field hz rfl (x := .ref TO) rfl (wpAny_bind (wpAny_setField_rec hz (by simp) fun g1 z1 b1 => ?_)))))
  replace z1 : IsZipS g1 z TI TO .ellipsis := z1
  simp only [List.zipIdx_cons, List.zipIdx_nil, List.forIn_cons, List.forIn_nil]
  refine wpAny_bind (wpAny_bind (wpAny_bind (wpAny_onRaise ?_)))
  show wpAny _ _ (SmallTypes.nextOrEnd (.ref i1)) _ _ _
  refine nOE_end hh (h1.at fun o e => b1.extBut _ _ D.i1z e) (s1.at fun o e => b1.extBut _ _ D.l1z e) hx fun g2 b2 => ?_
  dsimp only
  have z2 : IsZipS g2 z TI TO .ellipsis := b2 _ _ D.i1z.symm z1
  refine wpAny_bind (wpAny_setField_rec z2 (by simp) fun g3 z3 b3 => ?_)
  refine wpAny_bind ?_
  show wpAny _ _ (forIn [(Value.ref i2, 1)] _ _ >>= _) _ _ _
  simp only [List.forIn_cons, List.forIn_nil]
  refine wpAny_bind (wpAny_bind (wpAny_bind ?_))
  refine nOE_end (s := { s with heap := g3 }) hh (h2.at fun o e => b3.extBut _ _ D.i2z (b2 _ _ D.i12.symm (b1.extBut _ _ D.i2z e))) (s2.at fun o e => b3.extBut _ _ D.l2z (b2 _ _ D.l2i1 (b1.extBut _ _ D.l2z e))) hy fun g4 b4 => ?_
  dsimp only [Option.isSome]
  simp only [Bool.false_eq_true, if_false]
  refine wpAny_pure (wpAny_pure (wpAny_bind (wpAny_rule ?_)))
  show wpAny _ _ (newExc (.type "StopIteration") [] >>= _) _ _ _
  refine wpAny_bind ?_
  simp only [newExc, newTuple]
  refine wpAny_bind (wpAny_newObj_type ?_ (by size_fits))
  refine wpAny_bind (m := firstArgMember _ _) (wpAny_of_eq (a := Value.none) (by first | rfl | (simp only [firstArgMember]; rfl)) ?_)
  refine wpAny_newObj_type ?_ (by size_fits)
  simp only [raiseNew]
  refine wpAny_bind (wpAny_handled ?_)
  first | rw [show A.in1.handled = none from hh] | rw [hh]
  refine wpAny_bind (wpAny_pure (wpAny_throw ?_))
  refine hE _ _ (fun c o c1 c2 c3 c4 e => Heap.get?_push_of_some _ (Heap.get?_push_of_some _ (b4 _ _ c4 (b3.extBut _ _ c1 (b2 _ _ c3 (b1.extBut _ _ c1 e)))))) ⟨_, Heap.get?_push_size _ rfl, rfl⟩

theorem callTypeKw {T newId initId : String} {Bn Bi : Builtin} {args : List Value} {kw : List (Str × Value)} {S : PySem.Spec} {Q Q₁ : Value → Shared → Prop} (ft : TypeCalled T newId initId) (hct : checkTypeCall T ⟨args, kw⟩ = pure ())
    (hcn : checkBuiltinCall newId ⟨.type T :: args, kw⟩ = pure ()) (eN : entryFor table newId = some Bn) (eI : entryFor table initId = some Bi) (g : Meets (Bn ⟨.type T :: args, kw⟩) S) (h : S A.in1 (wants Q₁ E) s)
    (nx : ∀ obj s₁, Q₁ obj s₁ → s₁.TypeIs obj T ∧ argsOk initId ⟨obj :: args, kw⟩ ∧ ∃ Si, Meets (Bi ⟨obj :: args, kw⟩) Si ∧ Si A.in1 (wants (fun r s₂ => r = .none ∧ Q obj s₂) E) s₁) :
    wpAny (model prog w) A (call (.type T) args kw) Q E s := by
  obtain ⟨c, tl, hmro⟩ := ft.mro; have hmade := ft.made; have hsub := ft.sub
  refine wpAny_call (codeAny_of_tree ?_); show wpAny _ _ (callAny (.type T) _) _ _ _
  refine wpAny_pure ⟨Code.quiet_builtin _ (by decide +kernel), codeAny_builtin F.entry_type_call ?_⟩; rw [Around.under_plain (weight_type_call_type T args kw) (units_type_call_type T args kw)]
  have h1 := ft.notType; have h2 := ft.canCreate
  repeat (any_goals (first | assumption | wp_step))
  refine codeAny_mono (codeAny_call_builtin ft.plain eN (wpAny_of_eq hcn (g prog w A.in1 _ s h))) fun r s₁ hr => ?_
  cases r with
  | error e => exact hr
  | ok fl =>
    cases fl with
    | ret obj =>
      obtain ⟨hT, hok, Si, gi, hsi⟩ := nx _ _ hr
      have hli := ft.init.lookup; have hbi := ft.init.bind obj
      repeat (any_goals (first | assumption | wp_step))
      refine codeAny_mono (codeAny_call_builtin ft.init.plain eI (ft.init.check _ _ _ _ _ _ _ _ hT hok (gi prog w A.in1 _ s₁ hsi))) fun r₂ s₂ hr₂ => ?_
      cases r₂ with
      | error e => exact hr₂
      | ok fl₂ =>
        cases fl₂ with
        | ret r => obtain ⟨rfl, hq⟩ := hr₂; repeat (any_goals (first | assumption | wp_step))
        | _ => exact hr₂.elim
    | _ => exact hr.elim
theorem objInitKw {T newId : String} {self a0 : Value} {rest : List Value} {kw : List (Str × Value)} (hl : typeLookup (.type T) "__init__" = pure (some (.builtin "object.__init__"))) (hm : Bind.madeBy (.type T) = pure (some newId)) (hne : (some newId != some "object.__new__") = true) :
    Meets (Builtin.«object.__init__» ⟨self :: a0 :: rest, kw⟩) (fun _ R s => s.TypeIs self T ∧ R (.ok (.ret .none)) s) := by
  refine Meets.of_wp fun prog w A R s hs => ?_
  obtain ⟨hT, hq⟩ := hs
  repeat (any_goals (first | assumption | wp_step))
  all_goals exact ⟨_, rfl, hq⟩
theorem typeCall_zipS (a b : Value) : checkTypeCall "zip" ⟨[a, b], [("strict", .bool true)]⟩ = pure () := by kernel_rfl
theorem newCall_zipS (a b : Value) : checkBuiltinCall "zip.__new__" ⟨[.type "zip", a, b], [("strict", .bool true)]⟩ = pure () := by kernel_rfl
theorem args_object_init_kw (a b c : Value) : argsOk "object.__init__" ⟨[a, b, c], [("strict", .bool true)]⟩ := by unfold argsOk; rw [signature?_of (id := "object.__init__") (n := ['_', '_', 't', 'i', 'n', 'i', '_', '_']) (o := ['t', 'c', 'e', 'j', 'b', 'o']) (by kernel_rfl) PySem.F.owner_object]; kernel_rfl
def itNm (kd : Bool) : String := if kd = true then "tuple_iterator" else "list_iterator"
abbrev zS1 (k1 : Bool) (h : Heap) (l1 : Addr) : Heap := h.push { cls := .type (itNm k1), data := .fields #[.ref l1, .int 0 0] }
abbrev zS2 (k1 k2 : Bool) (h : Heap) (l1 l2 : Addr) : Heap := (zS1 k1 h l1).push { cls := .type (itNm k2), data := .fields #[.ref l2, .int 0 0] }
abbrev zS3 (k1 k2 : Bool) (h : Heap) (l1 l2 : Addr) : Heap := (zS2 k1 k2 h l1 l2).push { cls := .type "tuple", data := .seq #[.ref h.objs.size, .ref (zS1 k1 h l1).objs.size] }
abbrev zS4 (k1 k2 : Bool) (h : Heap) (l1 l2 : Addr) : Heap := (zS3 k1 k2 h l1 l2).push { cls := .type "tuple", data := .seq #[.none, .none] }
abbrev zS5 (k1 k2 : Bool) (h : Heap) (l1 l2 : Addr) : Heap := (zS4 k1 k2 h l1 l2).push { cls := .type "zip", data := .fields #[.none, .bool false, .bool true, .ref (zS2 k1 k2 h l1 l2).objs.size, .ref (zS3 k1 k2 h l1 l2).objs.size] }
theorem SSq.push {kd : Bool} {h : Heap} {l : Addr} {xs : Array Value} (o : Obj) (x : SSq kd h l xs) : SSq kd (h.push o) l xs := x.at fun _ e => Heap.get?_push_of_some _ e
theorem pyIterX {kd : Bool} {l : Addr} {xs : Array Value} {Q : Value → Shared → Prop} (hl : SSq kd s.heap l xs) (hQ : Q (.ref s.heap.objs.size) { s with heap := s.heap.push { cls := .type (itNm kd), data := .fields #[.ref l, .int 0 0] } }) : wpAny (model prog w) A (pyIter (.ref l)) Q E s := by
  cases kd with
  | true => exact wpAny_pyIter_tuple hl hQ
  | false => exact wpAny_pyIter_list hl hQ
theorem meets_zipS (k1 k2 : Bool) (l1 l2 : Addr) (xs ys : Array Value) :
    Meets (Builtin.«zip.__new__» ⟨[.type "zip", .ref l1, .ref l2], [("strict", .bool true)]⟩) (fun _ R s => SSq k1 s.heap l1 xs ∧ SSq k2 s.heap l2 ys ∧ R (.ok (.ret (.ref (zS4 k1 k2 s.heap l1 l2).objs.size))) { s with heap := zS5 k1 k2 s.heap l1 l2 }) :=
  .of_wp fun prog w A R s h => by
    obtain ⟨hp, g, d, tk, os⟩ := s; obtain ⟨hl1, hl2, h⟩ := h
    have hsub := sub_zip
    have hL1 : SSq k1 (Shared.heap ⟨hp, g, d, tk, os⟩) l1 xs := hl1
    have hL2 : SSq k2 (Shared.heap ⟨hp.push { cls := .type (itNm k1), data := .fields #[.ref l1, .int 0 0] }, g, d, tk, os⟩) l2 ys := SSq.push _ hl2
    wp_walk using pyIterX hL1, pyIterX hL2
    exact ⟨_, rfl, h⟩
theorem SIt.mk0 {kd : Bool} {h : Heap} {i l : Addr} (e : h.get? i = some { cls := .type (itNm kd), data := .fields #[.ref l, .int 0 0] }) : SIt kd h i l 0 := by
  cases kd
  · exact ⟨_, e, rfl, rfl⟩
  · exact ⟨_, e, rfl, rfl⟩
theorem call_zipS {k1 k2 : Bool} {l1 l2 : Addr} {xs ys : Array Value} {Q : Value → Shared → Prop} (hl1 : SSq k1 s.heap l1 xs) (hl2 : SSq k2 s.heap l2 ys)
    (h : ∀ h', IsZipS h' (s.heap.objs.size + 4) (s.heap.objs.size + 2) (s.heap.objs.size + 3) .none → IsPair h' (s.heap.objs.size + 2) (.ref s.heap.objs.size) (.ref (s.heap.objs.size + 1)) → IsPair h' (s.heap.objs.size + 3) .none .none →
      SIt k1 h' s.heap.objs.size l1 0 → SIt k2 h' (s.heap.objs.size + 1) l2 0 → h'.objs.size = s.heap.objs.size + 5 → (∀ c o, s.heap.get? c = some o → h'.get? c = some o) → Q (.ref (s.heap.objs.size + 4)) { s with heap := h' }) :
    wpAny (model prog w) A (call (.type "zip") [.ref l1, .ref l2] [("strict", .bool true)]) Q E s := by
  have z1 : (zS1 k1 s.heap l1).objs.size = s.heap.objs.size + 1 := Heap.size_push ..
  have z2 : (zS2 k1 k2 s.heap l1 l2).objs.size = s.heap.objs.size + 2 := by rw [Heap.size_push, z1]
  have z3 : (zS3 k1 k2 s.heap l1 l2).objs.size = s.heap.objs.size + 3 := by rw [Heap.size_push, z2]
  have z4 : (zS4 k1 k2 s.heap l1 l2).objs.size = s.heap.objs.size + 4 := by rw [Heap.size_push, z3]
  have z5 : (zS5 k1 k2 s.heap l1 l2).objs.size = s.heap.objs.size + 5 := by rw [Heap.size_push, z4]
  have up : ∀ c o, (zS4 k1 k2 s.heap l1 l2).get? c = some o → (zS5 k1 k2 s.heap l1 l2).get? c = some o := fun c o e => Heap.get?_push_of_some _ e
  have g5 : (zS5 k1 k2 s.heap l1 l2).get? (zS4 k1 k2 s.heap l1 l2).objs.size = some { cls := .type "zip", data := .fields #[.none, .bool false, .bool true, .ref (zS2 k1 k2 s.heap l1 l2).objs.size, .ref (zS3 k1 k2 s.heap l1 l2).objs.size] } := Heap.get?_push_size _ rfl
  have g4 : (zS5 k1 k2 s.heap l1 l2).get? (zS3 k1 k2 s.heap l1 l2).objs.size = some { cls := .type "tuple", data := .seq #[.none, .none] } := up _ _ (Heap.get?_push_size _ rfl)
  have g3 : (zS5 k1 k2 s.heap l1 l2).get? (zS2 k1 k2 s.heap l1 l2).objs.size = some { cls := .type "tuple", data := .seq #[.ref s.heap.objs.size, .ref (zS1 k1 s.heap l1).objs.size] } := up _ _ (Heap.get?_push_of_some _ (Heap.get?_push_size _ rfl))
  have g2 : (zS5 k1 k2 s.heap l1 l2).get? (zS1 k1 s.heap l1).objs.size = some { cls := .type (itNm k2), data := .fields #[.ref l2, .int 0 0] } := up _ _ (Heap.get?_push_of_some _ (Heap.get?_push_of_some _ (Heap.get?_push_size _ rfl)))
  have g1 : (zS5 k1 k2 s.heap l1 l2).get? s.heap.objs.size = some { cls := .type (itNm k1), data := .fields #[.ref l1, .int 0 0] } := up _ _ (Heap.get?_push_of_some _ (Heap.get?_push_of_some _ (Heap.get?_push_of_some _ (Heap.get?_push_size _ rfl))))
  refine callTypeKw (Q₁ := fun obj s₁ => s₁.TypeIs obj "zip" ∧ Q obj s₁) F.called_zip (typeCall_zipS _ _) (newCall_zipS _ _) F.entry_zip_new F.entry_object_init (meets_zipS k1 k2 l1 l2 xs ys) ⟨hl1, hl2, ?_⟩ fun obj _ hq =>
    ⟨hq.1, args_object_init_kw obj _ _, _, objInitKw F.called_zip.init.lookup F.called_zip.made (by decide), hq.1, rfl, hq.2⟩
  show _ ∧ _
  rw [z2, z3, z4] at g5; rw [z1, z2] at g3; rw [z3] at g4; rw [z1] at g2; rw [z4]
  exact ⟨⟨_, g5, rfl⟩, h _ g5 g3 g4 (SIt.mk0 g1) (SIt.mk0 g2) z5 fun c o x => up c o (Heap.get?_push_of_some _ (Heap.get?_push_of_some _ (Heap.get?_push_of_some _ (Heap.get?_push_of_some _ x))))⟩
theorem pyNext_zipS_item {z TI TO i1 i2 l1 l2 : Addr} {k1 k2 : Bool} {n : Nat} {xs ys : Array Value} {x y a b : Value} {Q : Option Value → Shared → Prop} (D : ZipApart z TI TO i1 i2 l1 l2)
    (hz : IsZipS s.heap z TI TO .none) (hTI : IsPair s.heap TI (.ref i1) (.ref i2)) (hTO : IsPair s.heap TO a b) (h1 : SIt k1 s.heap i1 l1 n) (h2 : SIt k2 s.heap i2 l2 n) (s1 : SSq k1 s.heap l1 xs) (s2 : SSq k2 s.heap l2 ys) (hx : xs[n]? = some x) (hy : ys[n]? = some y)
    (hQ : ∀ h', IsZipS h' z TI TO (rawInt s.heap.objs.size) → IsPair h' TO x y → SIt k1 h' i1 l1 (n + 1) → SIt k2 h' i2 l2 (n + 1) → IsPair h' s.heap.objs.size x y → h'.objs.size = s.heap.objs.size + 1 →
      (∀ c o, c ≠ z → c ≠ TO → c ≠ i1 → c ≠ i2 → s.heap.get? c = some o → h'.get? c = some o) → Q (some (.ref s.heap.objs.size)) { s with heap := h' }) : wpAny (model prog w) A (pyNext (.ref z)) Q E s := by
  have hT : s.TypeIs (.ref z) "zip" := ⟨_, hz, rfl⟩
  unfold pyNext
  exact wpAny_bind (wpAny_attempt (wpAny_callSpecial?_slot (name := Str.ofString "__next__") hT F.slot_zip_next (wpAny_call_entry F.slot_zip_next hT F.entry_zip_next
    (zipS_item D hz hTI hTO h1 h2 s1 s2 hx hy fun h' a1 a2 a3 a4 a5 a6 a7 => wpAny_pure (hQ h' a1 a2 a3 a4 a5 a6 a7)) (F.args_zip_next_1 _))))
theorem pyNext_zipS_end {z TI TO i1 i2 l1 l2 : Addr} {k1 k2 : Bool} {n : Nat} {xs ys : Array Value} {a b : Value} {Q : Option Value → Shared → Prop} (hh : A.handled = none) (D : ZipApart z TI TO i1 i2 l1 l2)
    (hz : IsZipS s.heap z TI TO .none) (hTI : IsPair s.heap TI (.ref i1) (.ref i2)) (hTO : IsPair s.heap TO a b) (h1 : SIt k1 s.heap i1 l1 n) (h2 : SIt k2 s.heap i2 l2 n) (s1 : SSq k1 s.heap l1 xs) (s2 : SSq k2 s.heap l2 ys) (hx : xs[n]? = none) (hy : ys[n]? = none)
    (hQ : ∀ h', (∀ c o, c ≠ z → c ≠ TO → c ≠ i1 → c ≠ i2 → s.heap.get? c = some o → h'.get? c = some o) → Q none { s with heap := h' }) : wpAny (model prog w) A (pyNext (.ref z)) Q E s := by
  have hT : s.TypeIs (.ref z) "zip" := ⟨_, hz, rfl⟩
  unfold pyNext
  refine wpAny_bind (wpAny_attempt (wpAny_callSpecial?_slot (name := Str.ofString "__next__") hT F.slot_zip_next (wpAny_call_entry F.slot_zip_next hT F.entry_zip_next (zipS_end hh D hz hTI hTO h1 h2 s1 s2 hx hy fun h' e hk he => ?_) (F.args_zip_next_1 _))))
  obtain ⟨o, ho, hc⟩ := he
  exact wpAny_bind (wpAny_isInstance (T := "StopIteration") (b := true) ⟨o, ho, hc⟩ isSubtype_stop (wpAny_pure (hQ _ hk)))
theorem letGoS {elts : List Expr} {x1} {pos : Pos} {z TI TO T : Addr} {Q : Unit → Shared → Prop} (hz : IsZipS s.heap z TI TO (rawInt T)) (hQ : ∀ h', IsZipS h' z TI TO .none → Heap.SameBut z s.heap h' → Q () { s with heap := h' }) :
    wpAny (model prog w) A (letOwnedTupleGo (.Tuple elts x1 pos) (.ref z) (.ref T)) Q E s := by
  unfold letOwnedTupleGo
  refine wpAny_bind (wpAny_load hz ?_)
  show wpAny _ _ (if (["enumerate", "zip", "dict_itemiterator", "dict_reverseitemiterator", "odict_iterator", "itertools.zip_longest", "itertools.pairwise"].contains "zip" && (#[rawInt T, .bool false, .bool true, .ref TI, .ref TO] : Array Value)[0]? == some (rawInt T)) = true then _ else _) Q E s
  rw [if_pos (by simp)]
  refine wpAny_bind (wpAny_rule ?_); show wpAny _ _ (setField (.ref z) 0 .none) Q E s
  exact wpAny_setField_rec hz (by simp) fun h' hz' hs' => hQ h' hz' hs'
theorem pyIterS {z TI TO : Addr} {f0 : Value} {Q : Value → Shared → Prop} (hz : IsZipS s.heap z TI TO f0) (h : Q (.ref z) s) : wpAny (model prog w) A (pyIter (.ref z)) Q E s := by
  have hT : s.TypeIs (.ref z) "zip" := ⟨_, hz, rfl⟩
  refine wpAny_pyIter_slot hT F.slot_zip_iter (wpAny_call_entry F.slot_zip_iter hT F.entry_zip_iter ?_ (F.args_zip_iter_1 _))
  show wpAny _ _ (ret (.ref z)) _ _ s; exact wpAny_pure ⟨_, rfl, "zip", _, hT, F.slot_zip_next.lookup, h⟩
end
def SqX (kd : Bool) (K : Fg) (H : Hp) (a : Addr) (xs : List V) : Prop := match kd with
  | true => SqT K H a xs
  | false => SqL K H a xs
theorem SqX.sq {kd : Bool} {X : Cx} {pins : List (Addr × Obj)} {σ : L2.St} {H : Hp} {s : Shared} {a : Addr} {xs : List V} (h : SqX kd X.K H a xs) (I : Inv X pins σ H s) : ∃ its : List Value, Vals xs its ∧ SSq kd s.heap a its.toArray ∧ a < s.heap.objs.size := by
  cases kd with
  | true =>
    obtain ⟨its, rv, p, _⟩ := I.tuple h
    obtain ⟨o, ho, _⟩ := id p
    exact ⟨its, rv, p, Heap.lt_size ho⟩
  | false =>
    obtain ⟨its, rv, p, _⟩ := I.list h
    exact ⟨its, rv, p.isList, p.lt⟩
theorem SqX.inj {kd : Bool} {X : Cx} {pins : List (Addr × Obj)} {σ : L2.St} {H : Hp} {s : Shared} {a : Addr} {xs ys : List V} (I : Inv X pins σ H s) (h : SqX kd X.K H a xs) (h2 : SqX kd X.K H a ys) : xs = ys := by
  cases kd with
  | true => exact I.tuple_inj h h2
  | false => exact I.list_inj h h2
def ItzS (k1 k2 : Bool) (K : Fg) (a b : Addr) : It :=
  ⟨fun i H => ∃ (xs ys : List V) (x y : V), SqX k1 K H a xs ∧ SqX k2 K H b ys ∧ xs[i]? = some x ∧ ys[i]? = some y,
    fun i H v H' => ∃ T x y, v = .ref T ∧ H T = none ∧ H' = upd H T (.tup [x, y]) ∧ (∀ xs, SqX k1 K H a xs → xs[i]? = some x) ∧ ∀ ys, SqX k2 K H b ys → ys[i]? = some y,
    fun i H => ∃ xs ys : List V, SqX k1 K H a xs ∧ SqX k2 K H b ys ∧ xs.length ≤ i ∧ ys.length ≤ i⟩
theorem turn_zipS {P : Program} {w : World} {K : Fg} {k1 k2 : Bool} {elts : List Expr} {kk : Nat} {tpos : Pos} {a b z TI TO i1 i2 : Addr} (D : ZipApart z TI TO i1 i2 a b) :
    Turn P w K (.Tuple elts kk tpos) (ItzS k1 k2 K a b) [z, TI, TO, i1, i2] z (fun i h => IsZipS h z TI TO .none ∧ IsPair h TI (.ref i1) (.ref i2) ∧ (∃ x y, IsPair h TO x y) ∧ SIt k1 h i1 a i ∧ SIt k2 h i2 b i) where
  mem := by simp
  obj := fun i h st c hc => by
    obtain ⟨hz, hTI, ⟨x, y, hTO⟩, h1, h2⟩ := st
    have e' : c = z ∨ c = TI ∨ c = TO ∨ c = i1 ∨ c = i2 := by simpa using hc
    rcases e' with q | q | q | q | q <;> rw [q]
    · exact ⟨_, hz, fun v q => nomatch q⟩
    · exact ⟨_, hTI, fun v q => nomatch q⟩
    · exact ⟨_, hTO, fun v q => nomatch q⟩
    · exact h1.ex
    · exact h2.ex
  keep := fun i h h' st k => by
    obtain ⟨hz, hTI, ⟨x, y, hTO⟩, h1, h2⟩ := st
    exact ⟨k z (by simp) _ hz, k TI (by simp) _ hTI, ⟨x, y, k TO (by simp) _ hTO⟩, h1.at fun o q => k i1 (by simp) o q, h2.at fun o q => k i2 (by simp) o q⟩
  item := by
    intro X hP hw hK hc i pins s σ H E I hf st hg
    subst hP hw hK
    obtain ⟨hz, hTI, ⟨x0, y0, hTO⟩, h1, h2⟩ := st
    obtain ⟨xs, ys, x, y, hqx, hqy, hx, hy⟩ := hg
    obtain ⟨its, rv, p, _⟩ := hqx.sq I
    obtain ⟨its2, rv2, p2, _⟩ := hqy.sq I
    obtain ⟨u, hu, ru⟩ := rv.get hx; obtain ⟨u2, hu2, ru2⟩ := rv2.get hy
    have hzl : z < s.heap.objs.size := Heap.lt_size hz
    have lt : ∀ c, c ∈ [z, TI, TO, i1, i2] → c < s.heap.objs.size := fun c hcm => by
      have e' : c = z ∨ c = TI ∨ c = TO ∨ c = i1 ∨ c = i2 := by simpa using hcm
      rcases e' with q | q | q | q | q <;> rw [q]
      · exact hzl
      · exact Heap.lt_size hTI
      · exact Heap.lt_size hTO
      · obtain ⟨_, e1, _⟩ := h1.ex; exact Heap.lt_size e1
      · obtain ⟨_, e2, _⟩ := h2.ex; exact Heap.lt_size e2
    refine pyNext_zipS_item D hz hTI hTO h1 h2 p p2 (x := u) (y := u2) (by simpa using hu) (by simpa using hu2) fun h' z' TO' h1' h2' hT hsz hk => ?_
    refine ⟨_, rfl, letGoS (s := { s with heap := h' }) z' fun h'' z'' sb => ?_⟩
    have hT2 : h''.get? s.heap.objs.size = some { cls := .type "tuple", data := .seq #[u, u2] } := (sb.2 _ (Nat.ne_of_gt hzl)).trans hT
    have new : ObjOk X.prog X.w (upd H s.heap.objs.size (.tup [x, y])) h'' s.heap.objs.size (.tup [x, y]) := ⟨by show 2 ≤ sizeLine; decide, [u, u2], .cons ru (.cons ru2 .nil), ⟨_, hT2, rfl, _, rfl⟩⟩
    have I1 : Inv X pins σ (upd H s.heap.objs.size (.tup [x, y])) { s with heap := h'' } := I.turnedNew (t' := s.toks) (ch := [z, TI, TO, i1, i2])
      (fun c o hb q => (sb.2 c (fun q' => hb (by simp [q']))).trans (hk c o (fun q' => hb (by simp [q'])) (fun q' => hb (by simp [q'])) (fun q' => hb (by simp [q'])) (fun q' => hb (by simp [q'])) q)) hf (Nat.le_refl _) new
    refine ⟨.ref s.heap.objs.size, _, I1, rfl, ⟨_, x, y, rfl, I.hok.fresh (Nat.le_refl _), rfl, fun l hl => by rw [SqX.inj I hl hqx]; exact hx, fun l hl => by rw [SqX.inj I hl hqy]; exact hy⟩, ⟨z'', ?_, ⟨u, u2, ?_⟩, ?_, ?_⟩, fun c hcm => ?_⟩
    · exact (sb.2 _ D.TIz).trans (hk _ _ D.TIz D.TITO D.TIi1 D.TIi2 hTI)
    · exact (sb.2 _ D.TOz).trans TO'
    · exact h1'.at fun o q => (sb.2 _ D.i1z).trans q
    · exact h2'.at fun o q => (sb.2 _ D.i2z).trans q
    · rw [upd_ne (Nat.ne_of_lt (lt c hcm))]; exact (hf c hcm).1
  done := by
    intro X hP hw hK hc i pins s σ H E I hf st hg
    subst hP hw hK
    obtain ⟨hz, hTI, ⟨x0, y0, hTO⟩, h1, h2⟩ := st
    obtain ⟨xs, ys, hqx, hqy, e1, e2⟩ := hg
    obtain ⟨its, rv, p, _⟩ := hqx.sq I
    obtain ⟨its2, rv2, p2, _⟩ := hqy.sq I
    have l1 := rv.length; have l2 := rv2.length
    exact pyNext_zipS_end (I.ok.hd hc) D hz hTI hTO h1 h2 p p2 (by simp; omega) (by simp; omega) fun h' hk => ⟨rfl, I.turnedL (t' := s.toks) (ch := [z, TI, TO, i1, i2]) (fun c o hb q =>
      hk c o (fun q' => hb (by simp [q'])) (fun q' => hb (by simp [q'])) (fun q' => hb (by simp [q'])) (fun q' => hb (by simp [q'])) q) hf⟩
  self := fun A i s Q E st h => pyIterS st.1 h
theorem callWith_type_kwA {M : Model} {A : Around} {E : Value → Shared → Prop} {s : Shared} {pos : Pos} {T : String} {args : List (Bool × Sem Value)} {keywords : List (Option Str × Sem Value)} {Q : Value → Shared → Prop} (hp : args.any (·.1) = false) (hkw : keywords.any (·.1.isNone) = false)
    (h : wpAny M A (evalArgs (.type T) true args keywords) (fun a s₁ => wpAny M A (call (.type T) a.pos a.kw) Q E s₁) E s) : wpAny M A (callWith pos (.type T) [] args keywords) Q E s := by
  unfold callWith
  refine wpAny_bind (wpAny_holding (wpAny_mono h (fun a s₁ h₁ => wpAny_bind (wpAny_standAt ?_)) fun _ _ x => x))
  simp only [hp, hkw, Bool.or_false]
  refine wpAny_bind (wpAny_pure (wpAny_bind (wpAny_mono (h₁ : wpAny M A (call (.type T) ([] ++ a.pos) a.kw) Q E s₁) (fun r s₂ hr => wpAny_bind (wpAny_holding (wpAny_point (wpAny_pure hr)))) fun _ _ x => x)))
def iZipS (K : Fg) (ta tk : TA) : TI := fun σ H R => ta σ H fun vs H1 => tk σ H1 fun zs H2 => zs = [.bl true] ∧ ∃ k1 k2 a b xs ys, vs = [.ref a, .ref b] ∧ SqX k1 K H2 a xs ∧ SqX k2 K H2 b ys ∧ R (ItzS k1 k2 K a b) H2
theorem pi_zipS {X : Cx} {e e2 : Expr} {kws : List Keyword} {ta tk : TA} {p pos tpos : Pos} {elts : List Expr} {kk : Nat} (hg : Gl X "zip") (hm : X.mg "zip" = none) (ha : PA X [e, e2] ta) (hk : PK X kws tk)
    (he : backTo pos (starEach [e, e2] X.env) = (false, eval e X.env) :: backTo pos (starEach [e2] X.env) := by rfl) (hpl : (backTo pos (starEach [e, e2] X.env)).any (·.1) = false := by rfl)
    (hall : (backToKw pos (keywordEach kws X.env)).all (·.1.isSome) = true := by rfl) (hnone : (backToKw pos (keywordEach kws X.env)).any (·.1.isNone) = false := by rfl) (hks : (backToKw pos (keywordEach kws X.env)).filterMap (·.1) = (["strict"] : List Str) := by rfl) :
    PI X (.Tuple elts kk tpos) (.Call (.Name "zip" p) [e, e2] kws pos) (iZipS X.K ta tk) := by
  refine ⟨fun pins s σ H R I h => ?_⟩
  refine wpAny_Call_Name_kw (ld_blt I hg hm PyProof.Rows.boot_zip ?_)
  refine callWith_type_kwA hpl hnone ?_
  have run := ha.run pos pins s σ H _ I h
  rw [he] at run ⊢
  refine evalArgs_kwB hall (thn run fun us s1 ⟨vs, H1, I1, r1, q1⟩ => thn (hk.run pos pins s1 σ H1 _ I1 q1) fun ws s2 ⟨zs, H2, I2, r2, q2⟩ => ?_)
  rw [hks]
  obtain ⟨rfl, k1, k2, a, b, xs, ys, rfl, hqx, hqy, q⟩ := q2
  obtain ⟨u, rfl, ru⟩ := vals1 r2
  cases ru
  cases r1 with
  | cons r rr =>
    cases rr with
    | cons r' rr =>
      cases rr; cases r; cases r'
      have fresh5 : ∀ c, c ∈ [s2.heap.objs.size + 4, s2.heap.objs.size + 2, s2.heap.objs.size + 3, s2.heap.objs.size, s2.heap.objs.size + 1] → FpOk X pins H2 c := fun c hcm => by
        have hle : s2.heap.objs.size ≤ c := by
          have e' : c = s2.heap.objs.size + 4 ∨ c = s2.heap.objs.size + 2 ∨ c = s2.heap.objs.size + 3 ∨ c = s2.heap.objs.size ∨ c = s2.heap.objs.size + 1 := by simpa using hcm
          rcases e' with z | z | z | z | z <;> rw [z] <;> first | exact Nat.le_add_right _ _ | exact Nat.le_refl _
        exact I2.fpOk hle (I2.hok.fresh hle)
      obtain ⟨its, rv, p1, la⟩ := hqx.sq I2
      obtain ⟨its2, rv2, p2, lb⟩ := hqy.sq I2
      refine call_zipS p1 p2 fun h' hz hTI hTO h1 h2 hsz hk => pyIterS hz ?_
      have I3 : Inv X pins σ H2 { s2 with heap := h' } := I2.kept (t' := s2.toks) hk
      exact ⟨s2.heap.objs.size + 4, [s2.heap.objs.size + 4, s2.heap.objs.size + 2, s2.heap.objs.size + 3, s2.heap.objs.size, s2.heap.objs.size + 1], _, _, H2, rfl, I3, turn_zipS (PySem.W.ktu_apart s2.heap.objs.size a b la lb), ⟨hz, hTI, ⟨_, _, hTO⟩, h1, h2⟩, fresh5, q⟩
section
variable {X : Cx} {W : WX} {τ : Type} [Sto τ] {K : Fg}
def fZipS : List D → Option (List D)
  | [.lst xs, .lst ys] => if xs.length = ys.length then some (zipD xs ys) else none
  | [.lst xs, .tup ys] => if xs.length = ys.length then some (zipD xs ys) else none
  | [.tup xs, .lst ys] => if xs.length = ys.length then some (zipD xs ys) else none
  | [.tup xs, .tup ys] => if xs.length = ys.length then some (zipD xs ys) else none
  | _ => none
theorem Rep.sqx {F : Fp} {H : Hp} {v : V} {d : D} (r : Rep K F H v d) : (∀ ds, d = .lst ds → ∃ a vs, v = .ref a ∧ (∀ F2 H2, Stp F H F2 H2 → SqX false K H2 a vs) ∧ Reps K F H vs ds) ∧ (∀ ds, d = .tup ds → ∃ a vs, v = .ref a ∧ (∀ F2 H2, Stp F H F2 H2 → SqX true K H2 a vs) ∧ Reps K F H vs ds) := by
  refine ⟨fun ds e => ?_, fun ds e => ?_⟩
  · subst e; cases r with
    | lst h rs => exact ⟨_, _, rfl, fun F2 H2 s => (h.step s).sq, rs⟩
  · subst e; cases r with
    | tup h rs => exact ⟨_, _, rfl, fun F2 H2 s => (h.step s).sq, rs⟩
theorem rIt_zipS {k1 k2 : Bool} {I : Fp → Hp → Prop} {F0 F : Fp} {H H' : Hp} {a b : Addr} {vs ws : List V} {ds es : List D} (hl : ∀ F2 H2, Stp F H' F2 H2 → SqX k1 K H2 a vs) (r : Reps K F H' vs ds) (hl2 : ∀ F2 H2, Stp F H' F2 H2 → SqX k2 K H2 b ws) (r2 : Reps K F H' ws es) (e : ds.length = es.length) :
    rIt K I F0 F H H' (ItzS k1 k2 K a b) (zipD ds es) := by
  have n1 := r.length; have n2 := r2.length
  have hn : (zipD ds es).length = vs.length := by unfold zipD; rw [List.length_zipWith]; omega
  have w : Walk (ItzS k1 k2 K a b) (zipD ds es).length (fun H => SqX k1 K H a vs ∧ SqX k2 K H b ws) (YPair (fun i => vs[i]?) (fun i => ws[i]?)) := by
    rw [hn]
    refine ⟨fun i _ hi q => ?_, fun _ q => ⟨vs, ws, q.1, q.2, by omega, by omega⟩, fun i H v H' hi q y => ?_⟩
    · have h2 : i < ws.length := by omega
      exact ⟨vs, ws, vs[i], ws[i], q.1, q.2, by simp [hi], by simp [h2]⟩
    · obtain ⟨T, x, z, h1, h2, h3, h4, h5⟩ := y
      exact ⟨T, x, z, h1, h2, h3, h4 vs q.1, h5 ws q.2⟩
  refine ⟨_, _, w, fun H2 s => ⟨hl F H2 ⟨s, fun _ z => .inl z⟩, hl2 F H2 ⟨s, fun _ z => .inl z⟩⟩, fun Fc i H2 x H3 hi s dm y => ?_⟩
  obtain ⟨T, x0, y0, rfl, nT, rfl, e1, e2⟩ := y
  obtain ⟨d, ed, q⟩ := (r.step s).getV e1
  obtain ⟨e, ee, q2⟩ := (r2.step s).getV e2
  exact ⟨same_upd nT, .tup [d, e], zip_get ed ee, Rep.newTup (.cons q (.cons q2 .nil)) dm nT⟩
theorem mi_zipS {e e2 : Expr} {kws : List Keyword} {p pos tpos : Pos} {elts : List Expr} {kk : Nat} {m : ME τ (List D)} (hg : Gl X "zip") (hm : X.mg "zip" = none) (ha : PA X [e, e2] (tA X.K W m)) (hk : PK X kws (tCons (tC (.bl true)) tNil))
    (he : backTo pos (starEach [e, e2] X.env) = (false, eval e X.env) :: backTo pos (starEach [e2] X.env) := by rfl) (hpl : (backTo pos (starEach [e, e2] X.env)).any (·.1) = false := by rfl)
    (hall : (backToKw pos (keywordEach kws X.env)).all (·.1.isSome) = true := by rfl) (hnone : (backToKw pos (keywordEach kws X.env)).any (·.1.isNone) = false := by rfl) (hks : (backToKw pos (keywordEach kws X.env)).filterMap (·.1) = (["strict"] : List Str) := by rfl) :
    PI X (.Tuple elts kk tpos) (.Call (.Name "zip" p) [e, e2] kws pos) (tI X.K W (MM.e1 fZipS m)) := PI.imp (pi_zipS hg hm ha hk he hpl hall hnone hks) fun σ H R ⟨C, ρ, t, A, p⟩ => by
  refine use okI A p fun d t1 v H1 e1 s1 A1 r1 p1 => ?_
  refine ⟨rfl, ?_⟩
  have fin : ∀ (k1 k2 : Bool) (a b : Addr) (vs ws : List V) (ds es : List D), v = [.ref a, .ref b] → (∀ F2 H2, Stp (Fo C.F ρ σ) H1 F2 H2 → SqX k1 X.K H2 a vs) → Reps X.K (Fo C.F ρ σ) H1 vs ds → (∀ F2 H2, Stp (Fo C.F ρ σ) H1 F2 H2 → SqX k2 X.K H2 b ws) → Reps X.K (Fo C.F ρ σ) H1 ws es →
      Post rIt X.K W C (Fo C.F ρ σ) σ H1 (opt (if ds.length = es.length then some (zipD ds es) else none) t1) R → ∃ k1 k2 a b xs ys, v = [.ref a, .ref b] ∧ SqX k1 X.K H1 a xs ∧ SqX k2 X.K H1 b ys ∧ R (ItzS k1 k2 X.K a b) H1 := fun k1 k2 a b vs ws ds es ev h1 q1 h2 q2 p1 => by
    split at p1
    · rename_i hl
      exact ⟨k1, k2, a, b, vs, ws, ev, h1 _ _ (Stp.refl _ _), h2 _ _ (Stp.refl _ _), p1 _ H1 (Sm.refl _ _) A1.st (rIt_zipS h1 q1 h2 q2 hl)⟩
    · exact p1.elim
  unfold fZipS at p1
  split at p1
  all_goals first | exact p1.elim | skip
  all_goals
    cases r1 with
    | cons r1 r2 =>
      cases r2 with
      | cons r2 r3 =>
        cases r3
        first
          | (obtain ⟨a, vs, rfl, h1, q1⟩ := r1.sqx.1 _ rfl; obtain ⟨b, ws, rfl, h2, q2⟩ := r2.sqx.1 _ rfl; exact fin _ _ a b vs ws _ _ rfl h1 q1 h2 q2 p1)
          | (obtain ⟨a, vs, rfl, h1, q1⟩ := r1.sqx.1 _ rfl; obtain ⟨b, ws, rfl, h2, q2⟩ := r2.sqx.2 _ rfl; exact fin _ _ a b vs ws _ _ rfl h1 q1 h2 q2 p1)
          | (obtain ⟨a, vs, rfl, h1, q1⟩ := r1.sqx.2 _ rfl; obtain ⟨b, ws, rfl, h2, q2⟩ := r2.sqx.1 _ rfl; exact fin _ _ a b vs ws _ _ rfl h1 q1 h2 q2 p1)
          | (obtain ⟨a, vs, rfl, h1, q1⟩ := r1.sqx.2 _ rfl; obtain ⟨b, ws, rfl, h2, q2⟩ := r2.sqx.2 _ rfl; exact fin _ _ a b vs ws _ _ rfl h1 q1 h2 q2 p1)
theorem kstrict {j1 : Nat} {kp cp : Pos} : PK X [⟨some "strict", .Constant (.bool true) j1 cp, kp⟩] (tCons (tC (.bl true)) tNil) := pk_cons pe_bl pk_nil
end
@[simp] theorem fZipS_ll {xs ys : List D} : fZipS [.lst xs, .lst ys] = if xs.length = ys.length then some (zipD xs ys) else none := rfl
@[simp] theorem fZipS_lt {xs ys : List D} : fZipS [.lst xs, .tup ys] = if xs.length = ys.length then some (zipD xs ys) else none := rfl
@[simp] theorem fZipS_tl {xs ys : List D} : fZipS [.tup xs, .lst ys] = if xs.length = ys.length then some (zipD xs ys) else none := rfl
@[simp] theorem fZipS_tt {xs ys : List D} : fZipS [.tup xs, .tup ys] = if xs.length = ys.length then some (zipD xs ys) else none := rfl
end MM

namespace MM
open PySem PySem.Spec PyProof.Rows L2
section
variable {X : Cx} {W : WX} {τ : Type} [Sto τ] {K : Fg}
theorem keyD_inj : ∀ {a b : Key}, keyD a = keyD b → a = b
  | .inl _, .inl _, e => by cases e; rfl
  | .inr _, .inr _, e => by cases e; rfl
  | .inl _, .inr _, e => by cases e
  | .inr _, .inl _, e => by cases e
theorem zip_fst {α β : Type} : ∀ {a : List α} {b : List β}, b.length = a.length → (a.zip b).map (·.1) = a
  | [], _, _ => rfl
  | x :: a, [], h => by cases h
  | x :: a, y :: b, h => by simp [zip_fst (a := a) (b := b) (by simpa using h)]
theorem zip_snd {α β : Type} : ∀ {a : List α} {b : List β}, b.length = a.length → (a.zip b).map (·.2) = b
  | [], [], _ => rfl
  | [], _ :: _, h => by cases h
  | x :: a, [], h => by cases h
  | x :: a, y :: b, h => by simp [zip_snd (a := a) (b := b) (by simpa using h)]
def dRev : D → Option (List D)
  | .lst ds => some ds.reverse
  | _ => none
theorem Reps.rev {F : Fp} {H : Hp} : ∀ {vs : List V} {ds : List D}, Reps K F H vs ds → Reps K F H vs.reverse ds.reverse
  | _, _, .nil => .nil
  | _, _, .cons r t => by rw [List.reverse_cons, List.reverse_cons]; exact (Reps.rev t).snoc r
theorem mf_rev {e : Expr} {k : Nat} {p1 p2 p3 pos : Pos} {m : ME τ D} (h : PE X e (tW X.K W m)) : PE X (.Subscript e (.Slice none none (some (.UnaryOp .USub (.Constant (.int 1) k p1) p2)) p3) pos) (tF X.K W (MM.e1 dRev m)) := PE.imp (pe_revL h) fun σ H Q ⟨C, ρ, t, A, p⟩ => by
  refine use okF A p fun d t1 v H1 e1 s1 A1 r1 p1 => ?_
  unfold dRev at p1
  split at p1
  · obtain ⟨a, vs, rfl, hl, rs⟩ := r1.lstOf
    exact ⟨a, vs, rfl, hl.sq, new_fin A1 rs.rev p1⟩
  · exact p1.elim
def strsD : List D → Option (List Str)
  | [] => some []
  | .str x :: r => (strsD r).map (x :: ·)
  | _ => none
theorem strsD_ok {F : Fp} {H : Hp} : ∀ {vs : List V} {ds : List D} {ys : List Str}, Reps K F H vs ds → strsD ds = some ys → vs = ys.map V.str
  | _, _, _, .nil, e => by cases e; rfl
  | _, _, _, .cons (d := d) r t, e => by
    cases d <;> try (simp [strsD] at e; done)
    rename_i x
    simp only [strsD] at e
    cases e2 : strsD _ with
    | none => rw [e2] at e; cases e
    | some zs =>
      rw [e2] at e
      cases e
      cases r
      rw [strsD_ok t e2]; rfl
def joinOk (a : Str) (ys : List Str) : Bool := decide ((ys.map (·.length)).sum + ys.length * a.length ≤ 16777216)
def dJoin (a : Str) : D → Option D := fun e => match e with
  | .lst ds => (strsD ds).bind fun ys => if joinOk a ys = true then some (.str (Txt.join a ys)) else none
  | .tup ds => (strsD ds).bind fun ys => if joinOk a ys = true then some (.str (Txt.join a ys)) else none
  | _ => none
theorem me_join {e : Expr} {a : Str} {k : Nat} {opos apos pos : Pos} {me : ME τ D} (he : PE X e (tW X.K W me)) (hs : starEach [e] X.env = [(false, eval e X.env)] := by rfl) (hbase : attributeBase (.Constant (.str a) k opos) "join" X.env (eval (.Constant (.str a) k opos) X.env) = eval (.Constant (.str a) k opos) X.env := by rfl) (hline : (apos.endLine == pos.line) = true := by rfl) :
    PE X (.Call (.Attribute (.Constant (.str a) k opos) "join" apos) [e] [] pos) (tE X.K W (MM.e1 (dJoin a) me)) := PE.imp (pe_join pe_str he hs hbase hline) fun σ H Q ⟨C, ρ, t, A, p⟩ => by
  refine ⟨⟨a, rfl⟩, ?_⟩
  refine use okE A p fun d2 t2 v2 H2 e2 s2 A2 r2 p2 => ?_
  have fin : ∀ (p : Addr) (vs : List V) (ds : List D), v2 = .ref p → (SqL X.K H2 p vs ∨ SqT X.K H2 p vs) → Reps X.K (Fo C.F ρ σ) H2 vs ds → Post rE X.K W C (Fo C.F ρ σ) σ H2 (opt ((strsD ds).bind fun ys => if joinOk a ys = true then some (.str (Txt.join a ys)) else none) t2) Q →
      ∃ (a' : Str) (p : Addr) (ys : List Str), V.str a = .str a' ∧ [v2] = [.ref p] ∧ (SqL X.K H2 p (ys.map V.str) ∨ SqT X.K H2 p (ys.map V.str)) ∧ (ys.map (·.length)).sum + ys.length * a'.length ≤ 16777216 ∧ Q (.str (Txt.join a' ys)) H2 := fun p vs ds ev hq rs p2 => by
    cases e3 : strsD ds with
    | none => rw [e3] at p2; exact p2.elim
    | some ys =>
      rw [e3, Option.bind_some] at p2
      split at p2
      · rename_i hj
        have := strsD_ok rs e3
        subst this
        exact ⟨a, p, ys, rfl, by rw [ev], hq, of_decide_eq_true hj, p2 _ H2 (Sm.refl _ _) A2.st (.str _)⟩
      · exact p2.elim
  cases d2 with
  | lst ds =>
    obtain ⟨p, vs, rfl, hl, rs⟩ := r2.lstOf
    exact fin p vs _ rfl (.inl hl.sq) rs p2
  | tup ds =>
    obtain ⟨p, vs, rfl, hl, rs⟩ := r2.tupOf
    exact fin p vs _ rfl (.inr hl.sq) rs p2
  | _ => exact p2.elim
end
@[simp] theorem dRev_lst {ds : List D} : dRev (.lst ds) = some ds.reverse := rfl
end MM

namespace PySem.W
open PySem PySem.Calls PyProof.Rows
section
variable {prog : Program} {w : World} {A : Around} {E : Value → Shared → Prop} {s : Shared}
def cmpAll : List PyData → List PyData → Bool
  | x :: xs, y :: ys => alike x y && (if PyData.eqv x y = true then cmpAll xs ys else true)
  | [], _ => true
  | _ :: _, [] => true
theorem katLex_cmp {b fin : Bool} {Q : Bool → Shared → Prop} : ∀ (xs ys : List PyData) (i : Nat) (vs ws : List Value) (as bs : List Addr), ReadsAll s.heap vs xs as → ReadsAll s.heap ws ys bs → cmpAll xs ys = true → A.units + min (PyData.depthAll xs) (PyData.depthAll ys) < cLine →
    (b = true → i = 0 → ∀ x r t, xs = x :: r → x ≠ .tuple t) → fin = decide (xs.length < ys.length) → Q (PyProof.Rows.lexLt itemOrd (keyToksAll xs) (keyToksAll ys)) s → KatLex prog w A b fin Q (vs.zip ws) i s
  | [], ys, i, _, _, _, _, ra, rb, _, hu, hb, hf, hq => katLex_alike [] ys i _ _ _ _ ra rb rfl hu hb hf hq
  | x :: xs, [], i, _, _, _, _, ra, rb, _, hu, hb, hf, hq => katLex_alike (x :: xs) [] i _ _ _ _ ra rb rfl hu hb hf hq
  | x :: xs, y :: ys, i, _, _, _, _, .cons r rs, .cons r' rs', h, hu, hb, hf, hq => by
    obtain ⟨h1, h2⟩ := Bool.and_eq_true_iff.mp h
    have hf' : fin = decide (xs.length < ys.length) := by rw [hf]; simp only [List.length_cons, Nat.add_lt_add_iff_right]
    rw [List.zip_cons_cons]
    refine kat_cons (eqAt_alike x y A s _ _ _ _ r r' h1 (SeqAt.room_head hu) prog w _ _ ?_)
    cases hx : PyData.eqv x y with
    | true =>
      rw [dataLt_all_yes h1 hx] at hq
      rw [hx, if_pos rfl] at h2
      exact kat_yes (katLex_cmp xs ys (i + 1) _ _ _ _ rs rs' h2 (SeqAt.room_tail hu) (fun _ hi => absurd hi (Nat.succ_ne_zero i)) hf' hq)
    | false =>
      rw [dataLt_all_no h1 hx] at hq
      refine kat_no (oneLt_alike (fun hbi t => ?_) r r' h1 (ne_none_of h1 hx) (SeqAt.room_head hu) hq)
      rw [Bool.and_eq_true] at hbi; exact hb hbi.1 (by simpa using hbi.2) x xs t rfl
structure RowsOk (ds : List PyData) : Prop where
  row : ∀ d ∈ ds, d.canLay0 = true ∧ ∃ x r, d = .tuple (x :: r)
  two : ∀ xs ys, .tuple xs ∈ ds → .tuple ys ∈ ds → cmpAll xs ys = true
theorem rowKind_some {h : Heap} {ds : List PyData} (hr : RowsOk ds) {v : Value} {d : PyData} {as : List Addr} (hd : d ∈ ds) (r : Reads h v d as) : (dataKind h ds).keyOf v = some (keyToks d) := by
  have q : ∃ d, d ∈ ds ∧ ∃ as, Reads h v d as := ⟨d, hd, as, r⟩
  have e : (dataKind h ds).keyOf v = some (keyToks q.choose) := by
    show (open Classical in if q : ∃ d, d ∈ ds ∧ ∃ as, Reads h v d as then some (keyToks q.choose) else none) = _; rw [dif_pos q]
  obtain ⟨h1, as', h2⟩ := q.choose_spec
  rw [e, SeqAt.Reads.unique _ _ _ _ _ (hr.row _ hd).1 r h2]
theorem each_keysR {h : Heap} {ds : List PyData} (hr : RowsOk ds) : ∀ {vs : List Value} {es : List PyData}, (∀ d ∈ es, d ∈ ds) → EachIs (fun v d => ∃ as, Reads h v d as) vs es → EachIs (fun v d => (dataKind h ds).keyOf v = some (keyToks d)) vs es
  | _, _, _, .nil => .nil
  | _, _, hm, .cons ⟨as, r⟩ t => .cons (rowKind_some hr (hm _ List.mem_cons_self) r) (each_keysR hr (fun d hd => hm d (List.mem_cons_of_mem _ hd)) t)
theorem sorts_rows {vs : List Value} {ds : List PyData} (e : EachIs (fun v d => ∃ as, Reads s.heap v d as) vs ds) (hr : RowsOk ds) (hu : ∀ d, d ∈ ds → A.units + d.depth < cLine) : SortsAt prog w A s (dataKind s.heap ds) vs := by
  refine ⟨fun v hv => ?_, ?_⟩
  · obtain ⟨d, hd, as, r⟩ := e.left v hv
    exact ⟨_, rowKind_some hr hd r⟩
  · cases ds with
    | nil =>
      cases e
      exact ⟨general', fun E x y a b Q ha _ _ => (by obtain ⟨d, _, hd, _⟩ := dataKind_inv ha; exact absurd hd (by simp)), fun h2 => absurd h2 (by simp)⟩
    | cons d₀ ds₀ =>
      obtain ⟨x₀, r₀, e₀⟩ := (hr.row d₀ (List.mem_cons_self ..)).2
      have hfirst : ∀ x r, PyData.tuple (x :: r) ∈ d₀ :: ds₀ → alike x x₀ = true := fun x r hm => by
        have q := hr.two (x :: r) (x₀ :: r₀) hm (by rw [← e₀]; exact List.mem_cons_self)
        exact (Bool.and_eq_true_iff.mp q).1
      refine ⟨tuples' (dataType x₀ != Value.type "tuple"), fun E x y a b Q ha hb hq => ?_, fun h2 E Q hq => ?_⟩
      · obtain ⟨d, as, hd, ra, rfl⟩ := dataKind_inv ha
        obtain ⟨d', as', hd', rb, rfl⟩ := dataKind_inv hb
        have hroom : A.units + min d.depth d'.depth < cLine := Nat.lt_of_le_of_lt (Nat.add_le_add_left (Nat.min_le_left _ _) _) (hu d hd)
        obtain ⟨x1, r1, rfl⟩ := (hr.row d hd).2
        obtain ⟨x2, r2, rfl⟩ := (hr.row d' hd').2
        have hq' : Q (dataLt (.tuple (x1 :: r1)) (.tuple (x2 :: r2))) s := hq
        rw [dataLt_tuple] at hq'
        have two := hr.two _ _ hd hd'
        cases ra with
        | @tuple l o xs n _ _ h1 h2 h3 h4 =>
          cases rb with
          | @tuple l' o' xs' n' _ _ k1 k2 k3 k4 =>
            have n1 : xs.size = (x1 :: r1).length := by simpa using SeqAt.ReadsAll.length _ _ _ h4
            have n2 : xs'.size = (x2 :: r2).length := by simpa using SeqAt.ReadsAll.length _ _ _ k4
            refine kat_lt h1 h3 k1 k3 (katLex_cmp (x1 :: r1) (x2 :: r2) 0 _ _ _ _ h4 k4 two (by have q := SeqAt.room_in hroom; omega) (fun hb _ x r t ex => ?_) (by rw [n1, n2]) hq')
            obtain ⟨rfl, rfl⟩ := List.cons.inj ex
            have q := dataType_alike (hfirst _ _ hd)
            rw [← q] at hb; exact dataType_tuple hb t
      · obtain ⟨fs, t1, t2, t3⟩ := each_katTups e fun d hd => (hr.row d hd).2
        refine kat_kind (T := dataType x₀) t1 (by omega) (fun f hf => ?_) (beq_self_eq_true _) hq
        obtain ⟨x, r, as, m1, m2⟩ := t3 f hf
        rw [← dataType_alike (hfirst x r m1)]; exact looks_reads m2
def SortOk (ds : List PyData) : Prop := (AllAlike ds ∧ Sortable ds) ∨ RowsOk ds
theorem sorted_dataR {β : Type} {R : Value → β → Prop} {enc : β → PyData} {vs : List Value} {bs : List β} {l : Addr} {Q : Value → Shared → Prop} (hl : s.heap.IsList l vs.toArray) (e : EachIs R vs bs) (er : EachIs (fun v b => ∃ as, Reads s.heap v (enc b) as) vs bs) (hk : SortOk (bs.map enc)) (hL : bs.length ≤ sizeLine)
    (hu : ∀ b, b ∈ bs → A.units + 2 + (enc b).depth < cLine) (h : ∀ out, out.length = bs.length → EachIs R out (bs.mergeSort (dataLe false enc)) → Q (.ref (s.heap.objs.size + 1)) { s with heap := sortedAll s.heap vs (List.toArray out) }) :
    wpAny (model prog w) A (call (.builtin "sorted") [.ref l]) Q E s := by
  rcases hk with ⟨hal, hk⟩ | hr
  · exact sorted_data hl e er hal hk hL hu h
  · have er' : EachIs (fun v b => ∃ as, Reads (sortingHeap (copyHeap s.heap vs) (s.heap.objs.size + 1) vs) v (enc b) as) vs bs := er.mono fun _ _ ⟨as, r⟩ => ⟨as, PyProof.Rows.Reads.keeps (fun _ _ => sorting_copy_old) r⟩
    have em := each_map (R := fun v d => ∃ as, Reads (sortingHeap (copyHeap s.heap vs) (s.heap.objs.size + 1) vs) v d as) enc er'
    exact sorted_vals hl (sorts_rows (s := { s with heap := sortingHeap (copyHeap s.heap vs) (s.heap.objs.size + 1) vs }) em hr (bound_map hu)) (by rw [e.length]; exact hL)
      (h _ (by rw [sortVals_length false rfl]; exact e.length) (sortVals_each (κ := dataKind (sortingHeap (copyHeap s.heap vs) (s.heap.objs.size + 1) vs) (bs.map enc)) (fun b => keyToks (enc b)) e (each_of_map enc (each_keysR hr (fun _ hd => hd) em))))
end
end PySem.W
namespace MM
open PySem PySem.Spec PyProof.Rows L2
section
variable {X : Cx} {W : WX} {τ : Type} [Sto τ] {K : Fg}
def sortV {α : Type} (xs : List α) (ps : List PyData) : List α := ((xs.zip ps).mergeSort (PySem.W.dataLe false fun b => b.2)).map (·.1)
structure SrtC (ps : List PyData) : Prop where
  ok : PySem.W.SortOk ps
  dep : ∀ p ∈ ps, p.depth ≤ 50
def rSortD (K : Fg) : List V → Hp → VK → Prop := fun vs H Q => ∃ (a : Addr) (xs : List V) (ps : List PyData), vs = [V.ref a] ∧ SqL K H a xs ∧ DpAll K H xs ps ∧ SrtC ps ∧ ∀ p, H p = none → Q (.ref p) (upd H p (.lst (sortV xs ps)))
theorem each_of_vals {β : Type} {f : β → V} : ∀ {bs : List β} {us : List Value}, Vals (bs.map f) us → PySem.W.EachIs (fun u b => RelV (f b) u) us bs
  | [], _, .nil => .nil
  | _ :: _, _, .cons r t => .cons r (each_of_vals t)
theorem vals_of_each {β : Type} {f : β → V} : ∀ {bs : List β} {us : List Value}, PySem.W.EachIs (fun u b => RelV (f b) u) us bs → Vals (bs.map f) us
  | _, _, .nil => .nil
  | _, _, .cons r t => .cons r (vals_of_each t)
theorem each_reads {h : Heap} {β : Type} {enc : β → PyData} : ∀ {bs : List β} {us : List Value} {as : List Addr}, ReadsAll h us (bs.map enc) as → PySem.W.EachIs (fun u b => ∃ as, Reads h u (enc b) as) us bs
  | [], _, _, .nil => .nil
  | _ :: _, _, _, .cons r t => .cons ⟨_, r⟩ (each_reads t)
theorem dps_len {H : Hp} : ∀ {xs : List V} {ps : List PyData}, DpAll K H xs ps → xs.length = ps.length
  | _, _, .nil => rfl
  | _, _, .cons _ t => congrArg (· + 1) (dps_len t)
theorem cr_sortD (hu : X.A.units + 64 < cLine) : CallR X (.builtin "sorted") (rSortD X.K) := by
  intro pins s σ H vs us Q I r h
  obtain ⟨a, xs, ps, rfl, hs, hd, hc, q⟩ := h
  obtain rfl := Vals.ref1 r
  obtain ⟨its, rv, hl, hz⟩ := I.list hs
  obtain ⟨as, ra⟩ := Dp.readsAll I ps xs its hd rv
  have len := dps_len hd
  have f1 : (xs.zip ps).map (·.1) = xs := zip_fst len.symm
  have f2 : (xs.zip ps).map (·.2) = ps := zip_snd len.symm
  have ll : (xs.zip ps).length = xs.length := by rw [List.length_zip]; omega
  refine PySem.W.sorted_dataR (R := fun u b => RelV b.1 u) (enc := fun b => b.2) (bs := xs.zip ps) hl.isList (each_of_vals (by rw [f1]; exact rv)) (each_reads (enc := fun b : V × PyData => b.2) (as := as) (by rw [f2]; exact ra)) (by rw [f2]; exact hc.ok) (by omega) (fun b hb => ?_) fun out h1 h2 => ?_
  · have := hc.dep b.2 (by rw [← f2]; exact List.mem_map_of_mem hb); omega
  · obtain ⟨ep, he'⟩ := PyProof.Rows.sortedAll_at s.heap its out.toArray
    have hlen : (sortV xs ps).length ≤ sizeLine := by unfold sortV; rw [List.length_map, (List.mergeSort_perm _ _).length_eq, ll]; exact hz
    exact ⟨.ref _, upd H (s.heap.objs.size + 1) (.lst (sortV xs ps)), I.laid (t' := s.toks) (fun _ _ => PyProof.Rows.sortedAll_old) (Nat.le_succ _) ⟨hlen, _, ep, vals_of_each h2, he'⟩, rfl, q _ (I.hok.fresh (Nat.le_succ _))⟩
open Classical in
noncomputable def fSortD : List D → Option (List D)
  | [.lst ds] => (pys ds).bind fun ps => if SrtC ps then some (sortV ds ps) else none
  | _ => none
theorem reps_zip {F : Fp} {H : Hp} : ∀ {vs : List V} {ds : List D}, Reps K F H vs ds → ∀ p ∈ vs.zip ds, Rep K F H p.1 p.2
  | _, _, .nil, p, hp => by cases hp
  | _, _, .cons r t, p, hp => by
    rcases List.mem_cons.mp hp with rfl | h
    · exact r
    · exact reps_zip t p h
theorem reps_map {F : Fp} {H : Hp} {β : Type} {f : β → V} {g : β → D} : ∀ {bs : List β}, (∀ b ∈ bs, Rep K F H (f b) (g b)) → Reps K F H (bs.map f) (bs.map g)
  | [], _ => .nil
  | b :: bs, h => .cons (h b List.mem_cons_self) (reps_map fun c hc => h c (List.mem_cons_of_mem _ hc))
theorem zip_map_zip {α β γ : Type} (ps : List γ) : ∀ (xs : List α) (ys : List β), xs.length = ys.length → xs.length = ps.length → xs.zip ps = ((xs.zip ys).zip ps).map (fun z => (z.1.1, z.2)) ∧ ys.zip ps = ((xs.zip ys).zip ps).map (fun z => (z.1.2, z.2)) := by
  induction ps with
  | nil => intro xs ys h1 h2; cases xs with
    | nil => cases ys with
      | nil => exact ⟨rfl, rfl⟩
      | cons => cases h1
    | cons => cases h2
  | cons p ps ih =>
    intro xs ys h1 h2
    cases xs with
    | nil => cases h2
    | cons x xs =>
      cases ys with
      | nil => cases h1
      | cons y ys =>
        obtain ⟨e1, e2⟩ := ih xs ys (by simpa using h1) (by simpa using h2)
        exact ⟨by simp [e1], by simp [e2]⟩
theorem sortV_map {α β : Type} {f : α → β} {zs : List (α × PyData)} : ((zs.map fun z => (f z.1, z.2)).mergeSort (PySem.W.dataLe false fun b => b.2)) = (zs.mergeSort (PySem.W.dataLe false fun b => b.2)).map fun z => (f z.1, z.2) := by
  rw [List.map_mergeSort (s := PySem.W.dataLe false fun b => b.2)]
  intro a _ b _; rfl
theorem Reps.sortV {F : Fp} {H : Hp} {vs : List V} {ds : List D} {ps : List PyData} (r : Reps K F H vs ds) (hl : ds.length = ps.length) : Reps K F H (MM.sortV vs ps) (MM.sortV ds ps) := by
  obtain ⟨e1, e2⟩ := zip_map_zip ps vs ds r.length (r.length.trans hl)
  unfold MM.sortV
  rw [e1, e2, sortV_map (f := fun z : V × D => z.1), sortV_map (f := fun z : V × D => z.2), List.map_map, List.map_map]
  refine reps_map fun b hb => ?_
  have hb' := (List.mergeSort_perm _ _).mem_iff.mp hb
  exact reps_zip r b.1 (List.of_mem_zip hb').1
theorem pys_len : ∀ {ds : List D} {ps : List PyData}, pys ds = some ps → ds.length = ps.length
  | [], _, e => by cases e; rfl
  | d :: ds, ps, e => by
    simp only [pys] at e
    cases h1 : py d with
    | none => rw [h1] at e; cases e
    | some p =>
      cases h2 : pys ds with
      | none => rw [h1, h2] at e; cases e
      | some qs => rw [h1, h2] at e; cases e; simp [pys_len h2]
theorem mf_sortD {e : Expr} {es : List Expr} {p pos : Pos} {ms : ME τ (List D)} (hu : X.A.units + 64 < cLine) (hg : Gl X "sorted") (hm : X.mg "sorted" = none) (ha : PA X (e :: es) (tAW X.K W ms))
    (he : starEach (e :: es) X.env = (false, eval e X.env) :: starEach es X.env := by rfl) (hpl : (backTo pos (starEach es X.env)).any (·.1) = false := by rfl) :
    PE X (.Call (.Name "sorted" p) (e :: es) [] pos) (tF X.K W (MM.e1 fSortD ms)) := PE.imp (pe_callB (cr_sortD hu) hg hm (by decide +kernel) ha (by decide) (by decide) he hpl) fun σ H Q ⟨C, ρ, t, A, p⟩ => by
  refine use okF A p fun ds t1 v H1 e1 s1 A1 r1 p1 => ?_
  unfold fSortD at p1
  split at p1
  · obtain ⟨v, rfl, r0⟩ := RepsW.one r1
    obtain ⟨a, vs, rfl, h1, rs⟩ := r0.lstOf
    rename_i ds
    cases e : pys ds with
    | none => rw [e] at p1; exact p1.elim
    | some ps =>
      rw [e, Option.bind_some] at p1
      split at p1
      · rename_i hc
        exact ⟨a, vs, ps, rfl, h1.sq, dps_of (F0 := Fo C.F ρ σ) rs e, hc, fun q nq => new_fin A1 (rs.sortV (pys_len e)) p1 q nq⟩
      · exact p1.elim
  · exact p1.elim
end
theorem sortV_of {α β : Type} {f : α → β} {g : α → PyData} {le : α → α → Bool} (xs : List α) (h : ∀ a ∈ xs, ∀ b ∈ xs, PySem.W.dataLe false g a b = le a b) : sortV (xs.map f) (xs.map g) = (xs.mergeSort le).map f := by
  unfold sortV
  have e : ∀ xs : List α, (xs.map f).zip (xs.map g) = xs.map fun x => (f x, g x) := fun xs => by
    induction xs with
    | nil => rfl
    | cons x xs ih => simp [ih]
  rw [e, ← List.map_mergeSort (r := le) (s := PySem.W.dataLe false fun b : β × PyData => b.2) (f := fun x => (f x, g x)), List.map_map]
  · rfl
  · intro a ha b hb; exact (h a ha b hb).symm
end MM

namespace MM
open PySem PySem.Spec PyProof.Rows L2
section
variable {X : Cx} {W : WX} {τ : Type} [Sto τ] {K : Fg}
def dCutA : D → Option Int → Option Int → Option D
  | .lst ds, lo, hi => some (.lst (cutD ds lo hi))
  | .tup ds, lo, hi => some (.tup (cutD ds lo hi))
  | .str z, lo, hi => if lim2 z.length = true then some (.str (cutS z lo hi)) else none
  | _, _, _ => none
theorem me_cutA {e : Expr} {lo hi : Option Expr} {p2 pos : Pos} {m : ME τ D} {ml mh : ME τ (Option Int)} (h : PE X e (tW X.K W m)) (hl : PO X lo (tO X.K W ml)) (hh : PO X hi (tO X.K W mh)) : PE X (.Subscript e (.Slice lo hi none p2) pos) (tE X.K W (e3 dCutA m ml mh)) :=
  PE.imp (pe_slice ((sl_tupA.or sl_str).or sl_list) h hl hh) fun σ H Q ⟨C, ρ, t, A, p⟩ => by
    refine use okE A p fun d t1 v H1 e1 s1 A1 r1 p1 => ?_
    refine use okE A1 p1 fun l t2 l' H2 e2 s2 A2 rl p2 => ?_
    refine use okE A2 p2 fun u t3 u' H3 e3 s3 A3 ru p3 => ?_
    cases rl
    cases ru
    have rd := RepW.same (RepW.same r1 s2 fun _ => Fo.base) s3 fun _ => Fo.base
    cases d <;> first
      | exact p3.elim
      | skip
    · rename_i z
      unfold dCutA at p3
      dsimp only at p3
      split at p3
      · rename_i hz
        exact .inl (.inr ⟨z, rd.strOf, lim2_le hz, p3 _ H3 (Sm.refl _ _) A3.st (.str _)⟩)
      · exact p3.elim
    · obtain ⟨a, vs, rfl, q, rs⟩ := rd.tupOf
      refine .inl (.inl ⟨a, vs, rfl, q.sq, fun hw => ?_, fun _ b nb => p3 _ _ (Sm.of_same (same_upd nb)) (C.stay A3.st (same_upd nb)) (Rep.newTup (rs.cut _ _) A3.dom nb)⟩)
      refine p3 _ H3 (Sm.refl _ _) A3.st ?_
      show Rep X.K _ H3 (V.ref a) (.tup (cutD _ _ _))
      unfold cutD
      rw [← rs.length, hw.1, hw.2, List.drop_zero, Nat.sub_zero, rs.length, List.take_length]
      exact .tup q rs
    · obtain ⟨a, vs, rfl, q, rs⟩ := rd.lstOf
      exact .inr ⟨a, vs, rfl, q.sq, fun b nb => p3 _ _ (Sm.of_same (same_upd nb)) (C.stay A3.st (same_upd nb)) (Rep.newLst (rs.cut _ _) A3.dom nb)⟩
theorem room65 {k : Nat} {A : Around} (r : Room k A) : A.units + 65 < cLine := by have := r.un; omega
def inD (d e : D) : Option Bool := match e with
  | .lst es => (match py d, pys es with
    | some p, some ps => if SeqAt.shaped p = true ∧ SeqAt.shaped (.list ps) = true then some (ps.any fun z => PyData.eqv z p) else none
    | _, _ => none)
  | _ => none
def dNotIn : D → D → Option D := fun d e => (inD d e).map fun b => .bl (!b)
theorem inD_of {d e : D} {b : Bool} (h : inD d e = some b) : ∃ p ps, py d = some p ∧ py e = some (.list ps) ∧ SeqAt.shaped p = true ∧ SeqAt.shaped (.list ps) = true ∧ b = ps.any fun z => PyData.eqv z p := by
  unfold inD at h
  split at h
  · split at h
    · rename_i es p ps h1 h2
      split at h
      · rename_i hs
        cases h
        exact ⟨p, ps, h1, by simp only [py, h2]; rfl, hs.1, hs.2, rfl⟩
      · cases h
    · cases h
  · cases h
theorem o_notin : DOp2 K (rNotInD K) dNotIn := by
  intro F0 F H x y d e z Q dm r1 r2 h q
  unfold dNotIn at h
  cases e2 : inD d e with
  | none => rw [e2] at h; cases h
  | some b =>
    rw [e2] at h
    cases h
    obtain ⟨p, ps, h1, h2, h3, h4, rfl⟩ := inD_of e2
    exact ⟨p, ps, r1.dp h1, r2.dp h2, h3, h4, q _ _ (fun _ _ e => e) (.bl _)⟩
end
@[simp] theorem dCutA_lst {ds : List D} {lo hi : Option Int} : dCutA (.lst ds) lo hi = some (.lst (cutD ds lo hi)) := rfl
@[simp] theorem dCutA_tup {ds : List D} {lo hi : Option Int} : dCutA (.tup ds) lo hi = some (.tup (cutD ds lo hi)) := rfl
end MM

namespace MM
open PySem PySem.Spec PyProof.Rows L2
section
variable {X : Cx} {W : WX} {τ : Type} [Sto τ] {K : Fg}
end
end MM

namespace MM
open PySem PySem.Spec PyProof.Rows L2
section
variable {X : Cx} {W : WX} {τ : Type} [Sto τ] {K : Fg}
structure ClsF (K : Fg) (C : Str) : Prop where
  cl : Cls K (He.ga K C)
  ha : PySem.W.findIn K (.ref (He.ga K C)) "__class__" = some (some (.builtin "object.__class__"))
  hn : PySem.W.specialIn K (.builtin "object.__class__") "__get__" = some (some (.builtin "getset_descriptor.__get__"))
  htk : PySem.W.takesIn K (.builtin "object.__class__") = some true
  hm : PySem.W.mroIn K (He.ga K C) (.type "object") = some true
theorem ClsF.ty (c : ClsF K C) {H : Hp} {a dx : Addr} {fs : List (Str × V)} (e : H a = some (.ins (He.ga K C) dx fs)) : TyX K H (.ref a) (.ref (He.ga K C)) := .base (.ins e c.cl c.ha c.hn c.htk c.hm)
structure MethE (P : Program) (w : World) (K : Fg) (mg : Str → Option Value) (base : Heap) (k : Nat) (C m : Str) (np : Nat) (mf : List D → Unit → Res Unit D) : Prop where
  ex : ∃ (fd : FuncData) (ps : List Str), FnOk P w K mg base (L2.CX P w) k (He.ma K (He.ga K C) m) fd ps (spF np K mf) ∧ Binds K fd ps [] ∧ ClsF K C ∧ Meth K (He.ga K C) m (He.ma K (He.ga K C) m)
theorem MethE.mono {P : Program} {w : World} {mg : Str → Option Value} {base : Heap} {j k : Nat} {C m : Str} {np : Nat} {mf : List D → Unit → Res Unit D} (F : MethE P w K mg base j C m np mf) (h : j ≤ k) : MethE P w K mg base k C m np mf := by
  obtain ⟨fd, ps, f1, f2⟩ := F.ex
  exact ⟨fd, ps, f1.mono h, f2⟩
theorem SqT.upd_ne {H : Hp} {a x : Addr} {o o' : HO} {xs : List V} (h : SqT K H a xs) (hx : H x = some o) (ho : ∀ ys, o ≠ .tup ys) (hf : ∀ oo ys, o ≠ .frz oo (.tup ys)) : SqT K (upd H x o') a xs := by
  rcases h with h | h
  · rcases h with h | ⟨oo, h⟩
    · refine .inl (.inl ?_)
      rw [L2.upd_ne]; exact h
      intro z; subst z; rw [hx] at h; cases h; exact ho _ rfl
    · refine .inl (.inr ⟨oo, ?_⟩)
      rw [L2.upd_ne]; exact h
      intro z; subst z; rw [hx] at h; cases h; exact hf _ _ rfl
  · exact .inr h
end
section
variable {X : Cx} {K : Fg}
end
section
variable {K : Fg}
end
section
variable {τ : Type} {X : Str → Fds → τ → Prop} {ρ : Rho} {t : τ}
end
end MM

namespace MM
open PySem PySem.Spec PyProof.Rows L2
def keqD : D → D → Bool
  | .int i, .int j => decide (i = j)
  | .str x, .str y => decide (x = y)
  | .tup a, .tup b => match intsD a, intsD b with
    | some m, some n => decide (m = n)
    | _, _ => false
  | _, _ => false
def isAtK (k : D) : Bool := (keyOf k).isSome
def isTuK : D → Bool
  | .tup ds => (intsD ds).isSome
  | _ => false
def putL (ks xs : List D) (k v : D) : List D × List D := if (ks.any (keqD k)) = true then (ks, List.zipWith (fun k' x => if keqD k k' = true then v else x) ks xs) else (ks ++ [k], xs ++ [v])
def putAK (ks xs : List D) (k v : D) : Option (List D × List D) := if isAtK k = true ∧ ks.length < 16777216 then some (putL ks xs k v) else none
def putTK (ks xs : List D) (k v : D) : Option (List D × List D) := if isTuK k = true ∧ ks.length < 16777216 then some (putL ks xs k v) else none
def putD (ks xs : List D) (k v : D) : Option (List D × List D) := match ks with
  | .tup _ :: _ => putTK ks xs k v
  | _ => putAK ks xs k v
theorem intsD_map : ∀ ns : List Int, intsD (ns.map D.int) = some ns
  | [] => rfl
  | n :: ns => by show (intsD (ns.map D.int)).map (n :: ·) = _; rw [intsD_map ns]; rfl
theorem intsD_inv : ∀ {ds : List D} {ns : List Int}, intsD ds = some ns → ds = ns.map D.int
  | [], ns, e => by cases e; rfl
  | d :: ds, ns, e => by
    cases d <;> first
      | (cases e; done)
      | skip
    rename_i i
    cases q : intsD ds with
    | none =>
      have e' : (intsD ds).map (i :: ·) = some ns := e
      rw [q] at e'; cases e'
    | some ms =>
      have e' : (intsD ds).map (i :: ·) = some ns := e
      rw [q] at e'; cases e'
      rw [intsD_inv q]; rfl
theorem keqD_at {k : D} {k' : Key} : keqD k (keyD k') = true ↔ k = keyD k' := by
  cases k' with
  | inl i =>
    cases k <;> simp [keqD, keyD]
  | inr x =>
    cases k <;> simp [keqD, keyD]
theorem keqD_tu {k : D} {ns : List Int} : keqD k (.tup (ns.map D.int)) = true ↔ k = .tup (ns.map D.int) := by
  cases k <;> simp [keqD]
  rename_i ds
  cases e : intsD ds with
  | none =>
    simp only [Bool.false_eq_true, false_iff]
    intro z
    rw [z, intsD_map] at e; cases e
  | some ms =>
    rw [intsD_map]
    simp only [decide_eq_true_eq]
    constructor
    · intro z; rw [intsD_inv e, z]
    · intro z; rw [z, intsD_map] at e; exact Option.some.inj e.symm
theorem keyD_of {k : D} (h : isAtK k = true) : ∃ k', k = keyD k' := by
  unfold isAtK at h
  cases k <;> first
    | exact ⟨.inl _, rfl⟩
    | exact ⟨.inr _, rfl⟩
    | cases h
theorem tuK_of {k : D} (h : isTuK k = true) : ∃ ns : List Int, k = .tup (ns.map D.int) := by
  cases k <;> first
    | (cases h; done)
    | skip
  rename_i ds
  have h' : (intsD ds).isSome = true := h
  cases e : intsD ds with
  | none => rw [e] at h'; cases h'
  | some ns => exact ⟨ns, by rw [intsD_inv e]⟩
section
variable {K : Fg} {F0 F : Fp} {H : Hp}
theorem RepW.dctOf {v : V} {ks ds : List D} (r : RepW K F0 F H v (.dct ks ds)) : ∃ a u, v = .ref a ∧ H a = some u ∧ DOb K F H a u ks ds := by
  generalize e : D.dct ks ds = d at r
  cases r with
  | of r =>
    cases r <;> first
      | (cases e; done)
      | skip
    · rename_i n h1 rs
      cases e
      exact ⟨_, _, rfl, h1, .k rs⟩
    · rename_i n ne h1 ox kt rs
      cases e
      exact ⟨_, _, rfl, h1, .x ne ox kt rs⟩
  | lst h rs => cases e
  | dct n h rs => cases e; exact ⟨_, _, rfl, h, rs⟩
theorem RepW.keyOf {y : V} {k : Key} (r : RepW K F0 F H y (keyD k)) : y = kV k := by
  cases k with
  | inl i => exact r.intOf
  | inr x => exact r.strOf
theorem RepW.tuOf {y : V} {ns : List Int} (r : RepW K F0 F H y (.tup (ns.map D.int))) : ∃ b, y = .ref b ∧ TupF K F H b (ns.map V.int) := by
  obtain ⟨a, vs, rfl, h, rs⟩ := r.tupOf
  exact ⟨a, rfl, by rw [← intsD_ok rs (intsD_map ns)]; exact h⟩
theorem put_K {kvs : List (Key × V)} {xs : List D} {k : Key} {v : V} {d : D} (r : Reps K F H (kvs.map (·.2)) xs) (rv : Rep K F H v d) : ∃ ks' xs', putL (kvs.map fun p => keyD p.1) xs (keyD k) d = (ks', xs') ∧ ks' = (putK kvs k v).map (fun p => keyD p.1) ∧ Reps K F H ((putK kvs k v).map (·.2)) xs' := by
  have ea : ((kvs.map fun p => keyD p.1).any (keqD (keyD k))) = (kvs.any fun kv => decide (kv.1 = k)) := by
    rw [List.any_map]
    congr 1
    funext p
    rw [Bool.eq_iff_iff]
    simp only [Function.comp, decide_eq_true_eq]
    rw [keqD_at]
    exact ⟨fun z => (keyD_inj z).symm, fun z => by rw [z]⟩
  unfold putL putK
  rw [ea]
  by_cases q : (kvs.any fun kv => decide (kv.1 = k)) = true
  · rw [if_pos q, if_pos q]
    clear q ea
    refine ⟨_, _, rfl, ?_, ?_⟩
    · rw [List.map_map]
      apply List.map_congr_left
      intro p _
      simp only [Function.comp]
      split <;> rfl
    · induction kvs generalizing xs with
      | nil => cases r; exact .nil
      | cons p kvs ih =>
        cases r with
        | cons r t =>
          simp only [List.map_cons, List.zipWith_cons_cons]
          refine .cons ?_ (ih t)
          by_cases e : p.1 = k
          · rw [if_pos (keqD_at.mpr (by rw [e])), if_pos e]; exact rv
          · rw [if_neg (fun z => e (keyD_inj (keqD_at.mp z)).symm), if_neg e]; exact r
  · rw [if_neg q, if_neg q]
    exact ⟨_, _, rfl, by simp, by rw [List.map_append]; exact r.snoc rv⟩
theorem put_X {es : List EX} {xs : List D} {k : List Int} {b : Addr} {v : V} {d : D} (r : Reps K F H (es.map (·.2.2)) xs) (rv : Rep K F H v d) : ∃ ks' xs', putL (es.map fun p => D.tup (p.1.map D.int)) xs (.tup (k.map D.int)) d = (ks', xs') ∧ ks' = (putX es k b v).map (fun p => D.tup (p.1.map D.int)) ∧ Reps K F H ((putX es k b v).map (·.2.2)) xs' := by
  have inj : ∀ {m n : List Int}, D.tup (m.map D.int) = D.tup (n.map D.int) → m = n := fun {m n} z => by
    have := intsD_map m
    injection z with z
    rw [z, intsD_map] at this
    exact (Option.some.inj this).symm
  have ea : ((es.map fun p => D.tup (p.1.map D.int)).any (keqD (.tup (k.map D.int)))) = (es.any fun p => decide (p.1 = k)) := by
    rw [List.any_map]
    congr 1
    funext p
    rw [Bool.eq_iff_iff]
    simp only [Function.comp, decide_eq_true_eq]
    rw [keqD_tu]
    exact ⟨fun z => (inj z).symm, fun z => by rw [z]⟩
  unfold putL putX
  rw [ea]
  by_cases q : (es.any fun p => decide (p.1 = k)) = true
  · rw [if_pos q, if_pos q]
    clear q ea
    refine ⟨_, _, rfl, ?_, ?_⟩
    · rw [List.map_map]
      apply List.map_congr_left
      intro p _
      simp only [Function.comp]
      split <;> rfl
    · induction es generalizing xs with
      | nil => cases r; exact .nil
      | cons p es ih =>
        cases r with
        | cons r t =>
          simp only [List.map_cons, List.zipWith_cons_cons]
          refine .cons ?_ (ih t)
          by_cases e : p.1 = k
          · rw [if_pos (keqD_tu.mpr (by rw [e])), if_pos e]; exact rv
          · rw [if_neg (fun z => e (inj (keqD_tu.mp z)).symm), if_neg e]; exact r
  · rw [if_neg q, if_neg q]
    exact ⟨_, _, rfl, by simp, by rw [List.map_append]; exact r.snoc rv⟩
theorem putX_all {P : EX → Prop} {es : List EX} {k : List Int} {b : Addr} {v : V} (h : ∀ p ∈ es, P p) (hn : P (k, b, v)) (hv : ∀ p ∈ es, P (p.1, p.2.1, v)) : ∀ p ∈ putX es k b v, P p := by
  unfold putX
  split
  · intro p hp
    obtain ⟨q, hq, rfl⟩ := List.mem_map.mp hp
    split
    · exact hv q hq
    · exact h q hq
  · intro p hp
    rcases List.mem_append.mp hp with hp | hp
    · exact h p hp
    · rw [List.mem_singleton.mp hp]; exact hn
theorem putX_ne {es : List EX} {k : List Int} {b : Addr} {v : V} : putX es k b v ≠ [] := by
  unfold putX
  split
  · rename_i q
    intro z
    rw [List.map_eq_nil_iff] at z
    rw [z] at q; cases q
  · simp
end
section
variable {X : Cx} {W : WX} {τ : Type} [Sto τ] {K : Fg}
theorem allT_of {F : Fp} {H : Hp} {es : List EX} (h : ∀ p ∈ es, TupF K F H p.2.1 (p.1.map V.int)) : AllT K H es := fun p hp => (h p hp).sq
def rSetG (K : Fg) : TSet := fun o i v H Q => (∃ a H', o = .ref a ∧ DPut H a i v H' ∧ Q H') ∨
  ∃ a b ob es k, o = .ref a ∧ i = .ref b ∧ H a = some (exo a ob) ∧ OX a ob es ∧ AllT K H es ∧ SqT K H b (k.map V.int) ∧ es.length < sizeLine ∧ ∀ o', OX a o' (putX es k b v) → Q (upd H a (exo a o'))
theorem set_dctG (hu : X.A.units + 1 < cLine) : PSet X (rSetG X.K) := by
  intro pins s σ H o i v ov iv u Q I ro ri rv h
  rcases h with h | ⟨a, b, ob, es, k, rfl, rfl, ha, ox, kt, hk, z, q⟩
  · exact set_dict hu pins s σ H o i v ov iv u Q I ro ri rv h
  · cases ro
    cases ri
    exact dx_setItem hu I ha ox kt hk z rv fun s' o' x' I' => ⟨_, I', q o' x'⟩
def sPutD (i : Nat) (mv mk : ME τ D) : MS τ := fun ρ t => match ρ[i]? with
  | some (.dct ks xs) => sDo mv (fun v ρ t => sDo mk (fun k ρ t => match putD ks xs k v with
      | some p => .nx (ρ.set i (.dct p.1 p.2)) t
      | none => .bad) ρ t) ρ t
  | _ => .bad
theorem putL_red {C : SC τ} {ρ : Rho} {t : τ} {σ : St} {H : Hp} {i : Nat} {ks xs : List D} {y v : V} {k d : D} {p : List D × List D} {Q : Hp → Prop} (A : At K C ρ t σ H) (hi : ρ[i]? = some (.dct ks xs)) (ry : Rep K (Fo C.F ρ σ) H y k) (rv : Rep K (Fo C.F ρ σ) H v d) (e : putD ks xs k d = some p)
    (q : ∀ H', At K C (ρ.set i (.dct p.1 p.2)) t σ H' → Stp (Fo C.F ρ σ) H (Fo C.F (ρ.set i (.dct p.1 p.2)) σ) H' → Q H') : ∃ a, σ[i]? = some (some (.ref a)) ∧ rSetG K (.ref a) y v H Q := by
  obtain ⟨a, u, hs, nF, ha, r⟩ := A.dct i ks xs hi
  refine ⟨a, hs, ?_⟩
  have go : ∀ {u' : HO}, DOb K (Fo C.F ρ σ) H a u' p.1 p.2 → Q (upd H a u') := fun {u'} ob => by
    obtain ⟨A2, sp⟩ := A.reMine (y := .dct p.1 p.2) ⟨hi, rfl⟩ rfl hs (.dct ob)
    exact q _ A2 sp
  cases r with
  | k r =>
    rename_i kvs
    have e' : putAK (kvs.map fun p => keyD p.1) xs k d = some p := by
      unfold putD at e
      split at e
      · rename_i h
        cases kvs with
        | nil => cases h
        | cons q kvs =>
          simp only [List.map_cons, List.cons.injEq] at h
          cases hk : q.1 <;> (rw [hk] at h; cases h.1)
      · exact e
    unfold putAK at e'
    split at e'
    · rename_i hc
      obtain ⟨k0, rfl⟩ := keyD_of hc.1
      obtain ⟨ks', xs', h1, h2, h3⟩ := put_K (k := k0) r rv
      rw [h1] at e'
      cases e'
      refine .inl ⟨a, _, rfl, ?_, go (u' := .dK (putK kvs k0 v)) (by rw [h2]; exact .k h3)⟩
      have hy : y = kV k0 := (RepW.of (F0 := Fo C.F ρ σ) ry).keyOf
      rw [hy]
      have hl := hc.2
      rw [List.length_map] at hl
      exact DPut.k ha hl
    · cases e'
  | x ne ox kt r =>
    rename_i ob es
    have e' : putTK (es.map fun p => D.tup (p.1.map D.int)) xs k d = some p := by
      unfold putD at e
      cases es with
      | nil => exact absurd rfl ne
      | cons q es => exact e
    unfold putTK at e'
    split at e'
    · rename_i hc
      obtain ⟨ns, rfl⟩ := tuK_of hc.1
      obtain ⟨b, rfl, tb⟩ := (RepW.of (F0 := Fo C.F ρ σ) ry).tuOf
      obtain ⟨ks', xs', h1, h2, h3⟩ := put_X (k := ns) (b := b) r rv
      rw [h1] at e'
      cases e'
      have hl := hc.2
      rw [List.length_map] at hl
      refine .inr ⟨a, b, ob, es, ns, rfl, rfl, ha, ox, allT_of kt, tb.sq, hl, fun o' x' => go (u' := exo a o') ?_⟩
      rw [h2]
      exact .x putX_ne x' (putX_all (P := fun p => TupF K (Fo C.F ρ σ) H p.2.1 (p.1.map V.int)) kt tb kt) h3
    · cases e'
theorem ms_putD {s : Stmt} {i : Nat} {mv mk : ME τ D} (h : PS X s (tAsg (tE X.K W mv) (gSub (tVar i) (tE X.K W mk) (rSetG X.K)))) : PS X s (tS X.K W (sPutD i mv mk)) := PS.imp h fun E σ H ⟨C, ρ, t, A, p⟩ => by
  unfold sPutD at p
  split at p
  · rename_i ks xs hi
    refine useS A p fun d t1 v H1 e1 s1 A1 r1 p1 => ?_
    obtain ⟨a, u, hs, nF, ha, hr⟩ := A1.dct i ks xs hi
    refine ⟨_, hs, ?_⟩
    refine useS A1 p1 fun k t2 y H2 e2 s2 A2 r2 p2 => ?_
    cases e : putD ks xs k d with
    | none => rw [e] at p2; exact p2.elim
    | some pr =>
      rw [e] at p2
      obtain ⟨a', hs', g⟩ := putL_red (Q := fun H' => E.nx σ H') A2 hi r2 (r1.same (s2.mono fun _ => .inl)) e fun H' A3 sp => p2 σ H' sp A3
      rw [hs] at hs'
      cases hs'
      exact g
  · exact p.elim
end
end MM

namespace MM
open PySem PySem.Spec PyProof.Rows L2
section
variable {X : Cx}
structure PutK (X : Cx) where
  o0 : Addr → HO
  Pu : Hp → Addr → V → V → (Hp → Prop) → Prop
  new : ∀ (h : Heap) (H : Hp), sysModules < h.objs.size → ObjOk X.prog X.w H (h.push { cls := .type "dict", data := .dict #[] }) h.objs.size (o0 h.objs.size)
  put : ∀ {Y : Cx} {pins : List (Addr × Obj)} {σ : L2.St} {H : Hp} {R : Hp → Prop} {s : Shared} {d : Addr} {y z : V} {u r : Value} {Q : Unit → Shared → Prop} {E : Value → Shared → Prop}, Y.prog = X.prog → Y.w = X.w → Y.K = X.K → Y.A.units + 1 < cLine → Inv Y pins σ H s → Pu H d y z R → RelV y u → RelV z r → (∀ H' s', Inv Y pins σ H' s' → R H' → Q () s') → wpAny (model Y.prog Y.w) Y.A (dictSet d u r) Q E s
def tDg (p : PutK X) (wi : TI) (g : TG) (tt : TT) (tk tv : TE) (vs : List Nat) : TE := fun σ H Q => wi σ H fun J Ha => ∀ d, Ha d = none → sysModules < d → ∃ W : Nat → Nat → Hp → Prop, (∃ m, W 0 m (upd Ha d (p.o0 d))) ∧
  ∀ i m Hb, W i m Hb → (J.stop i Hb ∧ Q (.ref d) Hb) ∨ (J.go i Hb ∧ ∃ Nx : Hp → Prop, (∀ H', Nx H' → ∃ m', m' < m ∧ W (i + 1) m' H') ∧
    ∀ x H', J.yld i Hb x H' → g x (wipe σ vs) H' fun σ2 Hc => wipe σ2 vs = wipe σ vs ∧ tt σ2 Hc fun b Hd => if b = true then tk σ2 Hd fun y He => tv σ2 He fun z Hf => p.Pu Hf d y z Nx else Nx Hd)
theorem dg_core {p : PutK X} {pins : List (Addr × Obj)} {s : Shared} {σ : L2.St} {H : Hp} {Q : VK} {kx vx tg iter : Expr} {ifs : List Expr} {scope : Scope} {own : List (Str × Nat)} {pos pos' : Pos} {wi : TI} {g : TG} {tt : TT} {tk tv : TE} {use : Option (Value → Sem Unit)} {Qf : Value → Shared → Prop}
    (hu : X.A.units + 1 < cLine) (hc : X.calm = true) (hN : X.N.Nodup) (I : Inv X pins σ H s) (hi : PI X tg iter wi) (ok : BlkOk X.N X.env.scope scope own)
    (hg : ∀ (s : Shared) (H : Hp) (C : Addr) (cl : List (Str × Addr)) (fp : List Addr), PG (X.blk s H scope (compEnvC scope cl C X.env) fp) tg g)
    (ht : ∀ (s : Shared) (H : Hp) (C : Addr) (cl : List (Str × Addr)) (fp : List Addr), PTs (X.blk s H scope (compEnvC scope cl C X.env) fp) ifs tt)
    (hk : ∀ (s : Shared) (H : Hp) (C : Addr) (cl : List (Str × Addr)) (fp : List Addr), PE (X.blk s H scope (compEnvC scope cl C X.env) fp) kx tk)
    (he : ∀ (s : Shared) (H : Hp) (C : Addr) (cl : List (Str × Addr)) (fp : List Addr), PE (X.blk s H scope (compEnvC scope cl C X.env) fp) vx tv) (hs : ∀ x, foldedSetIterable iter X.env x = pure x)
    (h : tDg p wi g tt tk tv (own.map (·.2)) σ H Q)
    (fin : ∀ d C s' m H', Inv X pins σ H' s' → Q (.ref d) H' → s'.heap.Ns C m → FpOk X pins H' C → compPost (model X.prog X.w) X.A X.xe use Qf (.ref d) C (.ok .next) s') :
    wpAny (model X.prog X.w) X.A (comprehension (.DictComp kx vx [⟨tg, iter, ifs, 0⟩] scope pos) scope X.env pos' newDict false (eval iter X.env) use) Qf X.xe s := by
  have free : ∀ y ∈ scope.names, y.2 = .free → ∃ c, X.env.cells.lookup y.1 = some c := fun y hy e => (ok.free y hy e).elim (fun k => I.ok.has _ (.inl k)) fun k => I.ok.has _ (.inr k)
  refine wpAny_comprehension_free (use := use) rfl hs (closure_ok free) ok.kind (fun y hy e => by rw [ok.uniq y hy, e]) (thn (hi.run pins s σ H _ I h) fun xv sa hx => thn hx fun itv sb hb => ?_)
  obtain ⟨it, fp, tn, J, Hb, rfl, Ib, T, stb, fb, q⟩ := hb
  refine wpAny_newObj_type (newEnv_comp ?_)
  generalize hd : sb.heap.objs.size = d
  obtain ⟨W, ⟨m0, w0⟩, turn⟩ := q d (Ib.hok.fresh (Nat.le_of_eq hd)) (by rw [← hd]; exact Ib.big)
  generalize hsc : ({ sb with heap := sb.heap.push { cls := .type "dict", data := .dict #[] } } : Shared) = sc
  have hpush : sc.heap = sb.heap.push { cls := .type "dict", data := .dict #[] } := by rw [← hsc]
  have Ic : Inv X pins σ (upd Hb d (p.o0 d)) sc := by
    rw [← hsc]
    exact Ib.laid (t' := sb.toks) (fun _ _ e => Heap.get?_push_of_some _ e) (Nat.le_of_eq hd) (by rw [← hd]; exact p.new sb.heap _ Ib.big)
  have lt : ∀ b ∈ fp, b < sb.heap.objs.size := fun b hb => let ⟨_, e, _⟩ := T.obj _ _ stb b hb; Heap.lt_size e
  have fc : ∀ b ∈ fp, FpOk X pins (upd Hb d (p.o0 d)) b ∧ b < sc.heap.objs.size := fun b hb =>
    ⟨⟨by rw [upd_ne (by rw [← hd]; exact Nat.ne_of_lt (lt b hb))]; exact (fb b hb).1, (fb b hb).2⟩, by rw [hpush, Heap.size_push]; exact Nat.lt_succ_of_lt (lt b hb)⟩
  have stc : tn 0 sc.heap := T.keep _ _ _ stb fun b _ o e => by rw [hpush]; exact Heap.get?_push_of_some _ e
  have Id := block_start Ic ok hN fc
  have pg := hg sc (upd Hb d (p.o0 d)) sc.heap.objs.size (cellsFrom (sc.heap.objs.size + 1) scope.names (cloFrom X.env.cells scope.names [])) fp
  have pt := ht sc (upd Hb d (p.o0 d)) sc.heap.objs.size (cellsFrom (sc.heap.objs.size + 1) scope.names (cloFrom X.env.cells scope.names [])) fp
  have pk := hk sc (upd Hb d (p.o0 d)) sc.heap.objs.size (cellsFrom (sc.heap.objs.size + 1) scope.names (cloFrom X.env.cells scope.names [])) fp
  have pv := he sc (upd Hb d (p.o0 d)) sc.heap.objs.size (cellsFrom (sc.heap.objs.size + 1) scope.names (cloFrom X.env.cells scope.names [])) fp
  show codeAny _ _ (.compStart (.DictComp kx vx [⟨tg, iter, ifs, 0⟩] scope pos) 0 (.ref it) (.ref d) (compEnvC scope (cellsFrom (sc.heap.objs.size + 1) scope.names (cloFrom X.env.cells scope.names [])) sc.heap.objs.size X.env)) (compPost (model X.prog X.w) X.A X.xe use Qf (.ref d) sc.heap.objs.size) { sc with heap := pushCells (sc.heap.push { cls := .type "dict", data := .dict #[] }) scope.names }
  have nfp : ∀ b ∈ fp, (upd Hb d (p.o0 d)) b = none := fun b hb => (fc b hb).1.1
  generalize hev : compEnvC scope (cellsFrom (sc.heap.objs.size + 1) scope.names (cloFrom X.env.cells scope.names [])) sc.heap.objs.size X.env = ev at Id pg pt pk pv ⊢
  have cL : ev.locals = sc.heap.objs.size := by subst hev; rfl
  generalize hHc : upd Hb d (p.o0 d) = Hc at Ic Id pg pt pk pv w0 nfp fc
  generalize hsd : ({ sc with heap := pushCells (sc.heap.push { cls := .type "dict", data := .dict #[] }) scope.names } : Shared) = sd at Id ⊢
  have std : tn 0 sd.heap := T.keep _ _ _ stc fun b _ o e => by rw [← hsd]; exact pushCells_keeps _ _ _ _ (Heap.get?_push_of_some _ e)
  have stat : ∀ {σ' : L2.St} {H' : Hp} {s' : Shared}, Inv (X.blk sc Hc scope ev fp) [] σ' H' s' → (∀ b ∈ fp, H' b = none) → ∀ b ∈ fp, FpOk (X.blk sc Hc scope ev fp) [] H' b := fun {_ _ _} I' hn b hb =>
    ⟨hn b hb, (I'.ok.exf b hb).1, I'.ok.exfs b hb, .inl hb, fun x c e => (I'.ok.exf b hb).2 x c e, fun p hp => absurd (show p ∈ ([] : List (Addr × Obj)) ++ [] from hp) (by simp)⟩
  have loop : codeAny (model X.prog X.w) X.A (.compLoop (.DictComp kx vx [⟨tg, iter, ifs, 0⟩] scope pos) 0 (.ref it) (.ref d) ev) (compPost (model X.prog X.w) X.A X.xe use Qf (.ref d) sc.heap.objs.size) sd := by
    refine compLoop_anyD (fun n s' => ∃ i H', Inv (X.blk sc Hc scope ev fp) [] (wipe σ (own.map (·.2))) H' s' ∧ tn i s'.heap ∧ (∀ b ∈ fp, H' b = none) ∧ W i n H') ?_ m0 ⟨0, Hc, Id, std, nfp, w0⟩
    rintro n se ⟨i, He, Ie, ste, ne, we⟩
    rcases turn i n He we with ⟨stop, qq⟩ | ⟨go, Nx, hNx, step⟩
    · refine thnF (T.done (X.blk sc Hc scope ev fp) rfl rfl rfl hc i [] se _ He (fun _ _ => False) Ie (stat Ie ne) ste stop) fun r sf ⟨hr, If⟩ => ?_
      subst hr
      have Ig : Inv X pins σ He sf := Ic.call' (ch := fp) If.os If.base If.hok If.bare fun b hb => ⟨(fc b hb).1.2.2.2.1, (fc b hb).1.2.1, (fc b hb).1.2.2.2.2.1, (fc b hb).1.2.2.2.2.2⟩
      have nC : He sc.heap.objs.size = none := by rw [← cL]; exact If.free
      obtain ⟨m, hn, _⟩ := If.loc
      have hn : sf.heap.Ns ev.locals m := hn
      rw [cL] at hn
      exact fin d sc.heap.objs.size sf m He Ig qq hn (Ic.fpOk (Nat.le_refl _) nC)
    · refine thnF (T.item (X.blk sc Hc scope ev fp) rfl rfl rfl hc i [] se _ He (fun _ _ => False) Ie (stat Ie ne) ste go) fun r sf ⟨u, hr, hf⟩ => ?_
      subst hr
      refine thnF hf fun _ sg ⟨x, Hg, Ig, rg, yg, stg, ng⟩ => ?_
      refine thnF (pg.run _ sg _ Hg x u _ (Ig.pinned (stat Ig ng) (T.obj _ _ stg)) rg (step x Hg yg)) fun _ sh ⟨σh, Hh, Ih, hw, qh⟩ => ?_
      refine thnF (pt.run _ sh σh Hh _ Ih qh) fun b sj ⟨Hj, Ij, qj⟩ => ?_
      have endd : ∀ {s' : Shared} {H' : Hp}, Inv (X.blk sc Hc scope ev fp) ([] ++ pinsAt fp sg.heap) σh H' s' → Nx H' → ∃ m, m < n ∧ ∃ i H', Inv (X.blk sc Hc scope ev fp) [] (wipe σ (own.map (·.2))) H' s' ∧ tn i s'.heap ∧ (∀ b ∈ fp, H' b = none) ∧ W i m H' := fun {s' H'} I' nx => by
        obtain ⟨m', hm, w'⟩ := hNx H' nx
        have pin' : ∀ b ∈ fp, ∀ o, sg.heap.get? b = some o → s'.heap.get? b = some o ∧ H' b = none := fun b hb o e =>
          let z := I'.pin (b, o) (List.mem_append_right _ (List.mem_append_right _ (mem_pinsAt hb e)))
          ⟨z.1, z.2.1⟩
        have hl : (wipe σ (own.map (·.2))).length = σh.length := by rw [← hw, wipe_length]
        refine ⟨m', hm, i + 1, H', (I'.unpinned (pins := [])).weak hl (fun j v e => by rw [← hw] at e; exact (wipe_some e).1), T.keep _ _ _ stg fun b hb o e => (pin' b hb o e).1, fun b hb => ?_, w'⟩
        obtain ⟨o, e, _⟩ := T.obj _ _ stg b hb
        exact (pin' b hb o e).2
      cases b with
      | false =>
        simp only [Bool.false_eq_true, if_false] at qj ⊢
        exact endd Ij qj
      | true =>
        simp only [if_true] at qj ⊢
        refine thnF (pk.run _ sj σh Hj _ Ij qj) fun z sk ⟨yk, Hk, Ik, rk, qk⟩ => ?_
        refine thnF (pv.run _ sk σh Hk _ Ik qk) fun z2 sl ⟨yv, Hl, Il, rl, hP⟩ => ?_
        exact p.put (Y := X.blk sc Hc scope ev fp) rfl rfl rfl hu Il hP rk rl fun Hm sm Im nx => endd Im nx
  exact codeAny_compStart_dict loop (T.self X.A 0 _ _ _ std loop)
theorem ps_setDg {p : PutK X} {i : Nat} {y : Str} {py : Pos} {kx vx tg iter : Expr} {ifs : List Expr} {scope : Scope} {own : List (Str × Nat)} {pos spos : Pos} {wi : TI} {g : TG} {tt : TT} {tk tv : TE} (hu : X.A.units + 1 < cLine) (hc : X.calm = true) (hN : X.N.Nodup) (hy : X.N[i]? = some y) (hyl : X.env.scope.names.lookup y = some .local)
    (sw : swapsWith (.DictComp kx vx [⟨tg, iter, ifs, 0⟩] scope pos) (some (.Name y py)) spos.line X.env = pure true) (hi : PI X tg iter wi) (ok : BlkOk X.N X.env.scope scope own)
    (hg : ∀ (s : Shared) (H : Hp) (C : Addr) (cl : List (Str × Addr)) (fp : List Addr), PG (X.blk s H scope (compEnvC scope cl C X.env) fp) tg g)
    (ht : ∀ (s : Shared) (H : Hp) (C : Addr) (cl : List (Str × Addr)) (fp : List Addr), PTs (X.blk s H scope (compEnvC scope cl C X.env) fp) ifs tt)
    (hk : ∀ (s : Shared) (H : Hp) (C : Addr) (cl : List (Str × Addr)) (fp : List Addr), PE (X.blk s H scope (compEnvC scope cl C X.env) fp) kx tk)
    (he : ∀ (s : Shared) (H : Hp) (C : Addr) (cl : List (Str × Addr)) (fp : List Addr), PE (X.blk s H scope (compEnvC scope cl C X.env) fp) vx tv) (hs : ∀ x, foldedSetIterable iter X.env x = pure x := by intro _; rfl) :
    PS X (.Assign [.Name y py] (.DictComp kx vx [⟨tg, iter, ifs, 0⟩] scope pos) spos) (tAsg (tDg p wi g tt tk tv (own.map (·.2))) (gName i)) := ⟨fun pins s σ H D I h => by
  rw [exec_Assign_Name_used _ _ _ _ sw]
  refine wpAny_bind (wpAny_standAt (wpAny_bind ?_))
  show wpAny _ X.A (do let _ ← comprehension (.DictComp kx vx [⟨tg, iter, ifs, 0⟩] scope pos) scope X.env (firstIterPos [⟨tg, iter, ifs, 0⟩] pos) newDict false (eval iter X.env) (some (assign (.Name y py) X.env))) _ _ s
  have h' : tDg p wi g tt tk tv (own.map (·.2)) σ H (fun x Ha => gName i x σ Ha D.nx) := h
  refine wpAny_bind (thn (dg_core (Qf := fun _ s' => SP X pins D .next s') hu hc hN I hi ok hg ht hk he hs h' fun d C s' m H' I' q hn f => ?_) fun _ s' hq => wpAny_pure (wpAny_pure hq))
  show wpAny _ _ (assign (.Name y py) X.env (.ref d)) _ _ _
  refine wpAny_assign_Name (store_ok2 (v := V.ref d) I' hN hy (.inl hyl) rfl (fun s2 I2 ⟨a, sb, ha⟩ => ?_) (.inr hyl))
  have haC : C ≠ a := ha.elim (fun z => by rw [z]; exact f.2.1) fun z e => f.2.2.2.2.1 y a z e.symm
  exact ⟨m, hn.sameBut sb haC, fun h3 sb3 => ⟨_, H', I2.turned (t' := s2.toks) (fun b o hb e => (sb3.2 b hb).trans e) f.1 f.2.1 f.2.2.2.1 f.2.2.2.2.1 f.2.2.2.2.2, q⟩⟩⟩
theorem sw_trueD {kx vx : Expr} {gs : List Comprehension} {scope : Scope} {pos py : Pos} {y : Str} {l : Nat} {env : Env} (hk : env.scope.kind = .function) (hy : env.scope.names.lookup y = some .local) (hl : (py.line == pos.line) = true) (ha : (scope.names.any fun (n, k) => n == y && (k == .local || k == .cell)) = false) :
    swapsWith (.DictComp kx vx gs scope pos) (some (.Name y py)) l env = pure true := by
  have hb : env.blockKind = .function := by unfold Env.blockKind; rw [hk]; rfl
  unfold swapsWith
  simp only [hb, show env.kindOf y = some .local from hy, ha, Expr.pos, hl]
  rfl
def putXX (X : Cx) : PutK X where
  o0 := fun d => exo d oEmpty
  Pu := fun H d y z R => ∃ ob es k b, y = .ref b ∧ H d = some (exo d ob) ∧ OX d ob es ∧ AllT X.K H es ∧ SqT X.K H b (k.map V.int) ∧ es.length < sizeLine ∧ ∀ o', OX d o' (putX es k b z) → R (upd H d (exo d o'))
  new := fun h H hb => dx_empty h
  put := by
    intro Y pins σ H R s d y z u r Q E e1 e2 e3 hu I hP ry rz kk
    obtain ⟨ob, es, key, b, rfl, e, ox, kt, hk, l, q⟩ := hP
    cases ry
    rw [← e3] at kt hk
    exact dx_dictSet (X := Y) (Nat.lt_of_succ_lt hu) I e ox kt hk l rz fun s' o' x' I' => kk _ s' I' (q o' x')
theorem dg_it {p : PutK X} {J : It} {n : Nat} {G : Hp → Prop} {Y : Nat → Hp → V → Hp → Prop} (w : Walk J n G Y) {g : TG} {tt : TT} {tk tv : TE} {vs : List Nat} {σ : L2.St} {Ha : Hp} {d : Addr} {Qd : Hp → Prop} (Pv : Nat → Hp → Prop) (h0 : Pv 0 (upd Ha d (p.o0 d))) (hG : ∀ i H, i ≤ n → Pv i H → G H)
    (hs : ∀ i x H H', i < n → Pv i H → Y i H x H' → g x (wipe σ vs) H' fun σ2 Hc => wipe σ2 vs = wipe σ vs ∧ tt σ2 Hc fun b Hd => if b = true then tk σ2 Hd fun y He => tv σ2 He fun z Hf => p.Pu Hf d y z (Pv (i + 1)) else Pv (i + 1) Hd) (hd : ∀ H, Pv n H → Qd H) :
    ∃ W : Nat → Nat → Hp → Prop, (∃ m, W 0 m (upd Ha d (p.o0 d))) ∧ ∀ i m Hb, W i m Hb → (J.stop i Hb ∧ Qd Hb) ∨ (J.go i Hb ∧ ∃ Nx : Hp → Prop, (∀ H', Nx H' → ∃ m', m' < m ∧ W (i + 1) m' H') ∧
      ∀ x H', J.yld i Hb x H' → g x (wipe σ vs) H' fun σ2 Hc => wipe σ2 vs = wipe σ vs ∧ tt σ2 Hc fun b Hd => if b = true then tk σ2 Hd fun y He => tv σ2 He fun z Hf => p.Pu Hf d y z Nx else Nx Hd) := by
  refine ⟨fun i m Hb => m = n - i ∧ i ≤ n ∧ Pv i Hb, ⟨n, by simp, Nat.zero_le _, h0⟩, ?_⟩
  rintro i m Hb ⟨rfl, hi, pv⟩
  have q := hG i Hb hi pv
  by_cases lt : i < n
  · exact .inr ⟨w.goes i Hb lt q, Pv (i + 1), fun H' p' => ⟨n - (i + 1), by omega, rfl, lt, p'⟩, fun x H' y => hs i x Hb H' lt pv (w.yields i Hb x H' lt q y)⟩
  · obtain rfl : i = n := by omega
    exact .inl ⟨w.stops Hb q, hd Hb pv⟩
end
end MM

namespace MM
open PySem PySem.Spec PyProof.Rows L2
def rDi : Rel V (List D × List D) := fun K I _ F H H' v p => ∃ a u, v = .ref a ∧ ¬ F a ∧ H a = none ∧ H' a = some u ∧ DOb K (fun b => F b ∨ b = a) H' a u p.1 p.2 ∧ I (fun b => F b ∨ b = a) H'
theorem okDi : RelOk rDi := ⟨fun K I F0 F H H1 H' v ds s h => by
  obtain ⟨a, u, e, n, q, r⟩ := h
  refine ⟨a, u, e, n, ?_, r⟩
  cases z : H a with
  | none => rfl
  | some o => rw [s a o n z] at q; cases q⟩
abbrev tDi {τ : Type} [Sto τ] (K : Fg) (W : WX) (m : Rho → τ → Res τ (List D × List D)) : TE := tG rDi K W m
section
variable {X : Cx} {W : WX} {τ : Type} [Sto τ] {K : Fg}
abbrev MDi (τ : Type) := Rho → τ → Res τ (List D × List D)
def sOwnD (i : Nat) (m : MDi τ) : MS τ := sDo m fun p ρ t => .nx (ρ.set i (.dct p.1 p.2)) t
theorem ms_setOwnD {s : Stmt} {i : Nat} {m : MDi τ} (h : PS X s (tAsg (tDi X.K W m) (gName i))) : PS X s (tS X.K W (sOwnD i m)) := PS.imp h fun E σ H ⟨C, ρ, t, A, p⟩ => by
  refine ⟨C, ρ, t, A, ?_⟩
  unfold sOwnD sDo at p
  cases e : m ρ t with
  | ok d t1 =>
    rw [e] at p
    intro v H1 s1 i1 r1
    obtain ⟨a, u, rfl, n, q, l, r, iv⟩ := r1
    obtain ⟨A', sp⟩ := At.setMine (i := i) (x := .dct d.1 d.2) rfl A s1 iv n q l (.dct r)
    exact p _ H1 sp A'
  | ex n fs t1 =>
    rw [e] at p
    exact fun cls dd H' s i x => p cls dd σ H' (Stp.of_sm s fun _ => .inl) (A.next s i) x
  | bad => rw [e] at p; exact p
def dcompL (pu : List D → List D → D → D → Option (List D × List D)) (g : Tgt) (tt : ME τ Bool) (tk tv : ME τ D) (ρ : Rho) : List D → τ → List D × List D → Res τ (List D × List D)
  | [], t, p => .ok p t
  | d :: ds, t, p => match g ρ d with
    | some ρ1 => (noEx (tt ρ1 t)).bind fun b t => if b = true then (noEx (tk ρ1 t)).bind fun k t => (noEx (tv ρ1 t)).bind fun v t => (match pu p.1 p.2 k v with
        | some p' => dcompL pu g tt tk tv ρ ds t p'
        | none => .bad) else dcompL pu g tt tk tv ρ ds t p
    | none => .bad
def eDComp (pu : List D → List D → D → D → Option (List D × List D)) (ne : Bool) (mi : ME τ (List D)) (vs : List Nat) (g : Tgt) (tt : ME τ Bool) (tk tv : ME τ D) : MDi τ := fun ρ t => (mi ρ t).bind fun ds t =>
  if ds.length ≤ 16777216 ∧ noOwn ρ vs = true then (dcompL pu g tt tk tv (wipeR ρ vs) ds t ([], [])).bind fun p t => if (ne && p.1.isEmpty) = true then .bad else .ok p t else .bad
structure PutM (X : Cx) (p : PutK X) (pu : List D → List D → D → D → Option (List D × List D)) (ne : Bool) where
  Ob : Fp → Hp → Addr → HO → List D → List D → Prop
  start : ∀ F H a, sysModules < a → Ob F H a (p.o0 a) [] []
  step : ∀ {F1 F2 H H' a u ks xs}, Ob F1 H a u ks xs → Stp F1 H F2 H' → Ob F2 H' a u ks xs
  put : ∀ {F H a u ks xs y z k d pr}, Ob F H a u ks xs → H a = some u → Rep X.K F H y k → Rep X.K F H z d → pu ks xs k d = some pr → ∀ R : Hp → Prop, (∀ u', Ob F H a u' pr.1 pr.2 → R (upd H a u')) → p.Pu H a y z R
  fin : ∀ {F H a u ks xs}, Ob F H a u ks xs → ¬ (ne && ks.isEmpty) = true → DOb X.K F H a u ks xs
def putMX (X : Cx) : PutM X (putXX X) putTK true where
  Ob := fun F H a u ks xs => ∃ o es, u = exo a o ∧ OX a o es ∧ ks = es.map (fun p => D.tup (p.1.map D.int)) ∧ (∀ p ∈ es, TupF X.K F H p.2.1 (p.1.map V.int)) ∧ Reps X.K F H (es.map (·.2.2)) xs
  start := fun F H a hb => ⟨oEmpty, ([] : List EX), rfl, ox_empty hb, rfl, And.intro (fun p h => by cases h) Reps.nil⟩
  step := fun h s => by
    obtain ⟨o, es, e1, ox, e2, kt, r⟩ := h
    exact ⟨o, es, e1, ox, e2, fun p hp => (kt p hp).step s, r.step s⟩
  put := fun {F H a u ks xs y z k d pr} h ha ry rz e R q => by
    obtain ⟨ob, es, rfl, ox, rfl, kt, r⟩ := h
    unfold putTK at e
    split at e
    · rename_i hc
      obtain ⟨ns, rfl⟩ := tuK_of hc.1
      obtain ⟨b, rfl, tb⟩ := (RepW.of (F0 := F) ry).tuOf
      obtain ⟨ks', xs', h1, h2, h3⟩ := put_X (k := ns) (b := b) r rz
      rw [h1] at e
      cases e
      have hl := hc.2
      rw [List.length_map] at hl
      exact ⟨ob, es, ns, b, rfl, ha, ox, allT_of kt, tb.sq, hl, fun o' x' => q _ ⟨o', _, rfl, x', h2, putX_all (P := fun p => TupF X.K F H p.2.1 (p.1.map V.int)) kt tb kt, h3⟩⟩
    · cases e
  fin := fun h n => by
    obtain ⟨o, es, rfl, ox, rfl, kt, r⟩ := h
    refine .x (fun z => n ?_) ox kt r
    rw [z]; rfl
theorem dg_red {p : PutK X} {pu : List D → List D → D → D → Option (List D × List D)} {ne : Bool} (M : PutM X p pu ne) {mi : ME τ (List D)} {vs ws : List Nat} {g : Tgt} {tt : ME τ Bool} {tk tv : ME τ D} {σ : St} {H : Hp} {Q : VK} (hv : ∀ j, j ∈ ws → j ∈ vs) (q0 : tDi X.K W (eDComp pu ne mi vs g tt tk tv) σ H Q) :
    tDg p (tI X.K W mi) (tTg τ X.K g ws) (tT X.K W0 tt) (tE X.K W0 tk) (tE X.K W0 tv) vs σ H Q := by
  obtain ⟨C, ρ, t0, A0, q0⟩ := q0
  refine use okDi A0 q0 fun ds t1 J H1 e1 s1 A1 r1 p1 => ?_
  intro D0 nD bD
  split at p1
  · rename_i hlo
    obtain ⟨hlen, hno⟩ := hlo
    obtain ⟨G, Y, w, hG, hY⟩ := r1
    have nF0 : ¬ Fo C.F ρ σ D0 := fun z => A1.dom D0 z nD
    have sp0 : Stp (Fo C.F ρ σ) H1 (fun b => Fo C.F ρ σ b ∨ b = D0) (upd H1 D0 (p.o0 D0)) := ⟨fun b o _ e => same_upd nD b o e, fun b h => h.elim .inl fun e => .inr (by rw [e]; exact nD)⟩
    refine dg_it w (fun i H' => ∃ (t : τ) (u : HO) (ks xs : List D), C.Iv t (fun b => Fo C.F ρ σ b ∨ b = D0) H' ∧ H' D0 = some u ∧ M.Ob (fun b => Fo C.F ρ σ b ∨ b = D0) H' D0 u ks xs ∧ Sm C.F H1 H' ∧
        Post rDi X.K W C (Fo C.F ρ σ) σ H1 ((dcompL pu g tt tk tv (wipeR ρ vs) (ds.drop i) t (ks, xs)).bind fun p t => if (ne && p.1.isEmpty) = true then .bad else .ok p t) Q)
      ⟨t1, p.o0 D0, [], [], C.step _ _ _ _ _ A1.st (fun b o _ e => same_upd nD b o e) sp0, upd_same, M.start _ _ _ bD, Sm.of_same (same_upd nD), by rw [List.drop_zero]; exact p1⟩ ?_ ?_ ?_
    · rintro i H' hi ⟨t, u, ks, xs, iv, hD, ra, sm, q⟩
      exact hG H' (fun b o n e => sm b o (fun z => n (.inl z)) e)
    · rintro i x H' H'' hi ⟨t, u, ks, xs, iv, hD, ra, sm, q⟩ y
      obtain ⟨AB, fo⟩ := At.blk (vs := vs) A1 nD sm iv hD
      have sp : Stp (Fo C.F ρ σ) H1 (Fo (C.cmp D0 u).F (wipeR ρ vs) (wipe σ vs)) H' := ⟨fun b o n e => sm b o (fun z => n (.inl z)) e, fun b h => (fo b h).elim .inl fun e => .inr (by rw [e]; exact nD)⟩
      obtain ⟨sy, d, ed, r⟩ := hY _ i H' x H'' hi sp AB.dom y
      have AB2 := AB.next (Sm.of_same sy) ((C.cmp D0 u).stay AB.st sy)
      have dr : ds.drop i = d :: ds.drop (i + 1) := by
        obtain ⟨hl, e⟩ := List.getElem?_eq_some_iff.mp ed
        rw [List.drop_eq_getElem_cons hl, e]
      rw [dr] at q
      unfold dcompL at q
      cases eg : g (wipeR ρ vs) d with
      | none => rw [eg] at q; exact q.elim
      | some ρ1 =>
        rw [eg] at q
        dsimp only at q
        refine ⟨C.cmp D0 u, wipeR ρ vs, t, d, AB2, r, ρ1, eg, fun σ2 Hg f2 mg s2 A2 => ⟨(wipe_eq (ws := vs) f2.1 (fun j hj => (f2.2 j hj).1) hv).trans (wipe_eq (ws := vs) (vs := vs) (wipe_length σ vs) (fun j hj => wipe_keep hj) fun _ h => h), ?_⟩⟩
        have sy : Same H' Hg := fun b o e => mg b o (sy b o e)
        have sm2 : Sm C.F H1 Hg := sm.trans (Sm.of_same sy)
        have smB : ∀ {H3 : Hp}, Sm (C.cmp D0 u).F Hg H3 → Sm C.F H1 H3 := fun {H3} s3 b o n e => s3 b o (fun z => z.elim n fun q => by rw [q, nD] at e; cases e) (sm2 b o n e)
        have big : ∀ b, (Fo C.F ρ σ b ∨ b = D0) → Fo (C.cmp D0 u).F ρ1 σ2 b := fun b h => by
          rcases h with (h | ⟨j, xs, h1, h2⟩) | h
          · exact .inl (.inl h)
          · have hj : j ∉ vs := fun hj => noOwn_mine hno h1 hj
            have hj2 : j ∉ ws := fun z => hj (hv j z)
            refine .inr ⟨j, xs, ⟨?_, h1.2⟩, by rw [(f2.2 j hj2).1, wipe_keep hj, h2]⟩
            rw [(f2.2 j hj2).2]
            have : ∀ us : List Nat, j ∉ us → (wipeR ρ us)[j]? = ρ[j]? := fun us => by
              induction us with
              | nil => intro _; rfl
              | cons u us ih =>
                intro hu
                simp only [List.mem_cons, not_or] at hu
                unfold wipeR
                rw [List.getElem?_set_ne (fun e => hu.1 e.symm), ih hu.2]
            rw [this vs hj]; exact h1.1
          · exact .inl (.inr h)
        have raB : ∀ {H3 : Hp}, Sm (C.cmp D0 u).F Hg H3 → M.Ob (fun b => Fo C.F ρ σ b ∨ b = D0) H3 D0 u ks xs := fun {H3} s3 => M.step (M.step ra ⟨fun b o _ e => sy b o e, fun _ h => .inl h⟩) ⟨s3.mono fun b h => h.elim (fun z => .inl (.inl z)) .inr, fun _ h => .inl h⟩
        refine ⟨C.cmp D0 u, ρ1, t, A2, ?_⟩
        unfold noEx at q
        cases et : tt ρ1 t with
        | bad => rw [et] at q; exact q.elim
        | ex n fs t' => rw [et] at q; exact q.elim
        | ok c t3 =>
          rw [et] at q
          intro c' H3 s3 i3 ec
          cases ec
          cases c with
          | false =>
            rw [if_neg Bool.false_ne_true]
            exact ⟨t3, u, ks, xs, C.less i3.1 big, i3.2, raB s3, smB s3, q⟩
          | true =>
            rw [if_pos rfl]
            have A3 := A2.next s3 i3
            refine ⟨C.cmp D0 u, ρ1, t3, A3, ?_⟩
            simp only [Res.bind_ok, if_true] at q
            cases ek : tk ρ1 t3 with
            | bad => rw [ek] at q; exact q.elim
            | ex n fs t' => rw [ek] at q; exact q.elim
            | ok k t4 =>
              rw [ek] at q
              intro kv H4 s4 i4 rk
              have A4 := A3.next s4 i4
              refine ⟨C.cmp D0 u, ρ1, t4, A4, ?_⟩
              simp only [Res.bind_ok] at q
              cases ev : tv ρ1 t4 with
              | bad => rw [ev] at q; exact q.elim
              | ex n fs t' => rw [ev] at q; exact q.elim
              | ok v t5 =>
                rw [ev] at q
                intro vv H5 s5 i5 rv
                simp only [Res.bind_ok] at q
                have s35 : Sm (C.cmp D0 u).F Hg H5 := (s3.trans s4).trans s5
                have kB : Rep X.K (fun b => Fo C.F ρ σ b ∨ b = D0) H5 kv k := Rep.anti (rk.same (s5.mono fun _ => Fo.base)) big
                have vB : Rep X.K (fun b => Fo C.F ρ σ b ∨ b = D0) H5 vv v := Rep.anti rv big
                cases ep : pu ks xs k v with
                | none => rw [ep] at q; exact q.elim
                | some pr =>
                  rw [ep] at q
                  refine M.put (raB s35) i5.2 kB vB ep _ fun u' ob => ?_
                  have sp6 : Stp (fun b => Fo C.F ρ σ b ∨ b = D0) H5 (fun b => Fo C.F ρ σ b ∨ b = D0) (upd H5 D0 u') := ⟨fun b o n e => by rw [upd_ne (fun z => n (.inr z))]; exact e, fun b h => .inl h⟩
                  refine ⟨t5, u', pr.1, pr.2, ?_, upd_same, M.step ob sp6, ?_, q⟩
                  · refine C.step _ _ _ _ _ (C.less i5.1 big) (fun b o h e => ?_) sp6
                    rw [upd_ne (fun z => nF0 (by rw [← z]; exact .inl h))]
                    exact e
                  · intro b o n e
                    have nb : b ≠ D0 := fun z => by rw [z, nD] at e; cases e
                    rw [upd_ne nb]
                    exact smB s35 b o n e
    · rintro H' ⟨t, u, ks, xs, iv, hD, ra, sm, q⟩
      rw [List.drop_length] at q
      unfold dcompL at q
      simp only [Res.bind_ok] at q
      split at q
      · exact q.elim
      · rename_i hn
        exact q (.ref D0) H' sm (C.less iv fun _ => .inl) ⟨D0, u, rfl, nF0, nD, hD, M.fin ra hn, iv⟩
  · exact p1.elim
theorem ms_dcOwn {p : PutK X} {pu : List D → List D → D → D → Option (List D × List D)} {ne : Bool} (M : PutM X p pu ne) {s : Stmt} {i : Nat} {mi : ME τ (List D)} {vs ws : List Nat} {g : Tgt} {tt : ME τ Bool} {tk tv : ME τ D} (hv : ∀ j, j ∈ ws → j ∈ vs) (h : PS X s (tAsg (tDg p (tI X.K W mi) (tTg τ X.K g ws) (tT X.K W0 tt) (tE X.K W0 tk) (tE X.K W0 tv) vs) (gName i))) :
    PS X s (tS X.K W (sOwnD i (eDComp pu ne mi vs g tt tk tv))) := ms_setOwnD (PS.imp h fun _ _ _ q => dg_red M hv q)
end
end MM

namespace MM
open PySem PySem.Spec PyProof.Rows L2
section
variable {X : Cx} {W : WX} {τ : Type} [Sto τ] {K : Fg}
theorem kdlRaw {prog : Program} {w : World} {d : Addr} {arr : Array DictEntry} {ep : Nat} (lo : (d == sysModules) = false) : PySem.W.KdlSrc prog w "dict" d d arr.size (fun i v => ∃ hi : i < arr.size, v = arr[i].key) (fun h => h.DictRaw d arr ep) where
  type := fun _ hm => hm.typeIs
  there := fun _ hm => let ⟨_, e, _⟩ := hm; ⟨Heap.lt_size e, Heap.lt_size e⟩
  keep := fun _ _ hm hk => hm.at fun o e => hk d (.inl rfl) o e
  notList := by decide
  notTuple := by decide
  hint := fun _ _ _ _ hm hq => PySem.W.kdl_hint_dict hm.typeIs hq
  iter := fun _ s hh hm => ⟨_, _, (fun _ _ hq => wpAny_pyIter_dict_raw lo hm hq), Walks.rawKeys hh _ d (let ⟨_, e, _⟩ := hm; Nat.ne_of_lt (Heap.lt_size e)) arr ep, ⟨⟨_, Heap.get?_push_size _ rfl, rfl, rfl⟩, hm.at fun o e => Heap.get?_push_of_some _ e⟩⟩
theorem px_at : ∀ {es : List EX} {xs : List (List Int × Addr × Value)} {i : Nat} {x : List Int × Addr × Value}, PX es xs → xs[i]? = some x → ∃ p, es[i]? = some p ∧ p.1 = x.1 ∧ p.2.1 = x.2.1 ∧ RelV p.2.2 x.2.2
  | _, _, _, _, .nil, e => by simp at e
  | _, _, 0, _, .cons h _, e => by simp at e; subst e; exact ⟨_, rfl, h⟩
  | _, _, i + 1, x, .cons _ t, e => by
    obtain ⟨p, h1, h2⟩ := px_at (i := i) t (by simpa using e)
    exact ⟨p, by simpa using h1, h2⟩
theorem ox_at {a : Addr} {o : Obj} {es : List EX} (ox : OX a o es) : ∃ (arr : Array DictEntry) (ep : Nat), o.ExactDict ∧ o.data = .dict arr ep ∧ arr.size = es.length ∧ ∀ (i : Nat) (hi : i < arr.size), ∃ p, es[i]? = some p ∧ arr[i].key = .ref p.2.1 ∧ RelV p.2.2 arr[i].val := by
  obtain ⟨_, _, _, xs, r, arr, ep, c, d, q⟩ := ox
  have hl : arr.size = xs.length := by
    have := congrArg List.length q
    rw [List.length_map, Array.length_toList] at this
    exact this
  refine ⟨arr, ep, c, d, by rw [hl, Paired.length r], fun i hi => ?_⟩
  have hx : i < xs.length := hl ▸ hi
  obtain ⟨p, h1, h2, h3, h4⟩ := px_at r (List.getElem?_eq_getElem hx)
  have e : arr[i] = entX xs[i] := by
    have : arr.toList[i]? = (xs.map entX)[i]? := by rw [q]
    rw [List.getElem?_map, List.getElem?_eq_getElem hx, Array.getElem?_toList, Array.getElem?_eq_getElem hi] at this
    exact Option.some.inj this
  exact ⟨p, h1, by rw [e]; show Value.ref xs[i].2.1 = _; rw [h3], by rw [e]; exact h4⟩
def rListX : List V → Hp → VK → Prop := fun xs H Q => ∃ (a : Addr) (o : Obj) (es : List EX), xs = [.ref a] ∧ H a = some (exo a o) ∧ OX a o es ∧ ∀ l, H l = none → Q (.ref l) (upd H l (.lst (es.map fun p => V.ref p.2.1)))
theorem vals_keys : ∀ {es : List EX} {vs : List Value}, vs.length = es.length → (∀ (i : Nat) (v : Value), vs[i]? = some v → ∃ p : EX, es[i]? = some p ∧ v = Value.ref p.2.1) → Vals (es.map fun p => V.ref p.2.1) vs
  | [], [], _, _ => .nil
  | p :: es, v :: vs, hl, h => by
    obtain ⟨p', e, rfl⟩ := h 0 v rfl
    cases e
    refine .cons rfl (vals_keys (by simpa using hl) fun i v e => ?_)
    obtain ⟨p', e1, e2⟩ := h (i + 1) v (by simpa using e)
    exact ⟨p', by simpa using e1, e2⟩
theorem cr_listX (hc : X.calm = true) : CallR X (.type "list") rListX := by
  intro pins s σ H xs us Q I r h
  obtain ⟨a, o, es, rfl, ha, ox, q⟩ := h
  rw [Vals.ref1 r]
  have hg := exo_get (I.hok a _ ha)
  obtain ⟨arr, ep, c, d, hl, he⟩ := ox_at ox
  have hz : es.length ≤ sizeLine := ox.1
  refine PySem.W.kdl_call (kdlRaw (prog := X.prog) (w := X.w) (arr := arr) (ep := ep) ox.2.1) (I.ok.hd hc) ⟨o, hg, c, d⟩ (by rw [hl]; exact hz) fun h' tk acc' c' hk hS hacc => ?_
  have hn : H s.heap.objs.size = none := I.hok.fresh (Nat.le_refl _)
  have rv : Vals (es.map fun p => V.ref p.2.1) acc'.toList := by
    refine vals_keys (by rw [Array.length_toList, hacc.1, hl]) fun i v e => ?_
    rw [Array.getElem?_toList] at e
    obtain ⟨hi, rfl⟩ := hacc.2 i v e
    obtain ⟨p, h1, h2, _⟩ := he i hi
    exact ⟨p, h1, h2⟩
  refine ⟨.ref s.heap.objs.size, upd H s.heap.objs.size (.lst (es.map fun p => V.ref p.2.1)), ?_, rfl, q _ hn⟩
  exact I.laid (t' := tk) hk (Nat.le_refl _) ⟨by rw [List.length_map]; exact hz, acc'.toList, c', rv, by simpa using hS⟩
def isXk : List D → Bool
  | .tup _ :: _ => true
  | _ => false
def fLstX : List D → Option (List D)
  | [.dct ks _] => if isXk ks = true then some ks else none
  | _ => none
theorem DOb.isX {F : Fp} {H : Hp} {a : Addr} {u : HO} {ks xs : List D} (r : DOb K F H a u ks xs) (h : isXk ks = true) : ∃ (o : Obj) (es : List EX), u = exo a o ∧ OX a o es ∧ ks = es.map (fun p => D.tup (p.1.map D.int)) ∧ (∀ p ∈ es, TupF K F H p.2.1 (p.1.map V.int)) ∧ Reps K F H (es.map (·.2.2)) xs := by
  cases r with
  | k r =>
    rename_i kvs
    cases kvs with
    | nil => cases h
    | cons q kvs =>
      have h' : isXk (keyD q.1 :: kvs.map fun p => keyD p.1) = true := h
      cases hk : q.1 <;> (rw [hk] at h'; cases h')
  | x ne ox kt r => exact ⟨_, _, rfl, ox, rfl, kt, r⟩
theorem reps_keys {F : Fp} {H : Hp} : ∀ {es : List EX}, (∀ p ∈ es, TupF K F H p.2.1 (p.1.map V.int)) → Reps K F H (es.map fun p => V.ref p.2.1) (es.map fun p => D.tup (p.1.map D.int))
  | [], _ => .nil
  | p :: es, h => by
    have ri : ∀ ns : List Int, Reps K F H (ns.map V.int) (ns.map D.int) := fun ns => by
      induction ns with
      | nil => exact .nil
      | cons i ns ih => exact .cons (.int i) ih
    exact .cons (.tup (h p List.mem_cons_self) (ri p.1)) (reps_keys fun q hq => h q (List.mem_cons_of_mem _ hq))
theorem mf_listX {x : Str} {e : Expr} {es : List Expr} {p pos : Pos} {ms : ME τ (List D)} (hc : X.calm = true) (hg : Gl X x) (hm : X.mg x = none) (hv : bootBuiltins x = some (.type "list"))
    (ha : PA X (e :: es) (tAW X.K W ms)) (hn : x ≠ "__name__" := by decide) (hdb : (x == ("__debug__" : Str)) = false := by decide)
    (he : starEach (e :: es) X.env = (false, eval e X.env) :: starEach es X.env := by rfl) (hpl : (backTo pos (starEach es X.env)).any (·.1) = false := by rfl) :
    PE X (.Call (.Name x p) (e :: es) [] pos) (tF X.K W (MM.e1 fLstX ms)) := PE.imp (pe_callTy (cr_listX hc) hg hm hv ha hn hdb he hpl) fun σ H Q ⟨C, ρ, t, A, p⟩ => by
  refine use okF A p fun ds t1 v H1 e1 s1 A1 r1 p1 => ?_
  unfold fLstX at p1
  split at p1
  · obtain ⟨v, rfl, r0⟩ := RepsW.one r1
    obtain ⟨a, u, rfl, h1, rs⟩ := r0.dctOf
    split at p1
    · rename_i hx
      obtain ⟨o, es, rfl, ox, ek, kt, r⟩ := rs.isX hx
      refine ⟨a, o, es, rfl, h1, ox, fun l hl => ?_⟩
      have same : Same H1 (upd H1 l (.lst (es.map fun p => V.ref p.2.1))) := same_upd hl
      have sp : Stp (Fo C.F ρ σ) H1 (fun b => Fo C.F ρ σ b ∨ b = l) (upd H1 l (.lst (es.map fun p => V.ref p.2.1))) := ⟨fun b o _ e => same b o e, fun b h => h.elim .inl fun e => .inr (by rw [e]; exact hl)⟩
      refine p1 (.ref l) _ (Sm.of_same same) (C.stay A1.st same) ⟨l, _, rfl, fun z => A1.dom l z hl, hl, upd_same, ?_, C.step _ _ _ _ _ A1.st (fun b o _ e => same b o e) sp⟩
      rw [ek]
      exact (reps_keys kt).step sp
    · exact p1.elim
  · exact p1.elim
end
theorem _root_.L2.Room.units1 {k : Nat} {A : Around} (r : Room k A) : A.units + 1 < cLine := by have := r.un; omega
end MM

namespace MM
open PySem PySem.Spec PyProof.Rows L2
section
variable {τ : Type} {ρ : Rho} {t : τ} {X : Str → Fds → τ → Prop} {P : Pt τ} {g : Tgt} {tt : ME τ Bool} {te tk tv : ME τ D} {pu : List D → List D → D → D → Option (List D × List D)}
@[simp] theorem oE_dcomp {ne : Bool} {mi : ME τ (List D)} {vs : List Nat} {Q : List D × List D → τ → Prop} : oE (eDComp pu ne mi vs g tt tk tv ρ t) Q X = oE (mi ρ t) (fun ds t => (ds.length ≤ 16777216 ∧ noOwn ρ vs = true) ∧ oE (dcompL pu g tt tk tv (wipeR ρ vs) ds t ([], [])) (fun p t => ¬ (ne && p.1.isEmpty) = true ∧ Q p t) X) X := by
  unfold eDComp
  rw [oE_bind]
  congr; funext ds t
  by_cases h : ds.length ≤ 16777216 ∧ noOwn ρ vs = true
  · rw [if_pos h, oE_bind]
    simp only [h, true_and, and_self]
    congr; funext p t
    by_cases q : (ne && p.1.isEmpty) = true
    · rw [if_pos q]; simp [q]
    · rw [if_neg q]; simp only [oE_ok, q]; simp
  · rw [if_neg h]
    simp only [oE_bad, h, false_and]
theorem oE_dcompNil {p : List D × List D} {Q : List D × List D → τ → Prop} : oE (dcompL pu g tt tk tv ρ [] t p) Q X = Q p t := rfl
theorem oE_dcompCons {d : D} {ds : List D} {p : List D × List D} {Q : List D × List D → τ → Prop} : oE (dcompL pu g tt tk tv ρ (d :: ds) t p) Q X = ∃ ρ1, g ρ d = some ρ1 ∧ oE (tt ρ1 t) (fun b t => (b = true → oE (tk ρ1 t) (fun k t => oE (tv ρ1 t) (fun v t => ∃ p', pu p.1 p.2 k v = some p' ∧ oE (dcompL pu g tt tk tv ρ ds t p') Q X) (fun _ _ _ => False)) (fun _ _ _ => False)) ∧ (¬ b = true → oE (dcompL pu g tt tk tv ρ ds t p) Q X)) (fun _ _ _ => False) := by
  rw [dcompL.eq_def]
  dsimp only
  cases e : g ρ d with
  | none => simp
  | some ρ1 =>
    simp only [Option.some.injEq, exists_eq_left']
    rw [oE_bind, oE_noEx]
    cases e2 : tt ρ1 t with
    | bad => rfl
    | ex n fs t => rfl
    | ok b t1 =>
      simp only [oE_ok]
      cases b with
      | false => simp
      | true =>
        simp only [if_true, not_true_eq_false, false_implies, and_true, forall_const]
        rw [oE_bind, oE_noEx]
        congr; funext k t2
        rw [oE_bind, oE_noEx]
        congr; funext v t3
        cases pu p.1 p.2 k v <;> simp
@[simp] theorem oS_ownD {i : Nat} {m : MDi τ} : oS (sOwnD i m ρ t) P = oE (m ρ t) (fun p t => P.nx (ρ.set i (.dct p.1 p.2)) t) (fun n fs t => P.ex n fs ρ t) := by
  unfold sOwnD; rw [oS_do]; rfl
@[simp] theorem oS_putD {i : Nat} {mv mk : ME τ D} : oS (sPutD i mv mk ρ t) P = (match ρ[i]? with | some (.dct ks xs) => oE (mv ρ t) (fun v t => oE (mk ρ t) (fun k t => ∃ p, putD ks xs k v = some p ∧ P.nx (ρ.set i (.dct p.1 p.2)) t) (fun n fs t => P.ex n fs ρ t)) (fun n fs t => P.ex n fs ρ t) | _ => False) := by
  have key : ∀ o : Option Slot, oS ((match o with
      | some (.dct ks xs) => sDo mv (fun v ρ t => sDo mk (fun k ρ t => match putD ks xs k v with
        | some p => .nx (ρ.set i (.dct p.1 p.2)) t
        | none => .bad) ρ t) ρ t
      | _ => .bad) : Fl τ) P = (match o with | some (.dct ks xs) => oE (mv ρ t) (fun v t => oE (mk ρ t) (fun k t => ∃ p, putD ks xs k v = some p ∧ P.nx (ρ.set i (.dct p.1 p.2)) t) (fun n fs t => P.ex n fs ρ t)) (fun n fs t => P.ex n fs ρ t) | _ => False) := fun o => by
    cases o with
    | none => rfl
    | some s =>
      cases s with
      | no => rfl
      | val d => rfl
      | own _ => rfl
      | dct ks xs =>
        dsimp only
        rw [oS_do]
        congr; funext v t
        rw [oS_do]
        congr; funext k t
        cases putD ks xs k v <;> simp
  exact key (ρ[i]?)
theorem comp_map {α : Type} {enc f : α → D} : ∀ {xs : List α} {Q : List D → τ → Prop}, (∀ x ∈ xs, ∃ ρ1, g ρ (enc x) = some ρ1 ∧ oE (te ρ1 t) (fun y t' => y = f x ∧ t' = t) (fun _ _ _ => False)) → Q (xs.map f) t →
    oE (compL g (fun _ t => .ok true t) te ρ (xs.map enc) t) Q X
  | [], _, _, h => h
  | x :: xs, Q, hx, h => by
    obtain ⟨ρ1, e1, e2⟩ := hx x List.mem_cons_self
    rw [List.map_cons, oE_compCons]
    refine ⟨ρ1, e1, ?_⟩
    simp only [oE_ok, not_true_eq_false, false_implies, and_true, forall_const]
    refine oE_imp e2 (fun y t' hh => ?_) fun _ _ _ z => z
    rw [hh.1, hh.2]
    exact comp_map (Q := fun ys t => Q (f x :: ys) t) (fun z hz => hx z (List.mem_cons_of_mem _ hz)) h
theorem comp_filt {α : Type} {enc f : α → D} {p : α → Bool} : ∀ {xs : List α} {Q : List D → τ → Prop}, (∀ x ∈ xs, ∃ ρ1, g ρ (enc x) = some ρ1 ∧ oE (tt ρ1 t) (fun b t' => b = p x ∧ t' = t) (fun _ _ _ => False) ∧ (p x = true → oE (te ρ1 t) (fun y t' => y = f x ∧ t' = t) (fun _ _ _ => False))) → Q ((xs.filter p).map f) t →
    oE (compL g tt te ρ (xs.map enc) t) Q X
  | [], _, _, h => h
  | x :: xs, Q, hx, h => by
    obtain ⟨ρ1, e1, e2, e3⟩ := hx x List.mem_cons_self
    rw [List.map_cons, oE_compCons]
    refine ⟨ρ1, e1, ?_⟩
    refine oE_imp e2 (fun b t' hh => ?_) fun _ _ _ z => z
    have eb := hh.1
    rw [hh.2]
    have r := fun z hz => hx z (List.mem_cons_of_mem x hz)
    refine ⟨fun hb => ?_, fun hb => ?_⟩
    · rw [eb] at hb
      rw [List.filter_cons, if_pos hb] at h
      refine oE_imp (e3 hb) (fun y t' hh => ?_) fun _ _ _ z => z
      rw [hh.1, hh.2]
      exact comp_filt (Q := fun ys t => Q (f x :: ys) t) r h
    · rw [eb] at hb
      rw [List.filter_cons, if_neg hb] at h
      exact comp_filt r h
theorem oS_loopE {α : Type} {enc : α → D} {b : MS τ} (I : List α → List α → Rho → τ → Prop) (xs : List α) (h0 : I [] xs ρ t)
    (hs : ∀ dn x td ρ t, xs = dn ++ x :: td → I dn (x :: td) ρ t → ∃ ρ1, g ρ (enc x) = some ρ1 ∧ oS (b ρ1 t) { P with nx := I (dn ++ [x]) td, ct := I (dn ++ [x]) td, bk := P.nx }) (hn : ∀ ρ t, I xs [] ρ t → P.nx ρ t) : oS (loopF g b (xs.map enc) ρ t) P := by
  have key : ∀ (td dn : List α) (ρ : Rho) (t : τ), xs = dn ++ td → I dn td ρ t → oS (loopF g b (td.map enc) ρ t) P := by
    intro td
    induction td with
    | nil =>
      intro dn ρ t e h
      rw [List.append_nil] at e
      subst e
      exact hn ρ t h
    | cons x td ih =>
      intro dn ρ t e h
      rw [List.map_cons, oS_loop_cons]
      obtain ⟨ρ1, e1, h1⟩ := hs dn x td ρ t e h
      have e' : xs = (dn ++ [x]) ++ td := by rw [e]; simp
      exact ⟨ρ1, e1, oS_imp h1 (fun ρ t h => ih (dn ++ [x]) ρ t e' h) (fun _ _ h => h) (fun _ _ _ _ h => h) (fun _ _ h => h) (fun ρ t h => ih (dn ++ [x]) ρ t e' h)⟩
  exact key xs [] ρ t rfl h0
end
theorem put_map {α : Type} {ks : List α} {k : α → D} {f : α → D} {x : α} {v : D} (hx : x ∈ ks) (hs : keqD (k x) (k x) = true) : putL (ks.map k) (ks.map f) (k x) v = (ks.map k, ks.map fun y => if keqD (k x) (k y) = true then v else f y) := by
  unfold putL
  rw [if_pos]
  · congr 1
    clear hx
    induction ks with
    | nil => rfl
    | cons y ks ih => simp [ih]
  · rw [List.any_eq_true]
    exact ⟨k x, List.mem_map.mpr ⟨x, hx, rfl⟩, hs⟩
theorem put_new {ks xs : List D} {k v : D} (h : ∀ y ∈ ks, ¬ keqD k y = true) : putL ks xs k v = (ks ++ [k], xs ++ [v]) := by
  unfold putL
  rw [if_neg]
  rw [List.any_eq_true]
  rintro ⟨y, hy, q⟩
  exact h y hy q
@[simp] theorem keq_str {x y : Str} : keqD (.str x) (.str y) = decide (x = y) := rfl
@[simp] theorem keq_int {x y : Int} : keqD (.int x) (.int y) = decide (x = y) := rfl
end MM

namespace PySem
open Sem (wp)
open AutoSeq1 (wpAny_loadPart')
theorem mEnumT (l : Addr) (ob : Obj) (items : Array Value) (hc : ob.cls = .type "tuple") (hT : ∀ h : Heap, h.get? l = some ob → h.IsTuple l items) :
    Meets (Builtin.«enumerate.__new__» ⟨[.type "enumerate", .ref l], []⟩) (fun _ R s => s.heap.get? l = some ob ∧
      R (.ok (.ret (.ref (s.heap.push { cls := .type "tuple_iterator", data := .fields #[.ref l, .int 0 0] }).objs.size)))
        { s with heap := (s.heap.push { cls := .type "tuple_iterator", data := .fields #[.ref l, .int 0 0] }).push { cls := .type "enumerate", data := .fields #[.none, .bool false, .ref s.heap.objs.size, rawInt 0, .none, .none] } }) :=
  .of_wp fun prog w A R s h => by
    obtain ⟨hp, g, d, tk, os⟩ := s; obtain ⟨hl, h⟩ := h
    have hsub := sub_enumerate
    have hL : Heap.IsTuple (Shared.heap ⟨hp, g, d, tk, os⟩) l items := hT _ hl
    wp_walk using wpAny_loadPart' hl
    refine wpAny_stack_any fun st => wpAny_pure ?_
    split
    · rename_i c _ _ _ _ _
      cases (c == Value.type "enumerate")
      · wp_walk using wpAny_loadPart' hl, wpAny_pyIter_tuple hL
        exact ⟨_, rfl, h⟩
      · wp_walk using wpAny_loadPart' hl, wpAny_pyIter_tuple hL
        exact ⟨_, rfl, h⟩
    · wp_walk using wpAny_loadPart' hl, wpAny_pyIter_tuple hL
      exact ⟨_, rfl, h⟩
end PySem
namespace MM
open PySem PySem.Spec PyProof.Rows L2
theorem pyNext_enumT_end {prog : Program} {w : World} {A : Around} {E : Value → Shared → Prop} {s : Shared} {e it l : Addr} {i : Nat} {items : Array Value} {old : Value} {Q : Option Value → Shared → Prop} (hh : A.handled = none)
    (he : IsEnum s.heap e it i old) (hit : s.heap.IsTupleIter it l i) (hl : s.heap.IsTuple l items) (hx : items[i]? = none) (hQ : ∀ h', Heap.ExtBut it s.heap h' → Q none { s with heap := h' }) : wpAny (model prog w) A (pyNext (.ref e)) Q E s := by
  have hT : s.TypeIs (.ref e) "enumerate" := ⟨_, he, rfl⟩
  unfold pyNext
  refine wpAny_bind (wpAny_attempt (wpAny_callSpecial?_slot (name := Str.ofString "__next__") hT F.slot_enumerate_next (wpAny_call_entry F.slot_enumerate_next hT F.entry_enumerate_next ?_ (F.args_enumerate_next_1 _))))
  show wpAny _ _ (field (.ref e) 2 >>= _) _ _ _
  refine wpAny_bind (wpAny_field he rfl (x := .ref it) rfl (wpAny_bind (wpAny_nextOf_tuple_end hh hit hl hx fun h' x he' hx' => ?_)))
  obtain ⟨o, ho, hc⟩ := hx'
  exact wpAny_bind (wpAny_isInstance (T := "StopIteration") (b := true) ⟨o, ho, hc⟩ isSubtype_stop (wpAny_pure (hQ _ he')))
def IteT (K : PySem.W.Frag) (a : Addr) : It :=
  ⟨fun i H => ∃ (xs : List V) (x : V), SqT K H a xs ∧ xs[i]? = some x, fun i H v H' => ∃ T x, v = .ref T ∧ H T = none ∧ H' = upd H T (.tup [.int (i : Nat), x]) ∧ ∀ xs, SqT K H a xs → xs[i]? = some x, fun i H => ∃ xs : List V, SqT K H a xs ∧ xs.length ≤ i⟩
theorem turn_enT {P : Program} {w : World} {K : PySem.W.Frag} {elts : List Expr} {kk : Nat} {tpos : Pos} (a e it : Addr) (hai : a ≠ it) (hae : a ≠ e) :
    Turn P w K (.Tuple elts kk tpos) (IteT K a) [e, it] e (fun i h => (∃ old, IsEnum h e it ((i : Nat) : Int) old) ∧ h.IsTupleIter it a i ∧ e ≠ it) where
  mem := by simp
  obj := fun i h st b hb => by
    obtain ⟨⟨old, he⟩, ⟨o, ho, hc, hd⟩, _⟩ := st
    have hb' : b = e ∨ b = it := by simpa using hb
    rcases hb' with rfl | rfl
    · exact ⟨_, he, fun v q => nomatch q⟩
    · exact ⟨o, ho, fun v q => by rw [hd] at q; cases q⟩
  keep := fun i h h' st k => let ⟨⟨old, he⟩, hi, ne⟩ := st; ⟨⟨old, k e (by simp) _ he⟩, hi.at fun o q => k it (by simp) o q, ne⟩
  item := by
    intro X hP hw hK hc i pins s σ H E I hf st hg
    subst hP hw hK
    obtain ⟨⟨old, he⟩, hit, ne⟩ := st
    obtain ⟨xs, x, hq, hx⟩ := hg
    obtain ⟨its, rv, p, hz⟩ := I.tuple hq
    obtain ⟨u, hu, ru⟩ := rv.get hx
    have lt : i < its.toArray.size := by
      have := (List.getElem?_eq_some_iff.mp hu).1
      simpa using this
    have el : e < s.heap.objs.size := Heap.lt_size he
    have il : it < s.heap.objs.size := by obtain ⟨_, q, _⟩ := hit; exact Heap.lt_size q
    have D := Draws.tuple (prog := X.prog) (w := X.w) (A := X.A.in1) (I.ok.hd hc) it a hai its.toArray
    refine wpAny_pyNext_enum_itemD D he ⟨hit, p⟩ lt ne (by simp only [List.mem_cons, List.not_mem_nil, or_false, not_or]; exact ⟨ne, fun z => hae z.symm⟩) fun y h' tk hy ho hst hT hsz hk => ?_
    have ey : y = u := by
      have hy' : its.toArray[i]? = some y := hy
      rw [List.getElem?_toArray, hu] at hy'
      exact (Option.some.inj hy').symm
    subst ey
    refine ⟨_, rfl, wpAny_letOwnedTupleGo_enum (s := { s with heap := h', toks := tk + 1 }) ho fun h'' he' sb => ?_⟩
    have hT2 : h''.get? s.heap.objs.size = some { cls := .type "tuple", data := .seq #[.int i tk, y] } := (sb.2 _ (Nat.ne_of_gt el)).trans hT
    have new : ObjOk X.prog X.w (upd H s.heap.objs.size (.tup [.int (i : Nat), x])) h'' s.heap.objs.size (.tup [.int (i : Nat), x]) :=
      ⟨by show 2 ≤ sizeLine; decide, [.int i tk, y], .cons ⟨_, rfl⟩ (.cons ru .nil), ⟨_, hT2, rfl, _, rfl⟩⟩
    have I1 : Inv X pins σ (upd H s.heap.objs.size (.tup [.int (i : Nat), x])) { s with heap := h'', toks := tk + 1 } :=
      I.turnedNew (ch := [e, it]) (fun b ob hb q => (sb.2 b (fun z => hb (by simp [z]))).trans (hk b ob (fun z => hb (by simp [z])) (fun z => hb (by simp [z])) q)) hf (Nat.le_refl _) new
    refine ⟨.ref s.heap.objs.size, _, I1, rfl, ⟨_, x, rfl, I.hok.fresh (Nat.le_refl _), rfl, fun ys hys => ?_⟩, ⟨⟨y, ?_⟩, hst.1.at fun o q => (sb.2 it (Ne.symm ne)).trans q, ne⟩, fun b hb => ?_⟩
    · rw [I.tuple_inj hys hq]; exact hx
    · rw [show ((i + 1 : Nat) : Int) = (i : Int) + 1 by omega]; exact he'
    · have hb' : b = e ∨ b = it := by simpa using hb
      have : b < s.heap.objs.size := by rcases hb' with rfl | rfl <;> assumption
      rw [upd_ne (Nat.ne_of_lt this)]
      exact (hf b hb).1
  done := by
    intro X hP hw hK hc i pins s σ H E I hf st hg
    subst hP hw hK
    obtain ⟨⟨old, he⟩, hit, ne⟩ := st
    obtain ⟨xs, hq, hx⟩ := hg
    obtain ⟨its, rv, p, hz⟩ := I.tuple hq
    obtain ⟨f0, f1, f2, f3, f4, f5⟩ := hf it (by simp)
    have hl := rv.length
    exact pyNext_enumT_end (I.ok.hd hc) he hit p (by simp; omega) fun h' eb => ⟨rfl, I.turned (t' := s.toks) (fun b o hb q => eb b o hb q) f0 f1 f3 f4 f5⟩
  self := fun A i s Q E st h => let ⟨⟨_, he⟩, _⟩ := st; wpAny_pyIter_enum he h
def iEnumT (K : PySem.W.Frag) (ta : TA) : TI := fun σ H R => ta σ H fun vs H1 => ∃ a xs, vs = [.ref a] ∧ SqT K H1 a xs ∧ R (IteT K a) H1
theorem pi_enumT {X : Cx} {e : Expr} {ta : TA} {p pos tpos : Pos} {elts : List Expr} {kk : Nat} (hg : Gl X "enumerate") (hm : X.mg "enumerate" = none) (ha : PA X [e] ta) (hs : starEach [e] X.env = [(false, eval e X.env)] := by rfl) :
    PI X (.Tuple elts kk tpos) (.Call (.Name "enumerate" p) [e] [] pos) (iEnumT X.K ta) := by
  refine ⟨fun pins s σ H R I h => ?_⟩
  refine Call_ (ld_blt I hg hm boot_enumerate (PyProof.Rows.callWith_type1 (thn (ha.run pos pins s σ H _ I h) fun us s1 ⟨vs, H1, I1, r1, a, xs, ex, hq, q⟩ => ?_) hs rfl))
  subst ex
  rw [Vals.ref1 r1]
  obtain ⟨its, rv, ⟨ob, hob, hc, n, hd⟩, hz⟩ := I1.tuple hq
  have lt : a < s1.heap.objs.size := Heap.lt_size hob
  refine callType_new F.called_enumerate (by decide) (F.typeCall_enumerate_1 _) (F.newCall_enumerate_1 _) (fun obj => F.args_object_init_2 obj _) F.entry_enumerate_new
    (mEnumT a ob its.toArray hc fun h e => ⟨ob, e, hc, n, hd⟩) ⟨hob, ?_⟩
  have sz : (s1.heap.push { cls := .type "tuple_iterator", data := .fields #[.ref a, .int 0 0] }).objs.size = s1.heap.objs.size + 1 := Heap.size_push ..
  show _ ∧ _
  rw [sz]
  have he := Heap.get?_push_size (s1.heap.push { cls := .type "tuple_iterator", data := .fields #[.ref a, .int 0 0] }) (o := { cls := .type "enumerate", data := .fields #[.none, .bool false, .ref s1.heap.objs.size, rawInt 0, .none, .none] }) rfl
  rw [sz] at he
  have keep : ∀ b o, s1.heap.get? b = some o → ((s1.heap.push { cls := .type "tuple_iterator", data := .fields #[.ref a, .int 0 0] }).push { cls := .type "enumerate", data := .fields #[.none, .bool false, .ref s1.heap.objs.size, rawInt 0, .none, .none] }).get? b = some o := fun b o x => Heap.get?_push_of_some _ (Heap.get?_push_of_some _ x)
  have hit : ((s1.heap.push { cls := .type "tuple_iterator", data := .fields #[.ref a, .int 0 0] }).push { cls := .type "enumerate", data := .fields #[.none, .bool false, .ref s1.heap.objs.size, rawInt 0, .none, .none] }).get? s1.heap.objs.size = some { cls := .type "tuple_iterator", data := .fields #[.ref a, .int 0 0] } := Heap.get?_push_of_some _ (Heap.get?_push_size _ rfl)
  generalize (s1.heap.push { cls := .type "tuple_iterator", data := .fields #[.ref a, .int 0 0] }).push { cls := .type "enumerate", data := .fields #[.none, .bool false, .ref s1.heap.objs.size, rawInt 0, .none, .none] } = h' at he keep hit ⊢
  have hen : IsEnum h' (s1.heap.objs.size + 1) s1.heap.objs.size 0 .none := he
  refine ⟨⟨_, he, rfl⟩, wpAny_pyIter_enum hen ?_⟩
  have I2 : Inv X pins σ H1 { s1 with heap := h' } := I1.kept (t' := s1.toks) keep
  refine ⟨s1.heap.objs.size + 1, [s1.heap.objs.size + 1, s1.heap.objs.size], _, _, H1, rfl, I2, turn_enT a (s1.heap.objs.size + 1) s1.heap.objs.size (Nat.ne_of_lt lt) (Nat.ne_of_lt (Nat.lt_succ_of_lt lt)), ⟨⟨.none, hen⟩, ⟨_, hit, rfl, rfl⟩, Nat.succ_ne_self _⟩, fun b hb => ?_, q⟩
  have hb' : b = s1.heap.objs.size + 1 ∨ b = s1.heap.objs.size := by simpa using hb
  have le : s1.heap.objs.size ≤ b := by
    rcases hb' with rfl | rfl
    · exact Nat.le_add_right _ _
    · exact Nat.le_refl _
  exact I1.fpOk le (I1.hok.fresh le)
section
variable {X : Cx} {W : WX} {τ : Type} [Sto τ] {K : Fg}
def fEnumT : List D → Option (List D)
  | [.tup ds] => some (enumD ds)
  | _ => none
@[simp] theorem fEnumT_tup {ds : List D} : fEnumT [.tup ds] = some (enumD ds) := rfl
theorem rIt_enumT {I : Fp → Hp → Prop} {F0 F : Fp} {H H' : Hp} {a : Addr} {vs : List V} {ds : List D} (hl : TupF K F H' a vs) (r : Reps K F H' vs ds) : rIt K I F0 F H H' (IteT K a) (enumD ds) := by
  have w : Walk (IteT K a) (enumD ds).length (fun H => SqT K H a vs) (YPair (fun i => some (.int (i : Nat))) (fun i => vs[i]?)) := by
    rw [show (enumD ds).length = vs.length by unfold enumD; rw [List.length_mapIdx, r.length]]
    refine ⟨fun i H hi g => ⟨vs, vs[i], g, List.getElem?_eq_getElem hi⟩, fun H g => ⟨vs, g, Nat.le_refl _⟩, fun i H x H' hi g y => ?_⟩
    obtain ⟨T, x0, rfl, nT, rfl, hx⟩ := y
    exact ⟨T, _, x0, rfl, nT, rfl, rfl, hx vs g⟩
  refine ⟨_, _, w, fun H2 s => (hl.step ⟨s, fun _ z => .inl z⟩).sq, fun Fc i H2 x H3 hi s dm y => ?_⟩
  obtain ⟨T, x0, y0, rfl, nT, rfl, e1, e2⟩ := y
  cases e1
  obtain ⟨d, ed, q⟩ := (r.step s).getV e2
  exact ⟨same_upd nT, .tup [.int (i : Nat), d], by unfold enumD; rw [List.getElem?_mapIdx, ed]; rfl, Rep.newTup (.cons (.int _) (.cons q .nil)) dm nT⟩
theorem mi_enumT {e : Expr} {p pos tpos : Pos} {elts : List Expr} {kk : Nat} {m : ME τ (List D)} (hg : Gl X "enumerate") (hm : X.mg "enumerate" = none) (ha : PA X [e] (tA X.K W m)) (hs : starEach [e] X.env = [(false, eval e X.env)] := by rfl) :
    PI X (.Tuple elts kk tpos) (.Call (.Name "enumerate" p) [e] [] pos) (tI X.K W (e1 fEnumT m)) := PI.imp (pi_enumT hg hm ha hs) fun σ H R ⟨C, ρ, t, A, p⟩ => by
  refine use okI A p fun d t1 v H1 e1 s1 A1 r1 p1 => ?_
  unfold fEnumT at p1
  split at p1
  · cases r1 with
    | cons r rr =>
      cases rr
      cases r with
      | tup h rs => exact ⟨_, _, rfl, h.sq, p1 _ H1 (Sm.refl _ _) A1.st (rIt_enumT h rs)⟩
  · exact p1.elim
def fEnum2 : List D → Option (List D)
  | [.tup ds] => some (enumD ds)
  | [.lst ds] => some (enumD ds)
  | _ => none
@[simp] theorem fEnum2_tup {ds : List D} : fEnum2 [.tup ds] = some (enumD ds) := rfl
@[simp] theorem fEnum2_lst {ds : List D} : fEnum2 [.lst ds] = some (enumD ds) := rfl
theorem PI.or {tg e : Expr} {t t' : TI} (h : PI X tg e t) (h' : PI X tg e t') : PI X tg e (fun σ H Q => t σ H Q ∨ t' σ H Q) := ⟨fun pins s σ H R I q => q.elim (h.run pins s σ H R I) (h'.run pins s σ H R I)⟩
theorem mi_enum2 {e : Expr} {p pos tpos : Pos} {elts : List Expr} {kk : Nat} {m : ME τ (List D)} (hg : Gl X "enumerate") (hm : X.mg "enumerate" = none) (ha : PA X [e] (tA X.K W m)) (hs : starEach [e] X.env = [(false, eval e X.env)] := by rfl) :
    PI X (.Tuple elts kk tpos) (.Call (.Name "enumerate" p) [e] [] pos) (tI X.K W (e1 fEnum2 m)) := PI.imp (PI.or (mi_enumT hg hm ha hs) (mi_enum hg hm ha hs)) fun σ H R ⟨C, ρ, t, A, p⟩ => by
  have key : e1 fEnum2 m ρ t = e1 fEnumT m ρ t ∨ e1 fEnum2 m ρ t = e1 fEnum m ρ t := by
    unfold e1
    cases m ρ t with
    | ok ds t1 =>
      show opt (fEnum2 ds) t1 = opt (fEnumT ds) t1 ∨ opt (fEnum2 ds) t1 = opt (fEnum ds) t1
      rcases ds with _ | ⟨d, _ | ⟨d2, dr⟩⟩
      · exact .inl rfl
      · cases d <;> first
          | exact .inl rfl
          | exact .inr rfl
      · left
        cases d <;> rfl
    | ex n fs t1 => exact .inl rfl
    | bad => exact .inl rfl
  rcases key with k | k
  · exact .inl ⟨C, ρ, t, A, k ▸ p⟩
  · exact .inr ⟨C, ρ, t, A, k ▸ p⟩
end
end MM

namespace MM
open PySem PySem.Spec PyProof.Rows L2
section
variable {τ : Type} [Sto τ] {X : Cx} {W : WX} {K : Fg}
abbrev MSf (τ : Type) := Rho → τ → Res τ (List D)
def SPostF (K : Fg) (W : WX) (C : SC τ) (F1 : Fp) (H : Hp) (r : Res τ (List D)) (Q : VK) : Prop := match r with
  | .ok ds t' => ∀ a vs H', Stp F1 H (fun b => C.F b ∨ b = a) H' → ¬ C.F a → H' a = some (.lst vs) → Reps K (fun b => C.F b ∨ b = a) H' vs ds → C.Iv t' (fun b => C.F b ∨ b = a) H' → Q (.ref a) H'
  | .ex n fs t' => ∀ cls dd σ' H' G, (∀ b, C.F b → G b) → Stp F1 H G H' → C.Iv t' G H' → XRep K G H' n fs cls dd → W cls dd σ' H'
  | .bad => False
theorem SPostF.rebase {C : SC τ} {F1 F2 : Fp} {H H1 : Hp} {r : Res τ (List D)} {Q : VK} (h : SPostF K W C F1 H r Q) (s : Stp F1 H F2 H1) : SPostF K W C F2 H1 r Q := by
  cases r with
  | ok ds t' => exact fun a vs H' s' n q r i => h a vs H' (s.trans s') n q r i
  | ex n fs t' => exact fun cls dd σ' H' G g s' i x => h cls dd σ' H' G g (s.trans s') i x
  | bad => exact h
def tSf (K : Fg) (W : WX) (m : MSf τ) : TS := fun E σ H => ∃ (C : SC τ) (ρ : Rho) (t : τ), At K C ρ t σ H ∧ SPostF K W C (Fo C.F ρ σ) H (m ρ t) E.rt
def seqF (a : MS τ) (b : MSf τ) : MSf τ := fun ρ t => match a ρ t with
  | .nx ρ' t' => b ρ' t'
  | .ex n fs _ t' => .ex n fs t'
  | _ => .bad
theorem mss_consF {s : Stmt} {r : List Stmt} {a : MS τ} {b : MSf τ} (h1 : PS X s (tS X.K W a)) (h2 : PSs X r (tSf X.K W b)) : PSs X (s :: r) (tSf X.K W (seqF a b)) := PSs.imp (pss_cons h1 h2) fun E σ H ⟨C, ρ, t, A, p⟩ => by
  refine ⟨C, ρ, t, A, ?_⟩
  unfold seqF at p
  cases e : a ρ t with
  | nx ρ' t' =>
    rw [e] at p
    exact fun σ' H' s' A' => ⟨C, ρ', t', A', SPostF.rebase p s'⟩
  | ex n fs ρ' t' =>
    rw [e] at p
    exact fun cls dd σ' H' s' A' x => p cls dd σ' H' (Fo C.F ρ' σ') (fun _ => .inl) s' A'.st x
  | rt d t' => rw [e] at p; exact p.elim
  | bk ρ' t' => rw [e] at p; exact p.elim
  | ct ρ' t' => rw [e] at p; exact p.elim
  | bad => rw [e] at p; exact p.elim
theorem mss_oneF {s : Stmt} {b : MSf τ} (h : PS X s (tSf X.K W b)) : PSs X [s] (tSf X.K W b) := pss_one h
def retF (i : Nat) : MSf τ := fun ρ t => match ρ[i]? with
  | some (.own xs) => .ok xs t
  | _ => .bad
theorem ms_retF {i : Nat} {n : Expr} {pos : Pos} (hn : PE X n (tVar i)) : PS X (.Return (some n) pos) (tSf X.K W (retF (τ := τ) i)) :=
  PS.imp (ps_ret hn) fun E σ H ⟨C, ρ, t, A, p⟩ => by
    unfold retF at p
    split at p
    · rename_i xs hr
      obtain ⟨a, vs, h1, h2, h3, h4⟩ := A.own i xs hr
      have sub : ∀ b, (C.F b ∨ b = a) → Fo C.F ρ σ b := fun b h => by
        rcases h with h | rfl
        · exact .inl h
        · exact .inr ⟨i, _, ⟨hr, rfl⟩, h1⟩
      exact ⟨_, h1, p a vs H ⟨fun _ _ _ e => e, fun b h => .inl (sub b h)⟩ h2 h3 (h4.anti sub) (C.less A.st sub)⟩
    · exact p.elim
def FPostF (K : Fg) (C : SC τ) (H : Hp) (r : Res τ (List D)) (Q : VK) (E : XK) : Prop := match r with
  | .ok ds t' => ∀ a vs H', Stp C.F H (fun b => C.F b ∨ b = a) H' → ¬ C.F a → H' a = some (.lst vs) → Reps K (fun b => C.F b ∨ b = a) H' vs ds → C.Iv t' (fun b => C.F b ∨ b = a) H' → Q (.ref a) H'
  | .ex n fs t' => ∀ cls dd H', Sm C.F H H' → C.Iv t' C.F H' → XRep K C.F H' n fs cls dd → E cls dd H'
  | .bad => False
def spFF (np : Nat) (K : Fg) (m : List D → τ → Res τ (List D)) : Sp := fun vs H Q E => ∃ (C : SC τ) (ds : List D) (t : τ), Sto.ok K C ∧ C.Iv t C.F H ∧ Reps K C.F H vs ds ∧ ds.length = np ∧ FPostF K C H (m ds t) Q E
def runF (n : Nat) (mb : MSf τ) : List D → τ → Res τ (List D) := fun ds t => mb (ds.map Slot.val ++ List.replicate (n - ds.length) .no) t
theorem fn_mkF {P : Program} {w : World} {K : Fg} {mg : Str → Option Value} {base : Heap} {x qual : Str} {params : Arguments} {body : List Stmt} {scope : Scope} {dvs : List V} {kws : List (Str × V)} {f : Addr} {fd : FuncData} {N ps : List Str} {k : Nat}
    (F : FunD K x qual params body scope dvs kws f fd) (S : FnScope N ps scope) (mb : MSf τ)
    (hb : ∀ (cdv : Value) (A : Around) (outer : List Env) (s : Shared) (H : Hp) (E : XK), Room k (A.deeper (envOfC qual scope s.heap.objs.size f cdv)) →
      PSs (cxOf (L2.CX P w) P w K mg base N qual scope f cdv A outer s H E) body (tSf K (fun cls d _ H => E cls d H) mb)) : FnOk P w K mg base (L2.CX P w) (k + 1) f fd ps (spFF ps.length K (runF N.length mb)) := by
  have hpl : ps.length ≤ N.length := by have := congrArg List.length S.pre; rw [List.length_take] at this; omega
  refine F.ok S (fun vs H Q E ⟨C, ds, t, _, _, r, hl, _⟩ => r.length.trans hl) fun cdv A outer s H vs Q E hr ⟨C, ds, t, okC, iv, r, hl, p⟩ => ⟨_, hb cdv A outer s H E hr, C, _, t, At.start okC iv r (by rw [hl]; exact hpl), ?_⟩
  unfold runF at p
  cases e : mb (ds.map Slot.val ++ List.replicate (N.length - ds.length) .no) t with
  | ok xs t' =>
    rw [e] at p
    exact fun a vs H' s' n q r i => p a vs H' ⟨fun b o n e => s'.keep b o (fun z => n (FoStart z)) e, fun b h => (s'.new b h).elim (fun z => .inl (FoStart z)) .inr⟩ n q r i
  | ex n fs t' =>
    rw [e] at p
    exact fun cls dd σ' H' G g s' i x => p cls dd H' (fun b o n e => s'.keep b o (fun z => n (FoStart z)) e) (C.less i g) (x.anti g)
  | bad => rw [e] at p; exact p.elim
structure DefF (P : Program) (w : World) (K : Fg) (mg : Str → Option Value) (base : Heap) (k : Nat) (x : Str) (np : Nat) (m : List D → τ → Res τ (List D)) : Prop where
  ex : ∃ (fd : FuncData) (ps : List Str) (ds : List Value), FnOk P w K mg base (L2.CX P w) k (He.ga K x) fd ps (spFF np K m) ∧ mg x = some (.ref (He.ga K x)) ∧ PySem.W.keepIn K (.ref (He.ga K x)) = true ∧ Binds K fd ps ds ∧ Vals [] ds
theorem DefF.mk' {P : Program} {w : World} {K : Fg} {mg : Str → Option Value} {base : Heap} {x qual : Str} {params : Arguments} {body : List Stmt} {scope : Scope} {dvs : List V} {kws : List (Str × V)} {fd : FuncData} {N ps : List Str} {k : Nat}
    (F : FunD K x qual params body scope dvs kws (He.ga K x) fd) (hm : mg x = some (.ref (He.ga K x))) (S : FnScope N ps scope) (mb : MSf τ) (hb : ∃ ds, Vals [] ds ∧ Binds K fd ps ds)
    (hbody : ∀ (cdv : Value) (A : Around) (outer : List Env) (s : Shared) (H : Hp) (E : XK), Room k (A.deeper (envOfC qual scope s.heap.objs.size (He.ga K x) cdv)) →
      PSs (cxOf (L2.CX P w) P w K mg base N qual scope (He.ga K x) cdv A outer s H E) body (tSf K (fun cls d _ H => E cls d H) mb)) : DefF P w K mg base (k + 1) x ps.length (runF N.length mb) := by
  obtain ⟨ds, h1, h2⟩ := hb
  exact ⟨fd, ps, ds, fn_mkF F S mb hbody, hm, F.kp, h2, h1⟩
theorem DefF.mono {P : Program} {w : World} {K : Fg} {mg : Str → Option Value} {base : Heap} {j k : Nat} {x : Str} {np : Nat} {m : List D → τ → Res τ (List D)} (F : DefF P w K mg base j x np m) (h : j ≤ k) : DefF P w K mg base k x np m := by
  obtain ⟨fd, ps, ds, F, r⟩ := F.ex
  exact ⟨fd, ps, ds, F.mono h, r⟩
def asL (m : List D → τ → Res τ (List D)) : List D → τ → Res τ D := fun ds t => (m ds t).bind fun xs t => .ok (.lst xs) t
theorem DefF.asDef {P : Program} {w : World} {K : Fg} {mg : Str → Option Value} {base : Heap} {k : Nat} {x : Str} {np : Nat} {m : List D → τ → Res τ (List D)} (F : DefF P w K mg base k x np m) : Def P w K mg base k x np [] (asL m) := by
  obtain ⟨fd, ps, ds, F, h1, h2, h3, h4⟩ := F.ex
  refine ⟨fd, ps, ds, [], F.imp fun vs H Q E ⟨C, xs, t, okC, iv, r, hl, p⟩ => ⟨C, xs, t, okC, iv, r, hl, ?_⟩, h1, h2, h3, h4, fun _ _ => .nil⟩
  unfold asL at p
  cases e : m xs t with
  | ok ys t' =>
    rw [e] at p
    exact fun a vs H' s' n q r i => p (.ref a) H' (fun b o n e => s'.keep b o n e) (C.less i fun _ => .inl) (.lst ⟨n, .inl q⟩ (r.anti fun _ => .inl))
  | ex n fs t' => rw [e] at p; exact p
  | bad => rw [e] at p; exact p
def eCallF (m : List D → Unit → Res Unit (List D)) (a : ME τ (List D)) : ME τ (List D) := fun ρ t => (a ρ t).bind fun ds t => match m ds () with
  | .ok xs _ => .ok xs t
  | .ex n fs _ => .ex n fs t
  | .bad => .bad
theorem callF_red {np : Nat} {K : Fg} {m : List D → Unit → Res Unit (List D)} {a : ME τ (List D)} {σ : St} {H : Hp} {Q : VK} (hn : ALen a np) (p : tF K W (eCallF m a) σ H Q) :
    tCallSD (spFF np K m) [] (WE W) (tA K W a) σ H Q := by
  obtain ⟨C, ρ, t, A, p⟩ := p
  refine use okF A p fun ds t1 vs H1 e1 s1 A1 r1 p1 => ?_
  rw [List.append_nil]
  refine ⟨SC.pure (Fo C.F ρ σ) H1 A1.dom, ds, (), trivial, ⟨Stp.refl _ _, fun _ _ _ e => e⟩, r1, hn _ _ _ _ e1, ?_⟩
  cases e : m ds () with
  | ok xs u =>
    rw [e] at p1
    refine fun b us H' s n q r i => p1 (.ref b) H' (Sm.of_same (SC.pure_same i)) (C.stay A1.st (SC.pure_same i)) ⟨b, us, rfl, n, ?_, q, r, C.step _ _ _ _ _ A1.st (fun x o _ h => SC.pure_same i x o h) i.1⟩
    rcases s.new b (.inr rfl) with z | z
    · exact absurd z n
    · exact z
  | ex n fs u =>
    rw [e] at p1
    exact fun cls dd H' s i x => p1 cls dd H' (Sm.of_same (SC.pure_same i)) (C.stay A1.st (SC.pure_same i)) x
  | bad =>
    rw [e] at p1
    exact p1.elim
theorem mf_callF {k np : Nat} {x : Str} {m : List D → Unit → Res Unit (List D)} {e : Expr} {es : List Expr} {p pos : Pos} {a : ME τ (List D)} (Df : DefF X.prog X.w X.K X.mg X.base k x np m) (hr : Room k X.A) (tk : Takes X W) (hg : Gl X x) (hn : ALen a np)
    (ha : PA X (e :: es) (tA X.K W a)) (hdb : (x == ("__debug__" : Str)) = false := by decide) (he : starEach (e :: es) X.env = (false, eval e X.env) :: starEach es X.env := by rfl) (hpl : (backTo pos (starEach es X.env)).any (·.1) = false := by rfl) :
    PE X (.Call (.Name x p) (e :: es) [] pos) (tF X.K W (eCallF m a)) := by
  obtain ⟨fd, ps, ds, F, hm, hk, hb, hd⟩ := Df.ex
  exact PE.imp (pe_callSD F hr hg hm hk hb hd (fun σ => passAt tk σ) ha hdb he hpl) fun _ _ _ p => callF_red hn p
end
section
variable {τ : Type} [Sto τ] {X : Cx} {W : WX}
end
def dCutS : D → Option Int → Option Int → Option (List D)
  | .scr ns, lo, hi => some (cutD (ns.map .int) lo hi)
  | _, _, _ => none
theorem reps_ints {K : Fg} {F : Fp} {H : Hp} : ∀ ns : List Int, Reps K F H (ns.map V.int) (ns.map D.int)
  | [] => .nil
  | n :: ns => .cons (.int n) (reps_ints ns)
section
variable {τ : Type} [Sto τ] {X : Cx} {W : WX}
theorem mf_cutS {e : Expr} {lo hi : Option Expr} {p2 pos : Pos} {m : ME τ D} {ml mh : ME τ (Option Int)} (h : PE X e (tW X.K W m)) (hl : PO X lo (tO X.K W ml)) (hh : PO X hi (tO X.K W mh)) : PE X (.Subscript e (.Slice lo hi none p2) pos) (tF X.K W (e3 dCutS m ml mh)) :=
  PE.imp (pe_slice sl_list h hl hh) fun σ H Q ⟨C, ρ, t, A, p⟩ => by
    refine use okF A p fun d t1 v H1 e1 s1 A1 r1 p1 => ?_
    refine use okF A1 p1 fun l t2 l' H2 e2 s2 A2 rl p2 => ?_
    refine use okF A2 p2 fun u t3 u' H3 e3 s3 A3 ru p3 => ?_
    cases rl
    cases ru
    cases d <;> first
      | exact p3.elim
      | skip
    rename_i ns
    obtain ⟨a, rfl, q⟩ := (RepW.same (RepW.same r1 s2 fun _ => Fo.base) s3 fun _ => Fo.base).scrOf
    exact ⟨a, _, rfl, q.sq, new_fin A3 ((reps_ints ns).cut _ _) p3⟩
end
@[simp] theorem dCutS_scr {xs : List Int} {lo hi : Option Int} : dCutS (.scr xs) lo hi = some (cutD (xs.map .int) lo hi) := rfl
section
variable {τ α : Type} {X : Str → Fds → τ → Prop} {ρ : Rho} {t : τ}
@[simp] theorem oE_callF {m : List D → Unit → Res Unit (List D)} {a : ME τ (List D)} {Q : List D → τ → Prop} : oE (eCallF m a ρ t) Q X = oE (a ρ t) (fun ds t => oE (m ds ()) (fun d _ => Q d t) (fun n fs _ => X n fs t)) X := by
  unfold eCallF; rw [oE_bind]; congr; funext ds t
  cases m ds () <;> rfl
@[simp] theorem oE_runF {n : Nat} {b : MSf τ} {ds : List D} {Q : List D → τ → Prop} : oE (runF n b ds t) Q X = oE (b (ds.map Slot.val ++ List.replicate (n - ds.length) .no) t) Q X := rfl
@[simp] theorem oE_asL {m : List D → τ → Res τ (List D)} {ds : List D} {Q : D → τ → Prop} : oE (asL m ds t) Q X = oE (m ds t) (fun xs t => Q (.lst xs) t) X := by
  unfold asL; rw [oE_bind]; rfl
@[simp] theorem oE_seqF {a : MS τ} {b : MSf τ} {Q : List D → τ → Prop} : oE (seqF a b ρ t) Q X = oS (a ρ t) { nx := fun ρ t => oE (b ρ t) Q X, rt := fun _ _ => False, ex := fun n fs _ t => X n fs t } := by
  unfold seqF; cases a ρ t <;> rfl
@[simp] theorem oE_retF {i : Nat} {Q : List D → τ → Prop} : oE (retF i ρ t) Q X = (match ρ[i]? with | some (.own xs) => Q xs t | _ => False) := by
  unfold retF; split <;> simp_all [oE]
theorem asL_ok {m : List D → τ → Res τ (List D)} {ds xs : List D} {u : τ} (h : m ds t = .ok xs u) : asL m ds t = .ok (.lst xs) u := by unfold asL; rw [h]; rfl
end
end MM

namespace MM
open PySem PySem.Spec PyProof.Rows L2
def fCat : D → D → Option (List D) := fun d e => match d, e with
  | .lst xs, .lst ys => if lim2 (xs.length + ys.length) = true then some (xs ++ ys) else none
  | _, _ => none
section
variable {τ : Type} [Sto τ] {X : Cx} {W : WX}
theorem mf_cat {a b : Expr} {ma mb : ME τ D} {pos : Pos} (ha : PE X a (tW X.K W ma)) (hb : PE X b (tW X.K W mb)) : PE X (.BinOp a .Add b pos) (tF X.K W (MM.e2 fCat ma mb)) :=
  PE.imp (pe_op op_catL ha hb) fun σ H Q ⟨C, ρ, t, A, p⟩ => by
    refine use okF A p fun d t1 v H1 e1 s1 A1 r1 p1 => ?_
    refine use okF A1 p1 fun e t2 u H2 e2 s2 A2 r2 p2 => ?_
    have r1' := RepW.same r1 s2 (fun _ => Fo.base)
    unfold fCat at p2
    split at p2
    · split at p2
      · rename_i hl
        obtain ⟨x, vs, rfl, h1, q1⟩ := r1'.lstOf
        obtain ⟨y, ws, rfl, h2, q2⟩ := r2.lstOf
        exact ⟨x, y, vs, ws, rfl, rfl, h1, h2, by rw [q1.length, q2.length]; exact lim2_le hl, new_fin A2 (q1.append q2) p2⟩
      · exact p2.elim
    · exact p2.elim
end
section
variable {X : Cx} {K : Fg}
end
@[simp] theorem ex_cat {xs ys : List D} {Q : List D → Prop} : (∃ z, fCat (.lst xs) (.lst ys) = some z ∧ Q z) ↔ xs.length + ys.length ≤ 16777216 ∧ Q (xs ++ ys) := by
  unfold fCat lim2; by_cases h : xs.length + ys.length ≤ 16777216 <;> simp [h]
end MM

namespace MM
open PySem PySem.Spec PyProof.Rows L2
section
variable {X : Cx} {W : WX} {τ : Type} [Sto τ] {K : Fg}
end
section
variable {τ : Type} {Q : D → τ → Prop} {X : Str → Fds → τ → Prop} {ρ : Rho} {t : τ}
end
end MM

namespace MM
open PySem PySem.Spec PyProof.Rows L2
section
variable {X : Cx} {W : WX} {τ : Type} [Sto τ] {K : Fg}
end
end MM

namespace MM
open PySem PySem.Spec PyProof.Rows L2
section
variable {prog : Program} {w : World} {A : Around} {E : Value → Shared → Prop} {s : Shared}
end
section
variable {X : Cx} {τ : Type} [Sto τ] {K : Fg}
end
end MM

namespace MM
open PySem PySem.Spec PyProof.Rows L2
section
variable {X : Cx} {τ : Type} [Sto τ] {W : WX}
end
section
variable {τ : Type} {P : MM.Pt τ} {ρ : Rho} {t : τ}
end
end MM

namespace MM
open PySem PySem.Spec PyProof.Rows L2
section
variable {prog : Program} {w : World} {A : Around} {E : Value → Shared → Prop} {s : Shared}
end
section
variable {X : Cx}
variable {W : WX} {τ : Type} [Sto τ]
end
end MM

namespace MM
open PySem PySem.Spec PyProof.Rows L2
section
variable {X : Cx} {W : WX} {τ : Type} [Sto τ] {K : Fg}
end
section
variable {τ : Type} {Q : D → τ → Prop} {X : Str → Fds → τ → Prop} {ρ : Rho} {t : τ}
end
end MM

namespace MM
open PySem PySem.Spec PyProof.Rows L2
section
variable {X : Cx} {K : Fg}
theorem Reps.rep {F : Fp} {H : Hp} {vs : List V} {ds : List D} (r : Reps K F H vs ds) : ∀ k, Reps K F H (List.replicate k vs).flatten (List.replicate k ds).flatten
  | 0 => .nil
  | k + 1 => by
    rw [List.replicate_succ, List.replicate_succ, List.flatten_cons, List.flatten_cons]
    exact Reps.append r (Reps.rep r k)
variable {W : WX} {τ : Type} [Sto τ]
end
end MM

namespace MM
open PySem PySem.Spec PyProof.Rows L2
section
variable {X : Cx} {W : WX} {τ : Type} [Sto τ]
end
section
variable {τ : Type} {Q : D → τ → Prop} {X : Str → Fds → τ → Prop} {ρ : Rho} {t : τ}
end
end MM

namespace MM
open PySem PySem.Spec PyProof.Rows L2
section
variable {X : Cx} {W : WX} {τ : Type} [Sto τ]
end
section
variable {τ : Type} {Q : List D → τ → Prop} {X : Str → Fds → τ → Prop} {ρ : Rho} {t : τ}
end
end MM

namespace MM
open PySem PySem.Spec PyProof.Rows L2
section
variable {X : Cx} {W : WX} {τ : Type} [Sto τ] {K : Fg}
end
end MM

namespace MM
open PySem PySem.Spec PyProof.Rows L2
section
variable {J : It} {n : Nat} {G : Hp → Prop} {Y : Nat → Hp → V → Hp → Prop}
end
section
variable {X : Cx} {W : WX} {τ : Type} [Sto τ] {K : Fg}
end
section
variable {τ : Type} {Q : List D → τ → Prop} {X : Str → Fds → τ → Prop} {ρ : Rho} {t : τ} {vs vs1 : List Nat} {g g1 : Tgt} {tt tt1 : ME τ Bool} {mi mi1 : ME τ (List D)} {te : ME τ D}
end
end MM

namespace MM
open PySem PySem.Spec PyProof.Rows L2
section
variable {X : Cx} {W : WX} {τ : Type} [Sto τ] {K : Fg}
end
end MM

namespace MM
open PySem PySem.Spec PyProof.Rows L2
section
variable {K : Fg}
end
end MM

namespace MM
open PySem PySem.Spec PyProof.Rows L2
structure Nxr (it l : Addr) (S : Heap → Nat → Prop) (L : Heap → Prop) (xs : Array Value) : Prop where
  sat : ∀ {h h' : Heap} {i : Nat}, S h i → (∀ o, h.get? it = some o → h'.get? it = some o) → S h' i
  lat : ∀ {h h' : Heap}, L h → (∀ o, h.get? l = some o → h'.get? l = some o) → L h'
  lt : ∀ {h : Heap} {i : Nat}, S h i → it < h.objs.size
  item : ∀ {prog : Program} {w : World} {A : Around} {E : Value → Shared → Prop} {s : Shared} {i : Nat} {x : Value} {Q : Value → Shared → Prop}, S s.heap i → L s.heap → xs[i]? = some x →
    (∀ h', S h' (i + 1) → Heap.SameBut it s.heap h' → Q x { s with heap := h' }) → wpAny (model prog w) A (Builtin.SmallTypes.nextOf (.ref it)) Q E s
  stop : ∀ {prog : Program} {w : World} {A : Around} {E : Value → Shared → Prop} {s : Shared} {i : Nat} {Q : Value → Shared → Prop}, A.handled = none → S s.heap i → L s.heap → xs[i]? = none →
    (∀ h' e, Heap.ExtBut it s.heap h' → (∃ o, h'.get? e = some o ∧ o.cls = .type "StopIteration") → E (.ref e) { s with heap := h' }) → wpAny (model prog w) A (Builtin.SmallTypes.nextOf (.ref it)) Q E s
theorem Nxr.lst {it l : Addr} {xs : Array Value} : Nxr it l (fun h i => h.IsListIter it l i) (fun h => h.IsList l xs) xs :=
  ⟨fun a k => a.at k, fun a k => a.at k, fun a => by obtain ⟨_, e, _⟩ := a; exact Heap.lt_size e, fun a b c d => wpAny_nextOf_list_item a b c d, fun a b c d e => wpAny_nextOf_list_end a b c d e⟩
theorem Nxr.tup {it l : Addr} {xs : Array Value} : Nxr it l (fun h i => h.IsTupleIter it l i) (fun h => h.IsTuple l xs) xs :=
  ⟨fun a k => a.at k, fun a k => a.at k, fun a => by obtain ⟨_, e, _⟩ := a; exact Heap.lt_size e, fun a b c d => RZ.nextOf_tuple_item a b c d, fun a b c d e => RZ.nextOf_tuple_end a b c d e⟩
section
variable {it l : Addr} {S : Heap → Nat → Prop} {L : Heap → Prop} {xs : Array Value}
theorem Nxr.sx (N : Nxr it l S L xs) {h h' : Heap} {b : Addr} {i : Nat} (x : S h i) (e : Heap.ExtBut b h h') (d : it ≠ b) : S h' i := N.sat x fun o q => e _ o d q
theorem Nxr.lx (N : Nxr it l S L xs) {h h' : Heap} {b : Addr} (x : L h) (e : Heap.ExtBut b h h') (d : l ≠ b) : L h' := N.lat x fun o q => e _ o d q
end
section
variable {prog : Program} {w : World} {A : Around} {E : Value → Shared → Prop} {s : Shared} {z TI TO i1 i2 l1 l2 : Addr} {S1 S2 : Heap → Nat → Prop} {L1 L2 : Heap → Prop} {k1 k2 : Nat} {xs ys : Array Value} {x y a b : Value}
end
section
variable {prog : Program} {w : World} {A : Around} {E : Value → Shared → Prop} {s : Shared} {z TI TO i1 i2 l1 l2 : Addr} {S1 S2 : Heap → Nat → Prop} {L1 L2 : Heap → Prop} {k1 k2 : Nat} {xs ys : Array Value} {x y a b : Value}
end
section
variable {X : Cx} {W : WX} {τ : Type} [Sto τ] {K : Fg}
end
end MM

namespace MM
open PySem PySem.Spec PyProof.Rows L2
open ClX (CRead)
section
variable {X : Cx} {o e : Expr} {es : List Expr} {to te : TE} {ta : TA} {B f : Str} {p p' p1 p2 pos : Pos}
end
section
variable {X : Cx} {W : WX} {τ : Type} [Sto τ] {K : Fg}
end
section
variable {X : Cx} {W : WX} {τ : Type} [Sto τ] {K : Fg}
end
end MM
namespace MM
open PySem PySem.Spec PyProof.Rows L2
section
variable {τ : Type} {P : Pt τ} {ρ : Rho} {t : τ}
end
end MM

namespace MM
open PySem PySem.Spec PyProof.Rows L2
section
variable {prog : Program} {w : World} {A : Around} {P : Nat → Value → Prop}
end
section
variable {prog : Program} {w : World} {A : Around} {E : Value → Shared → Prop} {s : Shared} {x y : Str} {t u : Tok} {Q : Value → Shared → Prop}
end
section
variable {X : Cx} {K : Fg}
end
end MM
namespace PySem.W
open PySem PySem.Spec PySem.Calls PyProof.Rows
section
variable {prog : Program} {w : World} {A : Around} {E : Value → Shared → Prop} {s : Shared} {K : Frag} {x D : Addr} {ox : Obj} {od : Option Obj}
end
end PySem.W
namespace MM
open PySem PySem.Spec PyProof.Rows L2
section
variable {X : Cx} {a D : Addr} {oe : Obj} {cls : Value} {d : Option Addr} {pn : List (Addr × Obj)}
end
end MM

namespace MM
open PySem PySem.Spec PyProof.Rows L2
section
variable {X : Cx} {a D : Addr} {oe : Obj} {cls : Value} {d : Option Addr} {pn : List (Addr × Obj)} {i : Nat}
end
end MM

namespace MM
open PySem PySem.Spec PyProof.Rows L2
open L2H (RoomH PinOk cxH inv_startH)
structure Ec (dd : Addr) where
  fs : List (Str × V)
instance {dd : Addr} : Sto (Ec dd) where
  ok := fun _ C => ∀ t G H, C.Iv t G H → H dd = some (.xd t.fs)
  cmp := fun _ _ _ _ _ h t G H i => h t G H i.1
  ov := fun _ _ _ _ _ _ h t G H i => h t G H i.1
  lend := fun _ _ _ _ _ _ h t G H i => h t _ H i.1
section
variable {X : Cx} {W : WX} {K : Fg} {a D dd : Addr} {oe : Obj}
end
section
variable {dd a : Addr} {i : Nat} {b : Bool} {ρ : Rho} {t : Ec dd} {Q : D → Ec dd → Prop} {X : Str → Fds → Ec dd → Prop}
end
structure FnB (P : Program) (w : World) (K : Fg) (mg : Str → Option Value) (base : Heap) (CX : CXT) (p : Addr × Obj) (k : Nat) (f : Addr) (fd : FuncData) (ps : List Str) (sp : Sp) : Prop where
  len : ∀ vs H Q E, sp vs H Q E → vs.length = ps.length
  run : ∀ (A : Around) (outer : List Env) (s : Shared) (H : Hp) (args : Args) (us : List Value) (vs : List V) (Q : VK) (E : XK), RoomH k A → PinOk outer H s p → Env0 P w K mg base A outer s H → BindsTo s fd args (ps.zip us) → Vals vs us → sp vs H Q E →
    codeAny (model P w) A (.call (.ref f) args) (CR CX outer P w H s Q E) s
theorem fnB_of {P : Program} {w : World} {K : Fg} {mg : Str → Option Value} {base : Heap} {CX : CXT} {p : Addr × Obj} {x qual : Str} {params : Arguments} {body : List Stmt} {scope : Scope} {dvs : List V} {kws : List (Str × V)} {f : Addr} {fd : FuncData} {N ps : List Str} {k : Nat} {sp : Sp}
    (F : FunD K x qual params body scope dvs kws f fd) (S : FnScope N ps scope) (len : ∀ vs H Q E, sp vs H Q E → vs.length = ps.length)
    (hbody : ∀ (cdv : Value) (A : Around) (outer : List Env) (s : Shared) (H : Hp) (vs : List V) (Q : VK) (E : XK), RoomH k (A.deeper (envOfC qual scope s.heap.objs.size f cdv)) → sp vs H Q E →
      ∃ t, PSs (cxH CX P w K mg base N qual scope f cdv A outer s H E p) body t ∧ t { nx := fun _ H' => Q .non H', rt := Q } (L2.start N vs) H) : FnB P w K mg base CX p (k + 1) f fd ps sp := by
  obtain ⟨oc, od, dV, kV, doc, pm, an, cdv, ct, osl, rfl, lk, hcd, _, _⟩ := F.ex
  refine ⟨len, fun A outer s H args us vs Q E hr hpin e0 hb r hsp => ?_⟩
  have up : ∀ b o, base.get? b = some o → s.heap.get? b = some o := fun b o e => (e0.bs b o e).1
  have KX : K.In s.heap := e0.mod.kin.keeps up
  refine codeAny_call_function hr.depth (KX _ _ lk) rfl S.co S.gen rfl (PySem.W.codeRec_of KX hcd) (hb _ _ _ _ ?_)
  refine wpAny_newFunctionEnv_cells S.kind (fun ⟨n, v⟩ hy => ?_) fun env he s1 xx => ?_
  · rcases S.par n (List.of_mem_zip hy).1 with q | q
    · exact .inl q
    · exact .inr ⟨q, PySem.W.cellsFrom_some _ _ _ (.inl q)⟩
  subst he
  refine ⟨(e0.mod.nolimit.keeps up).keeps xx.toInCall.keep, codeAny_func ?_⟩
  obtain ⟨t, ht, hq⟩ := hbody cdv A outer s H vs Q E (hr.deeper _) hsp
  have I := inv_startH (CX := CX) (E := E) S hpin e0 (len _ _ _ _ hsp) r xx
  refine wpAny_mono (ht.run [] s1 (L2.start N vs) H _ I hq) (fun fl s' hs => ?_) fun e s' hs => hs
  cases fl with
  | ret u =>
    obtain ⟨v, σ', H', J, rv, q⟩ := hs
    exact ⟨v, H', J.os, J.bare, J.base, J.hok, rv, q⟩
  | next =>
    obtain ⟨σ', H', J, q⟩ := hs
    exact ⟨V.non, H', J.os, J.bare, J.base, J.hok, rfl, q⟩
  | brk => exact hs.elim fun _ h => h.elim fun _ h => h.2.elim
  | cont => exact hs.elim fun _ h => h.elim fun _ h => h.2.elim
section
variable {X : Cx} {CX : CXT} {k : Nat} {f : Addr} {fd : FuncData} {ps : List Str} {sp : Sp} {E : St → XK} {x : Str} {q pos : Pos} {e : Expr} {es : List Expr} {t : TA} {p : Addr × Obj}
end
structure DefB (P : Program) (w : World) (K : Fg) (mg : Str → Option Value) (base : Heap) (p : Addr × Obj) (k : Nat) (x : Str) (dd : Addr) (m : List D → Ec dd → Res (Ec dd) D) : Prop where
  ex : ∃ (fd : FuncData) (ps : List Str), FnB P w K mg base (L2.CX P w) p k (He.ga K x) fd ps (spF 1 K m) ∧ mg x = some (.ref (He.ga K x)) ∧ PySem.W.keepIn K (.ref (He.ga K x)) = true ∧ Binds K fd ps []
theorem DefB.mk' {P : Program} {w : World} {K : Fg} {mg : Str → Option Value} {base : Heap} {p : Addr × Obj} {dd : Addr} {x : Str} {params : Arguments} {body : List Stmt} {scope : Scope} {fd : FuncData} {N ps : List Str} {k : Nat}
    (F : FunD K x x params body scope [] [] (He.ga K x) fd) (g : mg x = some (.ref (He.ga K x))) (S : FnScope N ps scope) (hps : ps.length = 1) (hb : Binds K fd ps []) (mb : MS (Ec dd))
    (hbd : ∀ (cdv : Value) (A : Around) (outer : List Env) (s : Shared) (H : Hp) (E : XK), RoomH k (A.deeper (envOfC x scope s.heap.objs.size (He.ga K x) cdv)) →
      PSs (cxH (L2.CX P w) P w K mg base N x scope (He.ga K x) cdv A outer s H E p) body (tS K (fun cls d _ H => E cls d H) mb)) : DefB P w K mg base p (k + 1) x dd (runB N.length mb) := by
  have hpl : ps.length ≤ N.length := by have := congrArg List.length S.pre; rw [List.length_take] at this; omega
  refine ⟨fd, ps, fnB_of F S (fun vs H Q E ⟨C, ds, t, _, _, r, hl, _⟩ => r.length.trans (hl.trans hps.symm)) fun cdv A outer s H vs Q E hr ⟨C, ds, t, okC, iv, r, hl, p⟩ => ⟨_, hbd cdv A outer s H E hr, C, _, t, At.start okC iv r (by rw [hl, ← hps]; exact hpl), ?_⟩, g, F.kp, hb⟩
  unfold runB at p
  cases e : mb (ds.map Slot.val ++ List.replicate (N.length - ds.length) .no) t with
  | nx ρ' t' =>
    rw [e] at p
    exact fun σ' H' s' A' => p .non H' (fun b o n e => s'.keep b o (fun z => n (FoStart z)) e) (C.less A'.st fun _ => .inl) .non
  | rt d t' =>
    rw [e] at p
    exact fun v H' s' i r => p v H' (fun b o n e => s' b o (fun z => n (FoStart z)) e) i r
  | ex n fs ρ' t' =>
    rw [e] at p
    exact fun cls dd σ' H' s' A' x => p cls dd H' (fun b o n e => s'.keep b o (fun z => n (FoStart z)) e) (C.less A'.st fun _ => .inl) (x.anti fun _ => .inl)
  | bk ρ' t' => rw [e] at p; exact p.elim
  | ct ρ' t' => rw [e] at p; exact p.elim
  | bad => rw [e] at p; exact p.elim
section
variable {X : Cx} {W : WX} {a dd : Addr} {oe : Obj}
end
section
variable {X : Cx} {W : WX} {τ : Type} [Sto τ] {K : Fg}
end
section
variable {τ : Type} {Q : D → τ → Prop} {X : Str → Fds → τ → Prop} {ρ : Rho} {t : τ}
end
end MM

namespace MM
open PySem PySem.Spec PyProof.Rows L2
open L2H (RoomH PinOk cxH inv_startH roomH_of)
abbrev FX := Fds → Option D
def TeOk (K : Fg) (n0 : Str) (i : Nat) (hf : FX) (te : Addr → Value → Option Addr → TE) : Prop :=
  ∀ {a : Addr} {cls : Value} {dd : Option Addr} {fs : Fds} {F : Fp} {σ : St} {H : Hp} {d : D} {Q : VK}, σ[i]? = some (some (.ref a)) → XRep K F H n0 fs cls dd → hf fs = some d → Dom F H → (∀ v H', Same H H' → Rep K F H' v d → Q v H') → te a cls dd σ H Q
def SuS (X : Cx) (n0 : Str) (i : Nat) (b : Stmt) (j : Nat) (hf : FX) : Prop := ∃ te : Addr → Value → Option Addr → TE,
  (∀ (a : Addr) (oe : Obj) (cls : Value) (d : Option Addr) (pn : List (Addr × Obj)), Zc cls d oe → (∃ vs, oe.data = .fields vs) → PS (X.suite a ((a, oe) :: pn)) b (tAsg (te a cls d) (gName j))) ∧ TeOk X.K n0 i hf te
theorem SuS.mk {X : Cx} {n0 : Str} {i j : Nat} {b : Stmt} {hf : FX} {te : Addr → Value → Option Addr → TE}
    (h1 : ∀ (a : Addr) (oe : Obj) (cls : Value) (d : Option Addr) (pn : List (Addr × Obj)), Zc cls d oe → (∃ vs, oe.data = .fields vs) → PS (X.suite a ((a, oe) :: pn)) b (tAsg (te a cls d) (gName j)))
    (h2 : ∀ {a : Addr} {cls : Value} {dd : Option Addr} {fs : Fds} {F : Fp} {σ : St} {H : Hp} {d : D} {Q : VK}, σ[i]? = some (some (.ref a)) → XRep X.K F H n0 fs cls dd → hf fs = some d → Dom F H → (∀ v H', Same H H' → Rep X.K F H' v d → Q v H') → te a cls dd σ H Q) : SuS X n0 i b j hf := ⟨te, h1, h2⟩
inductive SuSs (X : Cx) (n0 : Str) (i : Nat) : List Stmt → List (Nat × FX) → Prop
  | nil : SuSs X n0 i [] []
  | cons {b : Stmt} {bs : List Stmt} {j : Nat} {hf : FX} {l : List (Nat × FX)} : j ≠ i → SuS X n0 i b j hf → SuSs X n0 i bs l → SuSs X n0 i (b :: bs) ((j, hf) :: l)
def appU (fs : Fds) : List (Nat × FX) → Rho → Option Rho
  | [], ρ => some ρ
  | (j, hf) :: l, ρ => match hf fs with
    | some d => appU fs l (ρ.set j (.val d))
    | none => none
section
variable {X : Cx} {W : WX} {τ : Type} [Sto τ] {n0 : Str} {i : Nat}
structure SuI (K : Fg) (n0 : Str) (i : Nat) (C : SC τ) (ρ : Rho) (t : τ) (σ : St) (H : Hp) (a : Addr) (cls : Value) (d : Option Addr) (fs : Fds) : Prop where
  at_ : At K C ρ t σ H
  no : ρ[i]? = some .no
  s : σ[i]? = some (some (.ref a))
  x : XRep K (Fo C.F ρ σ) H n0 fs cls d
def tU (K : Fg) (n0 : Str) (i : Nat) (τ : Type) [Sto τ] (l : List (Nat × FX)) (a : Addr) (cls : Value) (d : Option Addr) : TS := fun E σ H => ∃ (C : SC τ) (ρ : Rho) (t : τ) (fs : Fds), SuI K n0 i C ρ t σ H a cls d fs ∧
  ∃ ρ', appU fs l ρ = some ρ' ∧ ∀ σ' H', Stp (Fo C.F ρ σ) H (Fo C.F ρ' σ') H' → SuI K n0 i C ρ' t σ' H' a cls d fs → E.nx σ' H'
theorem XRep.step {K : Fg} {F F' : Fp} {H H' : Hp} {n : Str} {fs : Fds} {cls : Value} {dd : Option Addr} (x : XRep K F H n fs cls dd) (s : Same H H') (h : ∀ b, F' b → F b) : XRep K F' H' n fs cls dd := by
  obtain ⟨e, x⟩ := x
  refine ⟨e, ?_⟩
  cases fs with
  | none => exact x
  | some p =>
    obtain ⟨ns, ds⟩ := p
    obtain ⟨a, vs, h1, h2, h3, h4⟩ := x
    exact ⟨a, vs, h1, s a _ h2, h3, (h4.same (fun b o _ e => s b o e)).anti h⟩
theorem SuSs.run {bs : List Stmt} {l : List (Nat × FX)} (h : SuSs X n0 i bs l) {a : Addr} {oe : Obj} {cls : Value} {d : Option Addr} {pn : List (Addr × Obj)} (hz : Zc cls d oe) (hv : ∃ vs, oe.data = .fields vs) : PSs (X.suite a ((a, oe) :: pn)) bs (tU X.K n0 i τ l a cls d) := by
  induction h with
  | nil => exact PSs.imp pss_nil fun E σ H ⟨C, ρ, t, fs, S, ρ', e, q⟩ => by cases e; exact q σ H (Stp.less fun _ z => z) S
  | @cons b bs j hf l ij hb _ ih =>
    obtain ⟨te, hp, ht⟩ := hb
    refine PSs.imp (pss_cons (hp a oe cls d pn hz hv) ih) fun E σ H ⟨C, ρ, t, fs, S, ρ', e, q⟩ => ?_
    unfold appU at e
    cases eh : hf fs with
    | none => rw [eh] at e; cases e
    | some dv =>
      rw [eh] at e
      refine ht S.s S.x eh S.at_.dom fun v H1 sm r => ?_
      have smC : Sm C.F H H1 := fun b o _ e => sm b o e
      have A2 := S.at_.next smC (C.stay S.at_.st sm)
      have A3 := A2.setVal (i := j) (v := v) (d := dv) r
      have S3 : SuI X.K n0 i C (ρ.set j (.val dv)) t (σ.set j (some v)) H1 a cls d fs := ⟨A3, by rw [List.getElem?_set_ne ij]; exact S.no, by rw [List.getElem?_set_ne ij]; exact S.s, S.x.step sm fun b h => Fo.setVal h⟩
      refine ⟨C, _, t, fs, S3, ρ', e, fun σ' H' s' S' => q σ' H' (Stp.trans ⟨fun b o n e => sm b o e, fun b h => .inl (Fo.setVal h)⟩ s') S'⟩
end
theorem _root_.L2H.RoomH.units {k : Nat} {A : Around} (r : RoomH k A) : A.units + 64 < cLine := by have := r.un; omega
section
variable {τ : Type} {P : Pt τ} {ρ : Rho} {t : τ}
end
end MM

namespace MM
open PySem PySem.Spec PyProof.Rows L2
section
variable {X : Cx} {W : WX} {τ : Type} [Sto τ] {K : Fg}
end
section
variable {τ : Type} {Q : D → τ → Prop} {X : Str → Fds → τ → Prop} {ρ : Rho} {t : τ}
end
end MM

namespace MM
open PySem PySem.Spec PyProof.Rows L2
theorem nsEq_ok : ∀ {a b : List Nat}, nsEq a b = true → a = b
  | [], [], _ => rfl
  | a :: x, b :: y, h => by
    obtain ⟨h1, h2⟩ := Bool.and_eq_true_iff.mp h
    rw [Nat.eq_of_beq_eq_true h1, nsEq_ok h2]
  | [], _ :: _, h => by cases h
  | _ :: _, [], h => by cases h
theorem sEqL_ok {a b : Str} (h : sEqL a b = true) : a = b := by
  obtain ⟨⟨a⟩⟩ := a
  obtain ⟨⟨b⟩⟩ := b
  have := nsEq_ok h
  simp at this
  rw [this]
theorem linKeys_ok {own : List Str} : ∀ {ks xs : List Str}, linKeys own ks xs = true → ∀ k ∈ ks, startupNames.contains k = true ∨ own.contains k = true ∨ k ∈ xs
  | [], _, _, k, hk => by cases hk
  | k :: ks, [], h, k', hk => by
    obtain ⟨h1, h2⟩ := Bool.and_eq_true_iff.mp h
    rcases List.mem_cons.mp hk with rfl | hk
    · rcases Bool.or_eq_true_iff.mp h1 with z | z
      · exact .inl z
      · exact .inr (.inl z)
    · exact linKeys_ok h2 k' hk
  | k :: ks, x :: xs, h, k', hk => by
    rw [linKeys] at h
    cases e : sEqL k x with
    | true =>
      rw [e] at h
      rcases List.mem_cons.mp hk with rfl | hk
      · exact .inr (.inr (by rw [sEqL_ok e]; exact List.mem_cons_self))
      · rcases linKeys_ok h k' hk with z | z | z
        · exact .inl z
        · exact .inr (.inl z)
        · exact .inr (.inr (List.mem_cons_of_mem _ z))
    | false =>
      rw [e] at h
      obtain ⟨h1, h2⟩ := Bool.and_eq_true_iff.mp h
      rcases List.mem_cons.mp hk with rfl | hk
      · rcases Bool.or_eq_true_iff.mp h1 with z | z
        · exact .inl z
        · exact .inr (.inl z)
      · exact linKeys_ok h2 k' hk
theorem seenL_ok {q : Program} {loose mods : List Str} {Xt : Shared → Bool} {s : Shared} (hq : ∀ L, clssOf q L = [] ∧ dclssOf q L = [] ∧ PySem.W.wclssOf q L = []) (h : seenL q loose mods Xt s = PySem.W.openGood q []) :
    PySem.W.openSeen q loose mods Xt true s = PySem.W.openGood q loose := by
  have ek : ∀ {a}, (linKeys ((recsOf q).map (·.name)) (s.heap.nsKeys mainGlobals) loose && a) = true → ∀ c1 c2, (s.heap.keysOk (PySem.W.looseW q loose) ((recsOf q).map (·.name)) c1 c2 && a) = true := by
    intro a z c1 c2
    obtain ⟨z1, z2⟩ := Bool.and_eq_true_iff.mp z
    refine Bool.and_eq_true_iff.mpr ⟨?_, z2⟩
    unfold Heap.keysOk
    rw [List.all_eq_true]
    intro k hk
    rcases linKeys_ok z1 k hk with y | y | y
    · simp only [y, Bool.true_or]
    · simp only [y, Bool.true_or, Bool.or_true]
    · have : (PySem.W.looseW q loose).contains k = true := by
        rw [List.contains_iff_mem]
        unfold PySem.W.looseW looseD PySem.W.heldW
        simp only [List.mem_append]
        exact .inl (.inl (.inl y))
      simp only [this, Bool.true_or, Bool.or_true]
  unfold seenL at h
  rw [← HandSHeadRun.seenQ_eq] at h
  unfold PySem.W.openSeen PySem.W.openGood plainSeenE plainGoodE plainSeenD plainGoodD PySem.W.clsSeenW PySem.W.clsGoodW plainsOf at h ⊢
  simp only [(hq _).1, (hq _).2.1, (hq _).2.2, Prod.mk.injEq, if_true] at h ⊢
  obtain ⟨h1, h2, h3, h4⟩ := h
  refine ⟨h1, h2, ?_, h4⟩
  simp only [Bool.and_assoc] at h3 ⊢
  exact ek h3 _ _
open PySem.W PySem.Calls in
theorem head_anyL {r : OpenRow} {q : Program} {H : Hook} {ob : SharedT → H.α} {M : Nat} {loose : List PySem.Str} {d : DefRec} {kwd : List (PySem.Str × PySem.Expr)} (ho : ∀ s : SharedT, ob s = H.obs s.abs)
    (e : opening r.prog = plainProg r.prog.main.scope.names) (f : ∀ s, fenceModules? r.prog s = some s) (run : ∀ w, RunEqL r q H ob M loose w)
    (hq : ∀ L, clssOf q L = [] ∧ dclssOf q L = [] ∧ PySem.W.wclssOf q L = [])
    (hdef : defOf q r.name = some (d, kwd)) (hp : r.prog.theDef r.name = some (d.params, d.body, d.scope)) (hk : kwWritten? d.params.kwonlyargs d.params.kw_defaults = some kwd)
    (hwr : (!r.writes || r.records.isEmpty) = true) (k1 : r.wellSaid = true) (ok : (chainsOk q && opensWell r.prog && (frees r.toRowW && r.within.isEmpty)) = true) (hb : r.prog.bare) (hw : r.toRowW.promised)
    (call : WalkO q loose (XL q []) H.says r.toRowW d kwd fun f vs => PySem.call f vs) : r.Holds := by
  have left : LeftO r.prog q loose (fun s => xlAt q [] s && recOk r.toRowW.records s) H.obs H.val (M + 600) true :=
    HandSHeadRun.left_one (M := M) e (Nat.ble_eq_true_of_le (by omega)) f (Nat.ble_eq_true_of_le (by omega)) fun w os => by
      have z := run w os
      have eo : ob = fun s => H.obs s.abs := funext ho
      rw [eo] at z
      rw [HandSHeadRun.endQ_eq]
      obtain ⟨s, hs, hv⟩ := Option.map_eq_some_iff.mp z
      obtain ⟨l1, l2, l3⟩ : _ ∧ _ ∧ _ := by simpa only [Prod.mk.injEq] using hv
      rw [hs]
      exact congrArg some (Prod.ext l1 (Prod.ext (seenL_ok hq l2) l3))
  exact holds_open (r := r) (q := q) (loose := loose) (XP := XL q []) (YP := H.says) (d := d) (kwd := kwd) left H.of H.keeps (fun s z => xl_of s (Bool.and_eq_true_iff.mp z).1) XL.keeps hdef hp hk (fun s z => recFacts_of (Bool.and_eq_true_iff.mp z).2) hwr k1 ok hb hw call
end MM

namespace MM
open PySem PySem.Spec PyProof.Rows L2
section
variable {X : Cx} {W : WX} {τ : Type} [Sto τ] {K : Fg}
end
end MM

namespace MM
open PySem PySem.Spec PyProof.Rows L2
section
variable {X : Cx} {W : WX} {τ : Type} [Sto τ] {K : Fg}
end
structure FnG (P : Program) (w : World) (K : Fg) (mg : Str → Option Value) (base : Heap) (CX : CXT) (k : Nat) (f : Addr) (fd : FuncData) (ps : List Str) (sp : Sp) : Prop where
  len : ∀ vs H Q E, sp vs H Q E → vs.length = ps.length
  run : ∀ (A : Around) (outer : List Env) (s : Shared) (H : Hp) (args : Args) (us : List Value) (vs : List V) (Q : VK) (E : XK), Room k A → A.guards = some [] → Env0 P w K mg base A outer s H → BindsTo s fd args (ps.zip us) → Vals vs us → sp vs H Q E →
    codeAny (model P w) A (.call (.ref f) args) (CR CX outer P w H s Q E) s
theorem FnG.mono {P : Program} {w : World} {K : Fg} {mg : Str → Option Value} {base : Heap} {CX : CXT} {j k : Nat} {f : Addr} {fd : FuncData} {ps : List Str} {sp : Sp} (F : FnG P w K mg base CX j f fd ps sp) (h : j ≤ k) : FnG P w K mg base CX k f fd ps sp :=
  ⟨F.len, fun A outer s H args us vs Q E r => F.run A outer s H args us vs Q E (r.mono h)⟩
theorem fnG_of {P : Program} {w : World} {K : Fg} {mg : Str → Option Value} {base : Heap} {CX : CXT} {x qual : Str} {params : Arguments} {body : List Stmt} {scope : Scope} {dvs : List V} {kws : List (Str × V)} {f : Addr} {fd : FuncData} {N ps : List Str} {k : Nat} {sp : Sp}
    (F : FunD K x qual params body scope dvs kws f fd) (S : FnScope N ps scope) (len : ∀ vs H Q E, sp vs H Q E → vs.length = ps.length)
    (hbody : ∀ (cdv : Value) (A : Around) (outer : List Env) (s : Shared) (H : Hp) (vs : List V) (Q : VK) (E : XK), Room k (A.deeper (envOfC qual scope s.heap.objs.size f cdv)) → (A.deeper (envOfC qual scope s.heap.objs.size f cdv)).guards = some [] → sp vs H Q E →
      ∃ t, PSs (cxOf CX P w K mg base N qual scope f cdv A outer s H E) body t ∧ t { nx := fun _ H' => Q .non H', rt := Q } (L2.start N vs) H) : FnG P w K mg base CX (k + 1) f fd ps sp := by
  obtain ⟨oc, od, dV, kV, doc, pm, an, cdv, ct, osl, rfl, lk, hcd, _, _⟩ := F.ex
  refine ⟨len, fun A outer s H args us vs Q E hr hgd e0 hb r hsp => ?_⟩
  have up : ∀ b o, base.get? b = some o → s.heap.get? b = some o := fun b o e => (e0.bs b o e).1
  have KX : K.In s.heap := e0.mod.kin.keeps up
  refine codeAny_call_function hr.depth (KX _ _ lk) rfl S.co S.gen rfl (PySem.W.codeRec_of KX hcd) (hb _ _ _ _ ?_)
  refine wpAny_newFunctionEnv_cells S.kind (fun ⟨n, v⟩ hy => ?_) fun env he s1 xx => ?_
  · rcases S.par n (List.of_mem_zip hy).1 with q | q
    · exact .inl q
    · exact .inr ⟨q, PySem.W.cellsFrom_some _ _ _ (.inl q)⟩
  subst he
  refine ⟨(e0.mod.nolimit.keeps up).keeps xx.toInCall.keep, codeAny_func ?_⟩
  obtain ⟨t, ht, hq⟩ := hbody cdv A outer s H vs Q E (hr.deeper _) hgd hsp
  have I := inv_start (CX := CX) (E := E) S hr.hd e0 (len _ _ _ _ hsp) r xx
  refine wpAny_mono (ht.run [] s1 (L2.start N vs) H _ I hq) (fun fl s' hs => ?_) fun e s' hs => hs
  cases fl with
  | ret u =>
    obtain ⟨v, σ', H', J, rv, q⟩ := hs
    exact ⟨v, H', J.os, J.bare, J.base, J.hok, rv, q⟩
  | next =>
    obtain ⟨σ', H', J, q⟩ := hs
    exact ⟨V.non, H', J.os, J.bare, J.base, J.hok, rfl, q⟩
  | brk => exact hs.elim fun _ h => h.elim fun _ h => h.2.elim
  | cont => exact hs.elim fun _ h => h.elim fun _ h => h.2.elim
section
variable {X : Cx} {CX : CXT} {k : Nat} {f : Addr} {fd : FuncData} {ps : List Str} {sp : Sp} {dvs : List V} {ds : List Value} {E : St → XK} {x : Str} {q pos : Pos} {e : Expr} {es : List Expr} {t : TA}
end
structure DefG {τ : Type} [Sto τ] (P : Program) (w : World) (K : Fg) (mg : Str → Option Value) (base : Heap) (k : Nat) (x : Str) (np : Nat) (df : List D) (m : List D → τ → Res τ D) : Prop where
  ex : ∃ (fd : FuncData) (ps : List Str) (ds : List Value) (dvs : List V), FnG P w K mg base (L2.CX P w) k (He.ga K x) fd ps (spF np K m) ∧ mg x = some (.ref (He.ga K x)) ∧ PySem.W.keepIn K (.ref (He.ga K x)) = true ∧ Binds K fd ps ds ∧ Vals dvs ds ∧ (∀ F H, Reps K F H dvs df)
theorem DefG.mono {τ : Type} [Sto τ] {P : Program} {w : World} {K : Fg} {mg : Str → Option Value} {base : Heap} {j k : Nat} {x : Str} {np : Nat} {df : List D} {m : List D → τ → Res τ D} (F : DefG P w K mg base j x np df m) (h : j ≤ k) : DefG P w K mg base k x np df m := by
  obtain ⟨fd, ps, ds, dv, F, r⟩ := F.ex
  exact ⟨fd, ps, ds, dv, F.mono h, r⟩
theorem DefG.mk' {τ : Type} [Sto τ] {P : Program} {w : World} {K : Fg} {mg : Str → Option Value} {base : Heap} {x qual : Str} {params : Arguments} {body : List Stmt} {scope : Scope} {dvs : List V} {kws : List (Str × V)} {fd : FuncData} {N ps : List Str} {k : Nat} {df : List D}
    (F : FunD K x qual params body scope dvs kws (He.ga K x) fd) (hm : mg x = some (.ref (He.ga K x))) (S : FnScope N ps scope) (mb : MS τ) (hb : ∃ ds dv, Vals dv ds ∧ Binds K fd ps ds ∧ ∀ F H, Reps K F H dv df)
    (hbody : ∀ (cdv : Value) (A : Around) (outer : List Env) (s : Shared) (H : Hp) (E : XK), Room k (A.deeper (envOfC qual scope s.heap.objs.size (He.ga K x) cdv)) → (A.deeper (envOfC qual scope s.heap.objs.size (He.ga K x) cdv)).guards = some [] →
      PSs (cxOf (L2.CX P w) P w K mg base N qual scope (He.ga K x) cdv A outer s H E) body (tS K (fun cls d _ H => E cls d H) mb)) : DefG P w K mg base (k + 1) x ps.length df (runB N.length mb) := by
  obtain ⟨ds, dv, h1, h2, h3⟩ := hb
  have hpl : ps.length ≤ N.length := by have := congrArg List.length S.pre; rw [List.length_take] at this; omega
  refine ⟨fd, ps, ds, dv, fnG_of F S (fun vs H Q E ⟨C, ds, t, _, _, r, hl, _⟩ => r.length.trans hl) fun cdv A outer s H vs Q E hr hgd ⟨C, ds, t, okC, iv, r, hl, p⟩ => ⟨_, hbody cdv A outer s H E hr hgd, C, _, t, At.start okC iv r (by rw [hl]; exact hpl), ?_⟩, hm, F.kp, h2, h1, h3⟩
  unfold runB at p
  cases e : mb (ds.map Slot.val ++ List.replicate (N.length - ds.length) .no) t with
  | nx ρ' t' =>
    rw [e] at p
    exact fun σ' H' s' A' => p .non H' (fun b o n e => s'.keep b o (fun z => n (FoStart z)) e) (C.less A'.st fun _ => .inl) .non
  | rt d t' =>
    rw [e] at p
    exact fun v H' s' i r => p v H' (fun b o n e => s' b o (fun z => n (FoStart z)) e) i r
  | ex n fs ρ' t' =>
    rw [e] at p
    exact fun cls dd σ' H' s' A' x => p cls dd H' (fun b o n e => s'.keep b o (fun z => n (FoStart z)) e) (C.less A'.st fun _ => .inl) (x.anti fun _ => .inl)
  | bk ρ' t' => rw [e] at p; exact p.elim
  | ct ρ' t' => rw [e] at p; exact p.elim
  | bad => rw [e] at p; exact p.elim
section
variable {X : Cx} {W : WX} {τ : Type} [Sto τ]
end
section
variable {P : Program} {w : World} {K : Fg} {mg : Str → Option Value} {base : Heap}
end
section
variable {τ : Type} {Q : D → Prop} {d : D}
end
end MM

namespace MM
open PySem PySem.Spec PyProof.Rows L2
section
variable {X : Cx} {W : WX} {τ : Type} [Sto τ] {K : Fg}
end
end MM

namespace MM
open PySem PySem.Spec PyProof.Rows L2
section
variable {X : Cx}
end
section
variable {X : Cx} {W : WX} {τ : Type} [Sto τ]
end
section
variable {τ : Type} {P : Pt τ} {ρ : Rho} {t : τ}
end
end MM

namespace MM
open PySem PySem.Spec PyProof.Rows L2
section
variable {X : Cx} {W : WX} {τ : Type} [Sto τ] {K : Fg}
end

section
variable {X : Cx} {K : Fg}
def KnT (H : Hp) (p : Addr) (xs : List V) : Prop := ∃ o, H p = some (.frz o (.tup xs)) ∧ o.dict = none
theorem KnT.sq {H : Hp} {p : Addr} {xs : List V} (h : KnT H p xs) : SqT K H p xs := let ⟨o, e, _⟩ := h; .inl (.inr ⟨o, e⟩)
theorem KnT.rd {H : Hp} {p : Addr} {xs : List V} (h : KnT H p xs) : Rd H p (.tup xs) := let ⟨o, e, _⟩ := h; .inr ⟨o, e⟩
end
end MM

namespace MM
open PySem PySem.Spec PyProof.Rows L2
theorem KnT.same {H H' : Hp} {p : Addr} {xs : List V} (h : KnT H p xs) (s : Same H H') : KnT H' p xs := let ⟨o, e, d⟩ := h; ⟨o, s _ _ e, d⟩
section
variable {X : Cx} {W : WX} {τ : Type} [Sto τ]
end
section
variable {τ : Type} {P : Pt τ} {ρ : Rho} {t : τ}
end
end MM

namespace MM
open PySem PySem.Spec PyProof.Rows L2
section
variable {X : Cx} {W : WX} {τ : Type} [Sto τ] {K : Fg}
end
end MM

namespace MM
open PySem PySem.Spec PyProof.Rows L2
open L2H (RoomH PinOk cxH inv_startH roomH_of)
section
variable {X : Cx} {body : List Stmt} {h₀ : ExceptHandler} {hds : List ExceptHandler} {l : List (Value × Nat × (Addr → Value → Option Addr → TS))} {pos : Pos} {tb : WX → TS} {Wout : WX}
end
section
variable {X : Cx} {W : WX} {τ : Type} [Sto τ]
end
section
variable {τ : Type} {P : Pt τ} {ρ : Rho} {t : τ}
end
structure HX (X : Cx) (n0 : Str) (i : Nat) (e : Expr) (hf : FX) (te : Addr → Value → Option Addr → TE) : Prop where
  pe : ∀ (a : Addr) (oe : Obj) (cls : Value) (d : Option Addr) (pn : List (Addr × Obj)), Zc cls d oe → (∃ vs, oe.data = .fields vs) → PE (X.suite a ((a, oe) :: pn)) e (te a cls d)
  ok : TeOk X.K n0 i hf te
section
variable {X : Cx} {n0 : Str} {i : Nat}
theorem SuS.hx {e : Expr} {hf : FX} {te : Addr → Value → Option Addr → TE} {b : Stmt} {j : Nat} (h : HX X n0 i e hf te) (hp : ∀ (a : Addr) (oe : Obj) (pn : List (Addr × Obj)) (t : TE), PE (X.suite a ((a, oe) :: pn)) e t → PS (X.suite a ((a, oe) :: pn)) b (tAsg t (gName j))) : SuS X n0 i b j hf :=
  ⟨te, fun a oe cls d pn hz hv => hp a oe pn _ (h.pe a oe cls d pn hz hv), h.ok⟩
theorem dom_same {F : Fp} {H H' : Hp} (dm : Dom F H) (s : Same H H') : Dom F H' := fun b h => by
  cases e : H b with
  | none => exact absurd e (dm b h)
  | some o => rw [s b o e]; intro z; cases z
end
structure DefT (τ : Type) [Sto τ] (P : Program) (w : World) (K : Fg) (mg : Str → Option Value) (base : Heap) (p : Addr × Obj) (k : Nat) (x : Str) (np : Nat) (m : List D → τ → Res τ D) : Prop where
  ex : ∃ (fd : FuncData) (ps : List Str), FnB P w K mg base (L2.CX P w) p k (He.ga K x) fd ps (spF np K m) ∧ mg x = some (.ref (He.ga K x)) ∧ PySem.W.keepIn K (.ref (He.ga K x)) = true ∧ Binds K fd ps []
theorem DefT.mk' {τ : Type} [Sto τ] {P : Program} {w : World} {K : Fg} {mg : Str → Option Value} {base : Heap} {p : Addr × Obj} {x : Str} {params : Arguments} {body : List Stmt} {scope : Scope} {fd : FuncData} {N ps : List Str} {k : Nat}
    (F : FunD K x x params body scope [] [] (He.ga K x) fd) (g : mg x = some (.ref (He.ga K x))) (S : FnScope N ps scope) (hb : Binds K fd ps []) (mb : MS τ)
    (hbd : ∀ (cdv : Value) (A : Around) (outer : List Env) (s : Shared) (H : Hp) (E : XK), RoomH k (A.deeper (envOfC x scope s.heap.objs.size (He.ga K x) cdv)) →
      PSs (cxH (L2.CX P w) P w K mg base N x scope (He.ga K x) cdv A outer s H E p) body (tS K (fun cls d _ H => E cls d H) mb)) : DefT τ P w K mg base p (k + 1) x ps.length (runB N.length mb) := by
  have hpl : ps.length ≤ N.length := by have := congrArg List.length S.pre; rw [List.length_take] at this; omega
  refine ⟨fd, ps, fnB_of F S (fun vs H Q E ⟨C, ds, t, _, _, r, hl, _⟩ => r.length.trans hl) fun cdv A outer s H vs Q E hr ⟨C, ds, t, okC, iv, r, hl, p⟩ => ⟨_, hbd cdv A outer s H E hr, C, _, t, At.start okC iv r (by rw [hl]; exact hpl), ?_⟩, g, F.kp, hb⟩
  unfold runB at p
  cases e : mb (ds.map Slot.val ++ List.replicate (N.length - ds.length) .no) t with
  | nx ρ' t' =>
    rw [e] at p
    exact fun σ' H' s' A' => p .non H' (fun b o n e => s'.keep b o (fun z => n (FoStart z)) e) (C.less A'.st fun _ => .inl) .non
  | rt d t' =>
    rw [e] at p
    exact fun v H' s' i r => p v H' (fun b o n e => s' b o (fun z => n (FoStart z)) e) i r
  | ex n fs ρ' t' =>
    rw [e] at p
    exact fun cls dd σ' H' s' A' x => p cls dd H' (fun b o n e => s'.keep b o (fun z => n (FoStart z)) e) (C.less A'.st fun _ => .inl) (x.anti fun _ => .inl)
  | bk ρ' t' => rw [e] at p; exact p.elim
  | ct ρ' t' => rw [e] at p; exact p.elim
  | bad => rw [e] at p; exact p.elim
section
variable {X : Cx} {W : WX} {τ : Type} [Sto τ] {a dd : Addr} {oe : Obj}
theorem DefT.mono {P : Program} {w : World} {K : Fg} {mg : Str → Option Value} {base : Heap} {p : Addr × Obj} {j k : Nat} {x : Str} {np : Nat} {m : List D → τ → Res τ D} (F : DefT τ P w K mg base p j x np m) (h : j ≤ k) : DefT τ P w K mg base p k x np m := by
  obtain ⟨fd, ps, ⟨F1, F2⟩, r⟩ := F.ex
  exact ⟨fd, ps, ⟨F1, fun A outer s H args us vs Q E hr hp e0 b r' hs => F2 A outer s H args us vs Q E (hr.mono h) hp e0 b r' hs⟩, r⟩
end
section
variable {X : Cx} {n0 : Str} {i : Nat}
end
section
variable {X : Cx} {W : WX} {K : Fg} {a D0 : Addr} {oe : Obj}
end
section
variable {a : Addr} {i : Nat} {b : Bool} {ρ : Rho} {t : Unit} {Q : D → Unit → Prop} {X : Str → Fds → Unit → Prop}
end
end MM

namespace MM
open PySem PySem.Spec PyProof.Rows L2
section
variable {X : Cx} {W : WX} {τ : Type} [Sto τ] {K : Fg}
end
section
variable {τ : Type} {Q : D → τ → Prop} {X : Str → Fds → τ → Prop} {ρ : Rho} {t : τ}
end
abbrev FW := Rho → FX
def SuW (X : Cx) (n0 : Str) (i : Nat) (τ : Type) [Sto τ] (b : Stmt) (j : Nat) (hw : FW) : Prop := ∃ te : Addr → Value → Option Addr → TE,
  (∀ (a : Addr) (oe : Obj) (cls : Value) (d : Option Addr) (pn : List (Addr × Obj)), Zc cls d oe → (∃ vs, oe.data = .fields vs) → PS (X.suite a ((a, oe) :: pn)) b (tAsg (te a cls d) (gName j))) ∧
  ∀ {C : SC τ} {ρ : Rho} {t : τ} {σ : L2.St} {H : Hp} {a : Addr} {cls : Value} {dd : Option Addr} {fs : Fds} {d : D} {Q : VK}, SuI X.K n0 i C ρ t σ H a cls dd fs → hw ρ fs = some d → (∀ v H', Same H H' → Rep X.K (Fo C.F ρ σ) H' v d → Q v H') → te a cls dd σ H Q
inductive SuWs (X : Cx) (n0 : Str) (i : Nat) (τ : Type) [Sto τ] : List Stmt → List (Nat × FW) → Prop
  | nil : SuWs X n0 i τ [] []
  | cons {b : Stmt} {bs : List Stmt} {j : Nat} {hw : FW} {l : List (Nat × FW)} : j ≠ i → SuW X n0 i τ b j hw → SuWs X n0 i τ bs l → SuWs X n0 i τ (b :: bs) ((j, hw) :: l)
def appW (fs : Fds) : List (Nat × FW) → Rho → Option Rho
  | [], ρ => some ρ
  | (j, hw) :: l, ρ => match hw ρ fs with
    | some d => appW fs l (ρ.set j (.val d))
    | none => none
section
variable {X : Cx} {W : WX} {τ : Type} [Sto τ] {n0 : Str} {i : Nat}
theorem SuW.hx {e : Expr} {hf : FX} {te : Addr → Value → Option Addr → TE} {b : Stmt} {j : Nat} (h : HX X n0 i e hf te) (hp : ∀ (a : Addr) (oe : Obj) (pn : List (Addr × Obj)) (t : TE), PE (X.suite a ((a, oe) :: pn)) e t → PS (X.suite a ((a, oe) :: pn)) b (tAsg t (gName j))) : SuW X n0 i τ b j (fun _ => hf) :=
  ⟨te, fun a oe cls d pn hz hv => hp a oe pn _ (h.pe a oe cls d pn hz hv), fun S e q => h.ok S.s S.x e S.at_.dom q⟩
def fwAdd (k : Nat) (hf : FX) : FW := fun ρ fs => match ρ[k]? with
  | some (.val d) => (hf fs).bind fun e => dAdd d e
  | _ => none
theorem SuW.add {e1 e2 : Expr} {hf : FX} {te : Addr → Value → Option Addr → TE} {b : Stmt} {j k : Nat} {p : Pos} (h1 : ∀ (a : Addr) (oe : Obj) (pn : List (Addr × Obj)), PE (X.suite a ((a, oe) :: pn)) e1 (tVar k)) (h : HX X n0 i e2 hf te)
    (hp : ∀ (a : Addr) (oe : Obj) (pn : List (Addr × Obj)) (t : TE), PE (X.suite a ((a, oe) :: pn)) (.BinOp e1 .Add e2 p) t → PS (X.suite a ((a, oe) :: pn)) b (tAsg t (gName j))) : SuW X n0 i τ b j (fwAdd k hf) :=
  ⟨fun a cls d => tOp (rAdd4 X.K) (tVar k) (te a cls d), fun a oe cls d pn hz hv => hp a oe pn _ (pe_op op_add4 (h1 a oe pn) (h.pe a oe cls d pn hz hv)), fun {C ρ t σ H a cls dd fs d Q} S e q => by
    unfold fwAdd at e
    split at e
    · rename_i dk ek
      obtain ⟨d2, h2, h3⟩ := Option.bind_eq_some_iff.mp e
      obtain ⟨v, hv, rv⟩ := S.at_.val k dk ek
      refine ⟨v, hv, ?_⟩
      refine h.ok S.s S.x h2 S.at_.dom fun v2 H2 s2 r2 => ?_
      exact o_add (Fo C.F ρ σ) (Fo C.F ρ σ) H2 v v2 dk d2 d Q (dom_same S.at_.dom s2) (.of (rv.same (Sm.of_same s2))) (.of r2) h3 fun v' H' sm rr => q v' H' (fun b o e => sm b o (s2 b o e)) rr
    · cases e⟩
def tW2 (K : Fg) (n0 : Str) (i : Nat) (τ : Type) [Sto τ] (l : List (Nat × FW)) (a : Addr) (cls : Value) (d : Option Addr) : TS := fun E σ H => ∃ (C : SC τ) (ρ : Rho) (t : τ) (fs : Fds), SuI K n0 i C ρ t σ H a cls d fs ∧
  ∃ ρ', appW fs l ρ = some ρ' ∧ ∀ σ' H', Stp (Fo C.F ρ σ) H (Fo C.F ρ' σ') H' → SuI K n0 i C ρ' t σ' H' a cls d fs → E.nx σ' H'
theorem SuWs.run {bs : List Stmt} {l : List (Nat × FW)} (h : SuWs X n0 i τ bs l) {a : Addr} {oe : Obj} {cls : Value} {d : Option Addr} {pn : List (Addr × Obj)} (hz : Zc cls d oe) (hv : ∃ vs, oe.data = .fields vs) : PSs (X.suite a ((a, oe) :: pn)) bs (tW2 X.K n0 i τ l a cls d) := by
  induction h with
  | nil => exact PSs.imp pss_nil fun E σ H ⟨C, ρ, t, fs, S, ρ', e, q⟩ => by cases e; exact q σ H (Stp.less fun _ z => z) S
  | @cons b bs j hw l ij hb _ ih =>
    obtain ⟨te, hp, ht⟩ := hb
    refine PSs.imp (pss_cons (hp a oe cls d pn hz hv) ih) fun E σ H ⟨C, ρ, t, fs, S, ρ', e, q⟩ => ?_
    unfold appW at e
    cases eh : hw ρ fs with
    | none => rw [eh] at e; cases e
    | some dv =>
      rw [eh] at e
      refine ht S eh fun v H1 sm r => ?_
      have smC : Sm C.F H H1 := fun b o _ e => sm b o e
      have A2 := S.at_.next smC (C.stay S.at_.st sm)
      have A3 := A2.setVal (i := j) (v := v) (d := dv) r
      have S3 : SuI X.K n0 i C (ρ.set j (.val dv)) t (σ.set j (some v)) H1 a cls d fs := ⟨A3, by rw [List.getElem?_set_ne ij]; exact S.no, by rw [List.getElem?_set_ne ij]; exact S.s, S.x.step sm fun b h => Fo.setVal h⟩
      refine ⟨C, _, t, fs, S3, ρ', e, fun σ' H' s' S' => q σ' H' (Stp.trans ⟨fun b o n e => sm b o e, fun b h => .inl (Fo.setVal h)⟩ s') S'⟩
end
section
variable {τ : Type} {P : Pt τ} {ρ : Rho} {t : τ}
end
end MM

namespace MM
open PySem PySem.Spec PyProof.Rows L2
section
variable {X : Cx} {W : WX} {τ : Type} [Sto τ] {K : Fg}
end
section
variable {τ : Type} {ρ : Rho} {t : τ}
end
end MM

namespace MM
open PySem PySem.Spec PyProof.Rows L2
section
variable {X : Cx} {W : WX} {τ : Type} [Sto τ] {K : Fg}
end
section
variable {τ : Type} {ρ : Rho} {t : τ}
end
end MM

namespace MM
open PySem PySem.Spec PyProof.Rows L2
section
variable {X : Cx} {W : WX} {τ : Type} [Sto τ] {K : Fg}
end
end MM

namespace MM
open PySem PySem.Spec PyProof.Rows L2
section
variable {X : Cx} {pins : List (Addr × Obj)} {σ : L2.St} {H : Hp} {s : Shared} {xe : Value → Shared → Prop}
end
section
variable {X : Cx} {x n : Str} {c : Value} {i : Nat} {body suite : List Stmt} {b₀ : Stmt} {np pos pos' : Pos} {tb : WX → TS} {ts : Addr → Value → Option Addr → TS} {Wout : WX}
end
section
variable {X : Cx} {W : WX} {τ : Type} [Sto τ] {K : Fg}
end
section
variable {τ : Type} {P : Pt τ} {ρ : Rho} {t : τ}
end
theorem fn_mkN {τ : Type} [Sto τ] {P : Program} {w : World} {K : Fg} {mg : Str → Option Value} {base : Heap} {x qual : Str} {params : Arguments} {body : List Stmt} {scope : Scope} {dvs : List V} {kws : List (Str × V)} {f : Addr} {fd : FuncData} {N ps : List Str} {k : Nat}
    (F : FunD K x qual params body scope dvs kws f fd) (S : FnScope N ps scope) (mb : MS τ)
    (hb : ∀ (cdv : Value) (A : Around) (outer : List Env) (s : Shared) (H : Hp) (E : XK), Room k (A.deeper (envOfC qual scope s.heap.objs.size f cdv)) →
      PSs (cxOf (L2N.CX P w) P w K mg base N qual scope f cdv A outer s H E) body (tS K (fun cls d _ H => E cls d H) mb)) : FnOk P w K mg base (L2N.CX P w) (k + 1) f fd ps (spF ps.length K (runB N.length mb)) := by
  have hpl : ps.length ≤ N.length := by have := congrArg List.length S.pre; rw [List.length_take] at this; omega
  refine F.ok S (fun vs H Q E ⟨C, ds, t, _, _, r, hl, _⟩ => r.length.trans hl) fun cdv A outer s H vs Q E hr ⟨C, ds, t, okC, iv, r, hl, p⟩ => ⟨_, hb cdv A outer s H E hr, C, _, t, At.start okC iv r (by rw [hl]; exact hpl), ?_⟩
  unfold runB at p
  cases e : mb (ds.map Slot.val ++ List.replicate (N.length - ds.length) .no) t with
  | nx ρ' t' =>
    rw [e] at p
    exact fun σ' H' s' A' => p .non H' (fun b o n e => s'.keep b o (fun z => n (FoStart z)) e) (C.less A'.st fun _ => .inl) .non
  | rt d t' =>
    rw [e] at p
    exact fun v H' s' i r => p v H' (fun b o n e => s' b o (fun z => n (FoStart z)) e) i r
  | ex n fs ρ' t' =>
    rw [e] at p
    exact fun cls dd σ' H' s' A' x => p cls dd H' (fun b o n e => s'.keep b o (fun z => n (FoStart z)) e) (C.less A'.st fun _ => .inl) (x.anti fun _ => .inl)
  | bk ρ' t' => rw [e] at p; exact p.elim
  | ct ρ' t' => rw [e] at p; exact p.elim
  | bad => rw [e] at p; exact p.elim
structure DefN {τ : Type} [Sto τ] (P : Program) (w : World) (K : Fg) (mg : Str → Option Value) (base : Heap) (k : Nat) (x : Str) (np : Nat) (df : List D) (m : List D → τ → Res τ D) : Prop where
  ex : ∃ (fd : FuncData) (ps : List Str) (ds : List Value) (dvs : List V), FnOk P w K mg base (L2N.CX P w) k (He.ga K x) fd ps (spF np K m) ∧ mg x = some (.ref (He.ga K x)) ∧ PySem.W.keepIn K (.ref (He.ga K x)) = true ∧ Binds K fd ps ds ∧ Vals dvs ds ∧ (∀ F H, Reps K F H dvs df)
theorem DefN.mk' {τ : Type} [Sto τ] {P : Program} {w : World} {K : Fg} {mg : Str → Option Value} {base : Heap} {x qual : Str} {params : Arguments} {body : List Stmt} {scope : Scope} {dvs : List V} {kws : List (Str × V)} {fd : FuncData} {N ps : List Str} {k : Nat} {df : List D}
    (F : FunD K x qual params body scope dvs kws (He.ga K x) fd) (hm : mg x = some (.ref (He.ga K x))) (S : FnScope N ps scope) (mb : MS τ) (hb : ∃ ds dv, Vals dv ds ∧ Binds K fd ps ds ∧ ∀ F H, Reps K F H dv df)
    (hbody : ∀ (cdv : Value) (A : Around) (outer : List Env) (s : Shared) (H : Hp) (E : XK), Room k (A.deeper (envOfC qual scope s.heap.objs.size (He.ga K x) cdv)) →
      PSs (cxOf (L2N.CX P w) P w K mg base N qual scope (He.ga K x) cdv A outer s H E) body (tS K (fun cls d _ H => E cls d H) mb)) : DefN P w K mg base (k + 1) x ps.length df (runB N.length mb) := by
  obtain ⟨ds, dv, h1, h2, h3⟩ := hb
  exact ⟨fd, ps, ds, dv, fn_mkN F S mb hbody, hm, F.kp, h2, h1, h3⟩
theorem DefN.mono {τ : Type} [Sto τ] {P : Program} {w : World} {K : Fg} {mg : Str → Option Value} {base : Heap} {j k : Nat} {x : Str} {np : Nat} {df : List D} {m : List D → τ → Res τ D} (F : DefN P w K mg base j x np df m) (h : j ≤ k) : DefN P w K mg base k x np df m := by
  obtain ⟨fd, ps, ds, dv, F, r⟩ := F.ex
  exact ⟨fd, ps, ds, dv, F.mono h, r⟩
section
variable {X : Cx} {W : WX} {τ : Type} [Sto τ]
end
section
variable {τ : Type} {ρ : Rho} {t : τ} {X : Str → Fds → τ → Prop}
end
end MM

namespace MM
open PySem PySem.Spec PyProof.Rows L2
section
variable {X : Cx}
end
section
variable {τ : Type} [Sto τ] {K : Fg} {W : WX}
end
section
variable {X : Cx} {W : WX} {τ : Type} [Sto τ]
end
section
variable {τ : Type} {Q : List D → τ → Prop} {X : Str → Fds → τ → Prop} {ρ : Rho} {t : τ} {vs : List Nat} {g : Tgt} {tt : ME τ Bool} {mi : ME τ (List D)} {te : ME τ D}
end
end MM

namespace MM
open PySem PySem.Spec PyProof.Rows L2
section
variable {X : Cx} {K : Fg}
end
end MM

namespace MM
open PySem PySem.Spec PyProof.Rows L2
section
variable {X : Cx} {W : WX} {τ : Type} [Sto τ] {K : Fg}
end
end MM

namespace MM
open PySem PySem.Spec PyProof.Rows L2
def pickL {α : Type} (ix : List (Bool × Nat)) (a b : List α) : List α := ix.filterMap fun p => if p.1 = true then a[p.2]? else b[p.2]?
section
end
section
variable {K : Fg} {x qual : Str} {params : Arguments} {body : List Stmt} {scope : Scope} {kws : List (Str × V)} {f : Addr} {fd : FuncData} {ps : List Str}
end
structure DefQ (P : Program) (w : World) (K : Fg) (mg : Str → Option Value) (base : Heap) (k : Nat) (x : Str) (np n : Nat) (ks : List Str) (ix : List (Bool × Nat)) (dms : List D) (m : List D → Unit → Res Unit D) : Prop where
  ex : ∃ (fd : FuncData) (ps : List Str) (g : List Value → List Value → List Value) (dvs : List V), FnOk P w K mg base (L2.CX P w) k (He.ga K x) fd ps (spF np K m) ∧ mg x = some (.ref (He.ga K x)) ∧ PySem.W.keepIn K (.ref (He.ga K x)) = true ∧ KBn K fd ps n ks g (fun vs zs => vs ++ pickL ix dvs zs) ∧ ∀ F H, Reps K F H dvs dms
section
variable {X : Cx} {CX : CXT} {k n : Nat} {f : Addr} {fd : FuncData} {ps ks : List Str} {sp : Sp} {E : L2.St → XK} {x : Str} {p pos : Pos} {e : Expr} {es : List Expr} {kws : List Keyword} {t tk : TA} {g : List Value → List Value → List Value} {gV : List V → List V → List V}
end
section
variable {X : Cx} {W : WX} {τ : Type} [Sto τ] {K : Fg}
theorem DefQ.mono {P : Program} {w : World} {mg : Str → Option Value} {base : Heap} {k k' np n : Nat} {x : Str} {ks : List Str} {ix : List (Bool × Nat)} {dms : List D} {m : List D → Unit → Res Unit D} (h : DefQ P w K mg base k x np n ks ix dms m) : DefQ P w K mg base k x np n ks ix dms m := h
end
end MM

namespace MM
open PySem PySem.Spec PyProof.Rows L2
section
variable {X : Cx} {W : WX} {τ : Type} [Sto τ] {K : Fg}
end
end MM

namespace MM
open PySem PySem.Spec PyProof.Rows L2
open PyProof.V (PairsRead reads_dictOf)
def pk : D → Option PyData
  | .int i => some (.int i)
  | .str x => some (.str x)
  | _ => none
section
variable {X : Cx} {σ : St} {H : Hp} {s : Shared} {pins : List (Addr × Obj)}
end
section
variable {X : Cx} {W : WX} {τ : Type} [Sto τ] {K : Fg}
end
section
variable {Q : D → Prop} {d : D}
end
end MM

namespace PySem
open Sem (wp)
section
variable {prog : Program} {w : World} {A : Around} {E : Value → Shared → Prop} {s : Shared}
end
section
variable {prog : Program} {w : World}
end
end PySem
namespace MM
open PySem PySem.Spec PyProof.Rows L2
section
variable {X : Cx} {W : WX} {τ : Type} [Sto τ] {K : Fg}
end
end MM

namespace MM
open PySem PySem.Spec PyProof.Rows L2
section
variable {X : Cx} {τ : Type} [Sto τ] {K : Fg}
theorem PG.or {e : Expr} {t t' : TG} (h : PG X e t) (h' : PG X e t') : PG X e (fun v σ H Q => t v σ H Q ∨ t' v σ H Q) := ⟨fun pins s σ H v u Q I r q => q.elim (h.run pins s σ H v u Q I r) (h'.run pins s σ H v u Q I r)⟩
end
end MM

namespace MM
open PySem PySem.Spec PyProof.Rows L2
section
variable {X : Cx} {W : WX} {τ : Type} [Sto τ] {K : Fg}
end
end MM

namespace MM
open PySem PySem.Spec PyProof.Rows L2
section
variable {τ : Type} [Sto τ] {X : Cx} {W : WX} {K : Fg}
def retE (m : ME τ (List D)) : MSf τ := fun ρ t => m ρ t
theorem ms_retE {e : Expr} {pos : Pos} {m : ME τ (List D)} (h : PE X e (tF X.K W m)) : PS X (.Return (some e) pos) (tSf X.K W (retE m)) :=
  PS.imp (ps_ret h) fun E σ H ⟨C, ρ, t, A, p⟩ => by
    refine ⟨C, ρ, t, A, ?_⟩
    unfold retE at p
    cases e : m ρ t with
    | ok ds t' =>
      rw [e] at p
      intro v H' s i r
      obtain ⟨a, vs, rfl, n, hn, q, rp, iv⟩ := r
      have sub : ∀ b, (C.F b ∨ b = a) → (Fo C.F ρ σ b ∨ b = a) := fun b h => h.elim (fun z => .inl (.inl z)) .inr
      refine p a vs H' ⟨fun b o nb eb => s b o (fun z => nb (.inl z)) eb, fun b h => h.elim (fun z => .inl (.inl z)) fun z => .inr (by rw [z]; exact hn)⟩ (fun z => n (.inl z)) q (rp.anti sub) (C.less iv sub)
    | ex n fs t' =>
      rw [e] at p
      intro cls dd H' s i x
      exact p cls dd _ H' (Fo C.F ρ σ) (fun _ => .inl) ⟨fun b o nb eb => s b o (fun z => nb (.inl z)) eb, fun b h => .inl h⟩ i x
    | bad => rw [e] at p; exact p.elim
def eCallFS (m : List D → τ → Res τ (List D)) (a : ME τ (List D)) : ME τ (List D) := fun ρ t => (a ρ t).bind fun ds t => m ds t
theorem callFS_red {np : Nat} {m : List D → τ → Res τ (List D)} {a : ME τ (List D)} {σ : L2.St} {H : Hp} {Q : VK} (hn : ALen a np) (p : tF K W (eCallFS m a) σ H Q) :
    tCallSD (spFF np K m) [] (WE W) (tA K W a) σ H Q := by
  obtain ⟨C, ρ, t, A, p⟩ := p
  refine use okF A p fun ds t1 vs H1 e1 s1 A1 r1 p1 => ?_
  rw [List.append_nil]
  refine ⟨SC.ov C (Fo C.F ρ σ) H1 (fun _ => Fo.base) A1.dom, ds, t1, Sto.ov _ _ _ _ _ _ A1.okC, ⟨A1.st, Stp.refl _ _, fun _ _ _ _ e => e⟩, r1, hn _ _ _ _ e1, ?_⟩
  cases e : m ds t1 with
  | ok xs u =>
    rw [e] at p1
    refine fun b us H' s n q r i => p1 (.ref b) H' (SC.ov_sm i) (C.less i.1 fun _ => .inl) ⟨b, us, rfl, n, ?_, q, r, i.1⟩
    rcases s.new b (.inr rfl) with z | z
    · exact absurd z n
    · exact z
  | ex n fs u =>
    rw [e] at p1
    exact fun cls dd H' s i x => p1 cls dd H' (SC.ov_sm i) i.1 x
  | bad =>
    rw [e] at p1
    exact p1.elim
theorem mf_callFS {k np : Nat} {x : Str} {m : List D → τ → Res τ (List D)} {e : Expr} {es : List Expr} {p pos : Pos} {a : ME τ (List D)} (Df : DefF X.prog X.w X.K X.mg X.base k x np m) (hr : Room k X.A) (tk : Takes X W) (hg : Gl X x) (hn : ALen a np)
    (ha : PA X (e :: es) (tA X.K W a)) (hdb : (x == ("__debug__" : Str)) = false := by decide) (he : starEach (e :: es) X.env = (false, eval e X.env) :: starEach es X.env := by rfl) (hpl : (backTo pos (starEach es X.env)).any (·.1) = false := by rfl) :
    PE X (.Call (.Name x p) (e :: es) [] pos) (tF X.K W (eCallFS m a)) := by
  obtain ⟨fd, ps, ds, F, hm, hk, hb, hd⟩ := Df.ex
  exact PE.imp (pe_callSD F hr hg hm hk hb hd (fun σ => passAt tk σ) ha hdb he hpl) fun _ _ _ p => callFS_red hn p
end
section
variable {τ α : Type} {X : Str → Fds → τ → Prop} {ρ : Rho} {t : τ}
@[simp] theorem oE_retE {m : ME τ (List D)} {Q : List D → τ → Prop} : oE (retE m ρ t) Q X = oE (m ρ t) Q X := rfl
@[simp] theorem oE_callFS {m : List D → τ → Res τ (List D)} {a : ME τ (List D)} {Q : List D → τ → Prop} : oE (eCallFS m a ρ t) Q X = oE (a ρ t) (fun ds t => oE (m ds t) Q X) X := by
  unfold eCallFS; rw [oE_bind]
end
end MM

noncomputable section
namespace MM
open PySem PySem.Spec PyProof.Rows L2
def b_is_whole : MS Unit :=
  (sRet (eAnd2 (e1 fIsi (aCons (eVarW 0) (aCons (eC (.ty "int")) aNil))) (eNot1 (e1 fIsi (aCons (eVarW 0) (aCons (eC (.ty "bool")) aNil))))))
def m_is_whole : List D → Unit → Res Unit D := runB 1 b_is_whole
def b_divisor : MS Unit :=
  (sSeq (sPar 0 1 (e1 fAbs (aCons (eVarW 0) aNil)) (e1 fAbs (aCons (eVarW 1) aNil)))
  (sSeq (sWhile (e1 asB (e2 dGt (eVarW 1) (eC (.int 0)))) (sPar 0 1 (eVar 1) (e2 dMod (eVarW 0) (eVarW 1))))
  (sRet (eVar 0))))
def m_divisor : List D → Unit → Res Unit D := runB 2 b_divisor
def b_is_share : MS Unit :=
  (sSeq (sIf (tOr2 (tNot1 (e1 truth (e1 fIsi (aCons (eVarW 0) (aCons (eC (.ty "tuple")) aNil))))) (e1 asB (e2 dNe (e1 fLen (aCons (eVarW 0) aNil)) (eC (.int 2))))) (sRet (eC (.bl false))) sSkip)
  (sSeq (sIf (tOr2 (tNot1 (e1 truth (eCall m_is_whole [] (aCons (e2 dIx (eVarW 0) (eC (.int 0))) aNil)))) (tOr2 (tNot1 (e1 truth (eCall m_is_whole [] (aCons (e2 dIx (eVarW 0) (eC (.int 1))) aNil)))) (e1 asB (e2 dLt (e2 dIx (eVarW 0) (eC (.int 1))) (eC (.int 1)))))) (sRet (eC (.bl false))) sSkip)
  (sRet (e2 dEq (eCall m_divisor [] (aCons (e2 dIx (eVarW 0) (eC (.int 0))) (aCons (e2 dIx (eVarW 0) (eC (.int 1))) aNil))) (eC (.int 1))))))
def m_is_share : List D → Unit → Res Unit D := runB 1 b_is_share
def b_share : MS Unit :=
  (sSeq (sIf (e1 asB (e2 dEq (eVarW 1) (eC (.int 0)))) (sRaise "NoShare") sSkip)
  (sSeq (sAsg (gN 2) (eCall m_divisor [] (aCons (eVar 0) (aCons (eVar 1) aNil))))
  (sSeq (sIf (e1 asB (e2 dLt (eVarW 1) (eC (.int 0)))) (sAsg (gN 2) (e1 dNeg (eVarW 2))) sSkip)
  (sRet (eTup (aCons (e2 dDiv (eVarW 0) (eVarW 2)) (aCons (e2 dDiv (eVarW 1) (eVarW 2)) aNil)))))))
def m_share : List D → Unit → Res Unit D := runB 3 b_share
def b_plus : MS Unit :=
  (sRet (eCall m_share [] (aCons (e2 dAdd (e2 dMulI (e2 dIx (eVarW 0) (eC (.int 0))) (e2 dIx (eVarW 1) (eC (.int 1)))) (e2 dMulI (e2 dIx (eVarW 1) (eC (.int 0))) (e2 dIx (eVarW 0) (eC (.int 1))))) (aCons (e2 dMulI (e2 dIx (eVarW 0) (eC (.int 1))) (e2 dIx (eVarW 1) (eC (.int 1)))) aNil))))
def m_plus : List D → Unit → Res Unit D := runB 2 b_plus
def b_minus : MS Unit :=
  (sRet (eCall m_share [] (aCons (e2 dSub (e2 dMulI (e2 dIx (eVarW 0) (eC (.int 0))) (e2 dIx (eVarW 1) (eC (.int 1)))) (e2 dMulI (e2 dIx (eVarW 1) (eC (.int 0))) (e2 dIx (eVarW 0) (eC (.int 1))))) (aCons (e2 dMulI (e2 dIx (eVarW 0) (eC (.int 1))) (e2 dIx (eVarW 1) (eC (.int 1)))) aNil))))
def m_minus : List D → Unit → Res Unit D := runB 2 b_minus
def b_times : MS Unit :=
  (sRet (eCall m_share [] (aCons (e2 dMulI (e2 dIx (eVarW 0) (eC (.int 0))) (e2 dIx (eVarW 1) (eC (.int 0)))) (aCons (e2 dMulI (e2 dIx (eVarW 0) (eC (.int 1))) (e2 dIx (eVarW 1) (eC (.int 1)))) aNil))))
def m_times : List D → Unit → Res Unit D := runB 2 b_times
def b_over : MS Unit :=
  (sSeq (sIf (e1 asB (e2 dEq (e2 dIx (eVarW 1) (eC (.int 0))) (eC (.int 0)))) (sRaise "NoShare") sSkip)
  (sRet (eCall m_share [] (aCons (e2 dMulI (e2 dIx (eVarW 0) (eC (.int 0))) (e2 dIx (eVarW 1) (eC (.int 1)))) (aCons (e2 dMulI (e2 dIx (eVarW 0) (eC (.int 1))) (e2 dIx (eVarW 1) (eC (.int 0)))) aNil)))))
def m_over : List D → Unit → Res Unit D := runB 2 b_over
def b_order : MS Unit :=
  (sSeq (sAsg (gN 2) (e2 dMulI (e2 dIx (eVarW 0) (eC (.int 0))) (e2 dIx (eVarW 1) (eC (.int 1)))))
  (sSeq (sAsg (gN 3) (e2 dMulI (e2 dIx (eVarW 1) (eC (.int 0))) (e2 dIx (eVarW 0) (eC (.int 1)))))
  (sSeq (sIf (e1 asB (e2 dEq (eVarW 2) (eVarW 3))) (sRet (eC (.int 0))) sSkip)
  (sRet (eIf (e1 asB (e2 dLt (eVarW 2) (eVarW 3))) (e1 dNeg (eC (.int 1))) (eC (.int 1)))))))
def m_order : List D → Unit → Res Unit D := runB 4 b_order
def b_is_spot : MS Unit :=
  (sRet (eAnd2 (e1 fIsi (aCons (eVarW 0) (aCons (eC (.ty "tuple")) aNil))) (eAnd2 (e2 dEq (e1 fLen (aCons (eVarW 0) aNil)) (eC (.int 2))) (e1 fAll (aCons (eLst (eComp (e1 itD (eVar 0)) [1] (gN 1) (fun _ t => .ok true t) (eCall m_is_share [] (aCons (eVar 1) aNil)))) aNil)))))
def m_is_spot : List D → Unit → Res Unit D := runB 2 b_is_spot
def b_is_way : MS Unit :=
  (sSeq (sIf (tOr2 (tNot1 (e1 truth (e1 fIsi (aCons (eVarW 0) (aCons (eC (.ty "tuple")) aNil))))) (tOr2 (e1 asB (e2 dNe (e1 fLen (aCons (eVarW 0) aNil)) (eC (.int 2)))) (tNot1 (e1 truth (e1 fAll (aCons (eLst (eComp (e1 itD (eVar 0)) [1] (gN 1) (fun _ t => .ok true t) (eCall m_is_whole [] (aCons (eVar 1) aNil)))) aNil)))))) (sRet (eC (.bl false))) sSkip)
  (sRet (e2 dEq (eCall m_divisor [] (aCons (e2 dIx (eVarW 0) (eC (.int 0))) (aCons (e2 dIx (eVarW 0) (eC (.int 1))) aNil))) (eC (.int 1)))))
def m_is_way : List D → Unit → Res Unit D := runB 2 b_is_way
def b_way_of : MS Unit :=
  (sSeq (sAsg (gN 2) (eCall m_divisor [] (aCons (eVar 0) (aCons (eVar 1) aNil))))
  (sSeq (sIf (e1 asB (e2 dEq (eVarW 2) (eC (.int 0)))) (sRaise "NoWay") sSkip)
  (sRet (eTup (aCons (e2 dDiv (eVarW 0) (eVarW 2)) (aCons (e2 dDiv (eVarW 1) (eVarW 2)) aNil))))))
def m_way_of : List D → Unit → Res Unit D := runB 3 b_way_of
def b_along : MS Unit :=
  (sSeq (sAsg (gT (gCons (gT (gCons (gN 2) (gCons (gN 3) gNil))) (gCons (gT (gCons (gN 4) (gCons (gN 5) gNil))) gNil))) (eVar 1))
  (sRet (eCall m_share [] (aCons (e2 dAdd (e2 dMulI (e2 dMulI (e2 dIx (eVarW 0) (eC (.int 0))) (eVarW 2)) (eVarW 5)) (e2 dMulI (e2 dMulI (e2 dIx (eVarW 0) (eC (.int 1))) (eVarW 4)) (eVarW 3))) (aCons (e2 dMulI (eVarW 3) (eVarW 5)) aNil)))))
def m_along : List D → Unit → Res Unit D := runB 6 b_along
def b_spot_plus : MS Unit :=
  (sRet (e1 fTup (aCons (eLst (eComp (e1 fZipS (aCons (eVar 0) (aCons (eVar 1) aNil))) [2, 3] (gT (gCons (gN 2) (gCons (gN 3) gNil))) (fun _ t => .ok true t) (eCall m_plus [] (aCons (eVar 2) (aCons (eVar 3) aNil))))) aNil)))
def m_spot_plus : List D → Unit → Res Unit D := runB 4 b_spot_plus
def b_spot_minus : MS Unit :=
  (sRet (e1 fTup (aCons (eLst (eComp (e1 fZipS (aCons (eVar 0) (aCons (eVar 1) aNil))) [2, 3] (gT (gCons (gN 2) (gCons (gN 3) gNil))) (fun _ t => .ok true t) (eCall m_minus [] (aCons (eVar 2) (aCons (eVar 3) aNil))))) aNil)))
def m_spot_minus : List D → Unit → Res Unit D := runB 4 b_spot_minus
def b_spot_times : MS Unit :=
  (sSeq (sAsg (gT (gCons (gN 2) (gCons (gN 3) gNil))) (eVar 0))
  (sRet (eTup (aCons (eCall m_times [] (aCons (eVar 2) (aCons (eVar 1) aNil))) (aCons (eCall m_times [] (aCons (eVar 3) (aCons (eVar 1) aNil))) aNil)))))
def m_spot_times : List D → Unit → Res Unit D := runB 4 b_spot_times
def b_sides : MS Unit :=
  (sSeq (sAsg (gStar 1 2 (gCons (gN 1) (gCons (gN 2) gNil))) (eVar 0))
  (sSeq (sOwn 3 (e1 lim aNil))
  (sSeq (sFor (e1 fZipS (aCons (eVar 0) (aCons (e2 dAdd (eVarW 2) (eLst (e1 lim (aCons (eVar 1) aNil)))) aNil))) (gT (gCons (gT (gCons (gN 4) (gCons (gN 5) gNil))) (gCons (gT (gCons (gN 6) (gCons (gN 7) gNil))) gNil))) (sApp 3 (eCall m_way_of [] (aCons (e2 dSub (eVarW 7) (eVarW 5)) (aCons (e2 dSub (eVarW 4) (eVarW 6)) aNil)))))
  (sFrz 3 (sRet (e1 fTup (aCons (eVarW 3) aNil)))))))
def m_sides : List D → Unit → Res Unit D := runB 8 b_sides
def b_reach : MS Unit :=
  (sRet (e1 fMaxL (aCons (eLst (eComp (e1 itD (eVar 0)) [2, 3] (gT (gCons (gN 2) (gCons (gN 3) gNil))) (fun _ t => .ok true t) (e2 dAdd (e2 dMulI (e2 dIx (eVarW 1) (eC (.int 0))) (eVarW 2)) (e2 dMulI (e2 dIx (eVarW 1) (eC (.int 1))) (eVarW 3))))) aNil)))
def m_reach : List D → Unit → Res Unit D := runB 4 b_reach
def b_within : MS Unit :=
  (sSeq (sAsg (gN 3) (eCall m_spot_minus [] (aCons (eVar 2) (aCons (eVar 1) aNil))))
  (sRet (e1 fAll (aCons (eLst (eComp (e1 itD (eCall m_sides [] (aCons (eVar 0) aNil))) [4] (gN 4) (fun _ t => .ok true t) (e2 dLt (eCall m_order [] (aCons (eCall m_along [] (aCons (eVar 4) (aCons (eVar 3) aNil))) (aCons (eTup (aCons (eCall m_reach [] (aCons (eVar 0) (aCons (eVar 4) aNil))) (aCons (eC (.int 1)) aNil))) aNil))) (eC (.int 0))))) aNil))))
def m_within : List D → Unit → Res Unit D := runB 5 b_within
def b_turned_way : MS Unit :=
  (sRet (eTup (aCons (e1 dNeg (e2 dIx (eVarW 0) (eC (.int 0)))) (aCons (e1 dNeg (e2 dIx (eVarW 0) (eC (.int 1)))) aNil))))
def m_turned_way : List D → Unit → Res Unit D := runB 1 b_turned_way
def b_pair_ways : MS Unit :=
  (sSeq (sOwnD 2 (eDComp putTK true (e1 itD (eCall m_sides [] (aCons (e2 dIx (eVarW 0) (eC (.int 1))) aNil))) [3] (gN 3) (fun _ t => .ok true t) (eVar 3) (eC (.bl true))))
  (sSeq (sFor (e1 itD (eCall m_sides [] (aCons (e2 dIx (eVarW 1) (eC (.int 1))) aNil))) (gN 3) (sPutD 2 (eC (.bl true)) (eCall m_turned_way [] (aCons (eVar 3) aNil))))
  (sFrz 2 (sRet (e1 fTup (aCons (eLst (e1 fSortD (aCons (eLst (e1 fLstX (aCons (eVarW 2) aNil))) aNil))) aNil))))))
def m_pair_ways : List D → Unit → Res Unit D := runB 4 b_pair_ways
def b_rate : MS Unit :=
  (sRet (eCall m_along [] (aCons (eVar 2) (aCons (eCall m_spot_minus [] (aCons (e2 dIx (eVarW 1) (eC (.int 5))) (aCons (e2 dIx (eVarW 0) (eC (.int 5))) aNil))) aNil))))
def m_rate : List D → Unit → Res Unit D := runB 3 b_rate
def b_gap : MS Unit :=
  (sSeq (sAsg (gN 4) (eCall m_along [] (aCons (eVar 2) (aCons (eCall m_spot_minus [] (aCons (e2 dIx (eVarW 1) (eC (.int 4))) (aCons (e2 dIx (eVarW 0) (eC (.int 4))) aNil))) aNil))))
  (sSeq (sAsg (gN 5) (e2 dAdd (eCall m_reach [] (aCons (e2 dIx (eVarW 0) (eC (.int 1))) (aCons (eVar 2) aNil))) (eCall m_reach [] (aCons (e2 dIx (eVarW 1) (eC (.int 1))) (aCons (eCall m_turned_way [] (aCons (eVar 2) aNil)) aNil)))))
  (sRet (eCall m_plus [] (aCons (eCall m_minus [] (aCons (eVar 4) (aCons (eTup (aCons (eVar 5) (aCons (eC (.int 1)) aNil))) aNil))) (aCons (eCall m_times [] (aCons (eCall m_rate [] (aCons (eVar 0) (aCons (eVar 1) (aCons (eVar 2) aNil)))) (aCons (eVar 3) aNil))) aNil))))))
def m_gap : List D → Unit → Res Unit D := runB 6 b_gap
def b_place_after : MS Unit :=
  (sRet (eCall m_spot_plus [] (aCons (e2 dIx (eVarW 0) (eC (.int 4))) (aCons (eCall m_spot_times [] (aCons (e2 dIx (eVarW 0) (eC (.int 5))) (aCons (eVar 1) aNil))) aNil))))
def m_place_after : List D → Unit → Res Unit D := runB 2 b_place_after
def b_corners_after : MS Unit :=
  (sSeq (sAsg (gN 2) (eCall m_place_after [] (aCons (eVar 0) (aCons (eVar 1) aNil))))
  (sRet (eLst (eComp (e1 itD (e2 dIx (eVarW 0) (eC (.int 1)))) [3, 4] (gT (gCons (gN 3) (gCons (gN 4) gNil))) (fun _ t => .ok true t) (eCall m_spot_plus [] (aCons (eVar 2) (aCons (eTup (aCons (eTup (aCons (eVar 3) (aCons (eC (.int 1)) aNil))) (aCons (eTup (aCons (eVar 4) (aCons (eC (.int 1)) aNil))) aNil))) aNil)))))))
def m_corners_after : List D → Unit → Res Unit D := runB 5 b_corners_after
def b_crossing : MS Unit :=
  (sSeq (sAsg (gN 4) (eCall m_along [] (aCons (eVar 0) (aCons (eVar 2) aNil))))
  (sSeq (sAsg (gN 5) (eCall m_over [] (aCons (eCall m_minus [] (aCons (eVar 1) (aCons (eVar 4) aNil))) (aCons (eCall m_minus [] (aCons (eCall m_along [] (aCons (eVar 0) (aCons (eVar 3) aNil))) (aCons (eVar 4) aNil))) aNil))))
  (sRet (eCall m_spot_plus [] (aCons (eVar 2) (aCons (eCall m_spot_times [] (aCons (eCall m_spot_minus [] (aCons (eVar 3) (aCons (eVar 2) aNil))) (aCons (eVar 5) aNil))) aNil))))))
def m_crossing : List D → Unit → Res Unit D := runB 6 b_crossing
def b_cut_by : MS Unit :=
  (sSeq (sOwn 3 (e1 lim aNil))
  (sSeq (sFor (e1 fEnum2 (aCons (eVar 0) aNil)) (gT (gCons (gN 4) (gCons (gN 5) gNil))) (sSeq (sAsg (gN 6) (e2 dIx (eVarW 0) (e2 dSub (eVarW 4) (eC (.int 1)))))
  (sSeq (sAsg (gN 7) (e2 dLe (eCall m_order [] (aCons (eCall m_along [] (aCons (eVar 1) (aCons (eVar 5) aNil))) (aCons (eVar 2) aNil))) (eC (.int 0))))
  (sSeq (sAsg (gN 8) (e2 dLe (eCall m_order [] (aCons (eCall m_along [] (aCons (eVar 1) (aCons (eVar 6) aNil))) (aCons (eVar 2) aNil))) (eC (.int 0))))
  (sSeq (sIf (e1 asB (e2 dNe (eVarW 7) (eVarW 8))) (sApp 3 (eCall m_crossing [] (aCons (eVar 1) (aCons (eVar 2) (aCons (eVar 6) (aCons (eVar 5) aNil)))))) sSkip)
  (sIf (e1 truth (eVarW 7)) (sApp 3 (eVar 5)) sSkip))))))
  (sFrz 3 (sRet (eVar 3)))))
def m_cut_by : List D → Unit → Res Unit D := runB 9 b_cut_by
def b_common_spot : MS Unit :=
  (sSeq (sAsg (gN 3) (eCall m_corners_after [] (aCons (eVar 0) (aCons (eVar 2) aNil))))
  (sSeq (sAsg (gN 4) (eCall m_place_after [] (aCons (eVar 1) (aCons (eVar 2) aNil))))
  (sSeq (sFor (e1 itD (eCall m_sides [] (aCons (e2 dIx (eVarW 1) (eC (.int 1))) aNil))) (gN 5) (sAsg (gN 3) (eCall m_cut_by [] (aCons (eVar 3) (aCons (eVar 5) (aCons (eCall m_plus [] (aCons (eTup (aCons (eCall m_reach [] (aCons (e2 dIx (eVarW 1) (eC (.int 1))) (aCons (eVar 5) aNil))) (aCons (eC (.int 1)) aNil))) (aCons (eCall m_along [] (aCons (eVar 5) (aCons (eVar 4) aNil))) aNil))) aNil))))))
  (sSeq (sAsg (gN 6) (eC (.tup [(.tup [(.int 0), (.int 1)]), (.tup [(.int 0), (.int 1)])])))
  (sSeq (sFor (e1 itD (eVar 3)) (gN 7) (sAsg (gN 6) (eCall m_spot_plus [] (aCons (eVar 6) (aCons (eVar 7) aNil)))))
  (sRet (eCall m_spot_times [] (aCons (eVar 6) (aCons (eTup (aCons (eC (.int 1)) (aCons (e1 fLen (aCons (eVarW 3) aNil)) aNil))) aNil)))))))))
def m_common_spot : List D → Unit → Res Unit D := runB 8 b_common_spot
def b_apart : MS Unit :=
  (sSeq (sFor (e1 itD (eCall m_pair_ways [] (aCons (eVar 0) (aCons (eVar 1) aNil)))) (gN 3) (sIf (e1 asB (e2 dGe (e2 dIx (eCall m_gap [] (aCons (eVar 0) (aCons (eVar 1) (aCons (eVar 3) (aCons (eVar 2) aNil))))) (eC (.int 0))) (eC (.int 0)))) (sRet (eTup (aCons (eC (.str "apart")) (aCons (eVar 3) aNil)))) sSkip))
  (sRet (eTup (aCons (eC (.str "over")) (aCons (eCall m_common_spot [] (aCons (eVar 0) (aCons (eVar 1) (aCons (eVar 2) aNil)))) aNil)))))
def m_apart : List D → Unit → Res Unit D := runB 4 b_apart
def b_apart_held : MS Unit :=
  (sSeq (sIf (tOr2 (tNot1 (e1 truth (e1 fIsi (aCons (eVarW 2) (aCons (eC (.ty "tuple")) aNil))))) (e1 asB (e2 dNe (e1 fLen (aCons (eVarW 2) aNil)) (eC (.int 2))))) (sRet (eC (.bl false))) sSkip)
  (sSeq (sIf (tAnd2 (e1 asB (e2 dEq (e2 dIx (eVarW 2) (eC (.int 0))) (eC (.str "apart")))) (e1 truth (eCall m_is_way [] (aCons (e2 dIx (eVarW 2) (eC (.int 1))) aNil)))) (sRet (e2 dGe (e2 dIx (eCall m_gap [] (aCons (eVar 0) (aCons (eVar 1) (aCons (e2 dIx (eVarW 2) (eC (.int 1))) (aCons (eVar 3) aNil))))) (eC (.int 0))) (eC (.int 0)))) sSkip)
  (sSeq (sIf (tAnd2 (e1 asB (e2 dEq (e2 dIx (eVarW 2) (eC (.int 0))) (eC (.str "over")))) (e1 truth (eCall m_is_spot [] (aCons (e2 dIx (eVarW 2) (eC (.int 1))) aNil)))) (sSeq (sAsg (gN 4) (eCall m_within [] (aCons (e2 dIx (eVarW 0) (eC (.int 1))) (aCons (eCall m_place_after [] (aCons (eVar 0) (aCons (eVar 3) aNil))) (aCons (e2 dIx (eVarW 2) (eC (.int 1))) aNil)))))
  (sRet (eAnd2 (eVar 4) (eCall m_within [] (aCons (e2 dIx (eVarW 1) (eC (.int 1))) (aCons (eCall m_place_after [] (aCons (eVar 1) (aCons (eVar 3) aNil))) (aCons (e2 dIx (eVarW 2) (eC (.int 1))) aNil))))))) sSkip)
  (sRet (eC (.bl false))))))
def m_apart_held : List D → Unit → Res Unit D := runB 5 b_apart_held
def b__law_cell : MS Unit :=
  (sSeq (sIf (e1 asB (e2 dEq (e1 fLen (aCons (eVarW 0) aNil)) (eC (.int 0)))) (sRet (e2 dAdd (e2 dMulI (eC (.int 7)) (eVarW 1)) (eC (.int 3)))) sSkip)
  (sRet (e1 fAbs (aCons (e2 dIx (eVarW 0) (e2 dMod (eVarW 1) (e1 fLen (aCons (eVarW 0) aNil)))) aNil))))
def m__law_cell : List D → Unit → Res Unit D := runB 2 b__law_cell
def b__law_deck : MSd :=
  (seqD (sAsg (gN 1) (eLst (e1 fLst (aCons (eLst (e3 dCutS (eVarW 0) oNone (oSome (eC (.int 63))))) aNil))))
  (retD 1 (eComp (e1 itD (eVar 1)) [2] (gN 2) (e1 asB (e2 dGe (e1 fAbs (aCons (eVarW 2) aNil)) (e2 dPow (eC (.int 10)) (eC (.int 18))))) (e1 fAbs (aCons (eVarW 2) aNil)))))
def m__law_deck : List D → Option (D × List Int) := runD 3 b__law_deck
def b__law_take : MS Dk :=
  (sSeq (sWhile (e1 asB (e2 dLt (eDk 0 2) (eDkLen 0))) (sSeq (sAsg (gN 2) (eDkAt 0))
  (sSeq (sIf (e1 asB (e2 dGt (eVarW 2) (eC (.int 0)))) (sSeq (sDkBig 0 (e2 dDiv (eVarW 2) (eVarW 1)))
  (sRet (e2 dMod (eVarW 2) (eVarW 1)))) sSkip)
  (sDkSet 0 2 (e2 dAdd (eDk 0 2) (eC (.int 1)))))))
  (sSeq (sDkSet 0 3 (e2 dAdd (eDk 0 3) (eC (.int 1))))
  (sSeq (sAsg (gN 3) (e2 dAdd (e2 dMulI (e2 dAdd (e2 dMod (eCall m__law_cell [] (aCons (eDk 0 0) (aCons (eDk 0 3) aNil))) (eC (.int 1000003))) (eC (.int 5))) (e2 dAdd (eDk 0 3) (eC (.int 2)))) (e2 dMulI (eC (.int 7919)) (eDk 0 3))))
  (sRet (e2 dMod (e2 dDiv (e2 dMod (e2 dPow (eVarW 3) (eC (.int 5))) (eC (.int 2147483647))) (eC (.int 13))) (eVarW 1))))))
def m__law_take : List D → Dk → Res Dk D := runB 4 b__law_take
def b__law_long : MS Dk :=
  (sSeq (sAsg (gN 2) (eC (.int 0)))
  (sSeq (sFor (e1 fRng1 (aCons (eVarW 1) aNil)) (gN 3) (sAsg (gN 2) (e2 dAdd (e2 dMulI (eVarW 2) (eC (.int 1000))) (eCallS m__law_take [] (aCons (eVar 0) (aCons (eC (.int 1000)) aNil))))))
  (sRet (eVar 2))))
def m__law_long : List D → Dk → Res Dk D := runB 4 b__law_long
def b__law_gcd : MS Unit :=
  (sSeq (sAsg (gN 0) (e1 fAbs (aCons (eVarW 0) aNil)))
  (sSeq (sAsg (gN 1) (e1 fAbs (aCons (eVarW 1) aNil)))
  (sSeq (sWhile (e1 asB (e2 dGt (eVarW 1) (eC (.int 0)))) (sSeq (sAsg (gN 2) (e2 dMod (eVarW 0) (eVarW 1)))
  (sSeq (sAsg (gN 0) (eVar 1))
  (sAsg (gN 1) (eVar 2)))))
  (sRet (eVar 0)))))
def m__law_gcd : List D → Unit → Res Unit D := runB 3 b__law_gcd
def b__law_share : MS Unit :=
  (sSeq (sAsg (gN 2) (eCall m__law_gcd [] (aCons (eVar 0) (aCons (eVar 1) aNil))))
  (sRet (eTup (aCons (e2 dDiv (eVarW 0) (eVarW 2)) (aCons (e2 dDiv (eVarW 1) (eVarW 2)) aNil)))))
def m__law_share : List D → Unit → Res Unit D := runB 3 b__law_share
def b__law_plus : MS Unit :=
  (sRet (eTup (aCons (e2 dAdd (e2 dMulI (e2 dIx (eVarW 0) (eC (.int 0))) (e2 dIx (eVarW 1) (eC (.int 1)))) (e2 dMulI (e2 dIx (eVarW 1) (eC (.int 0))) (e2 dIx (eVarW 0) (eC (.int 1))))) (aCons (e2 dMulI (e2 dIx (eVarW 0) (eC (.int 1))) (e2 dIx (eVarW 1) (eC (.int 1)))) aNil))))
def m__law_plus : List D → Unit → Res Unit D := runB 2 b__law_plus
def b__law_times : MS Unit :=
  (sRet (eTup (aCons (e2 dMulI (e2 dIx (eVarW 0) (eC (.int 0))) (e2 dIx (eVarW 1) (eC (.int 0)))) (aCons (e2 dMulI (e2 dIx (eVarW 0) (eC (.int 1))) (e2 dIx (eVarW 1) (eC (.int 1)))) aNil))))
def m__law_times : List D → Unit → Res Unit D := runB 2 b__law_times
def b__law_spot : MS Unit :=
  (sRet (eTup (aCons (eCall m__law_share [] (aCons (e2 dIx (e2 dIx (eVarW 0) (eC (.int 0))) (eC (.int 0))) (aCons (e2 dIx (e2 dIx (eVarW 0) (eC (.int 0))) (eC (.int 1))) aNil))) (aCons (eCall m__law_share [] (aCons (e2 dIx (e2 dIx (eVarW 0) (eC (.int 1))) (eC (.int 0))) (aCons (e2 dIx (e2 dIx (eVarW 0) (eC (.int 1))) (eC (.int 1))) aNil))) aNil))))
def m__law_spot : List D → Unit → Res Unit D := runB 1 b__law_spot
def b__law_spot_plus : MS Unit :=
  (sRet (eTup (aCons (eCall m__law_plus [] (aCons (e2 dIx (eVarW 0) (eC (.int 0))) (aCons (e2 dIx (eVarW 1) (eC (.int 0))) aNil))) (aCons (eCall m__law_plus [] (aCons (e2 dIx (eVarW 0) (eC (.int 1))) (aCons (e2 dIx (eVarW 1) (eC (.int 1))) aNil))) aNil))))
def m__law_spot_plus : List D → Unit → Res Unit D := runB 2 b__law_spot_plus
def b__law_spot_times : MS Unit :=
  (sRet (eTup (aCons (eCall m__law_times [] (aCons (e2 dIx (eVarW 0) (eC (.int 0))) (aCons (eVar 1) aNil))) (aCons (eCall m__law_times [] (aCons (e2 dIx (eVarW 0) (eC (.int 1))) (aCons (eVar 1) aNil))) aNil))))
def m__law_spot_times : List D → Unit → Res Unit D := runB 2 b__law_spot_times
def b__law_left : MS Unit :=
  (sRet (e2 dSub (e2 dMulI (e2 dSub (e2 dIx (eVarW 1) (eC (.int 0))) (e2 dIx (eVarW 0) (eC (.int 0)))) (e2 dSub (e2 dIx (eVarW 2) (eC (.int 1))) (e2 dIx (eVarW 0) (eC (.int 1))))) (e2 dMulI (e2 dSub (e2 dIx (eVarW 1) (eC (.int 1))) (e2 dIx (eVarW 0) (eC (.int 1)))) (e2 dSub (e2 dIx (eVarW 2) (eC (.int 0))) (e2 dIx (eVarW 0) (eC (.int 0)))))))
def m__law_left : List D → Unit → Res Unit D := runB 3 b__law_left
def b__law_half : MS Unit :=
  (sSeq (sAsg (gN 1) (eLst (e1 lim aNil)))
  (sSeq (sFor (e1 itD (eVar 0)) (gN 2) (sSeq (sWhile (tAnd2 (e1 asB (e2 dGt (e1 fLen (aCons (eVarW 1) aNil)) (eC (.int 1)))) (e1 asB (e2 dLe (eCall m__law_left [] (aCons (e2 dIx (eVarW 1) (e1 dNeg (eC (.int 2)))) (aCons (e2 dIx (eVarW 1) (e1 dNeg (eC (.int 1)))) (aCons (eVar 2) aNil)))) (eC (.int 0))))) (sAsg (gN 1) (e3 dCutA (eVarW 1) oNone (oSome (e1 dNeg (eC (.int 1)))))))
  (sAsg (gN 1) (e2 dAdd (eVarW 1) (eLst (e1 lim (aCons (eVar 2) aNil)))))))
  (sRet (e3 dCutA (eVarW 1) oNone (oSome (e1 dNeg (eC (.int 1))))))))
def m__law_half : List D → Unit → Res Unit D := runB 3 b__law_half
def b__law_number : MS Dk :=
  (sSeq (sIf (e1 asB (e2 dLt (eVarW 1) (eC (.int 1000)))) (sRet (e2 dSub (eCallS m__law_take [] (aCons (eVar 0) (aCons (e2 dAdd (e2 dMulI (eC (.int 2)) (eVarW 1)) (eC (.int 1))) aNil))) (eVarW 1))) sSkip)
  (sRet (e2 dSub (e2 dMod (eCallS m__law_long [] (aCons (eVar 0) (aCons (eC (.int 3)) aNil))) (e2 dAdd (e2 dMulI (eC (.int 2)) (eVarW 1)) (eC (.int 1)))) (eVarW 1))))
def m__law_number : List D → Dk → Res Dk D := runB 2 b__law_number
def b__law_eight : MS Dk :=
  (sSeq (sPar 2 3 (e2 dAdd (e2 dMulI (eC (.int 2)) (eVarW 1)) (eC (.int 1))) (e2 dAdd (e2 dMulI (eC (.int 2)) (eVarW 1)) (eC (.int 1))))
  (sSeq (sAsg (gN 4) (eLst (eComp (e1 fRng1 (aCons (eC (.int 8)) aNil)) [6] (gN 6) (fun _ t => .ok true t) (e2 dAdd (eC (.int 1)) (e2 dMod (e1 fAbs (aCons (eCallS m__law_number [] (aCons (eVar 0) (aCons (eVar 1) aNil))) aNil)) (eVarW 1))))))
  (sSeq (sAsg (gN 5) (eLst (e1 lim (aCons (eTup (aCons (eC (.int 0)) (aCons (e2 dIx (eVarW 4) (eC (.int 0))) aNil))) (aCons (eTup (aCons (e2 dIx (eVarW 4) (eC (.int 1))) (aCons (eC (.int 0)) aNil))) (aCons (eTup (aCons (e2 dSub (eVarW 2) (e2 dIx (eVarW 4) (eC (.int 2)))) (aCons (eC (.int 0)) aNil))) (aCons (eTup (aCons (eVar 2) (aCons (e2 dIx (eVarW 4) (eC (.int 3))) aNil))) aNil)))))))
  (sRet (e1 fTup (aCons (e2 dAdd (eVarW 5) (eLst (e1 lim (aCons (eTup (aCons (eVar 2) (aCons (e2 dSub (eVarW 3) (e2 dIx (eVarW 4) (eC (.int 4)))) aNil))) (aCons (eTup (aCons (e2 dSub (eVarW 2) (e2 dIx (eVarW 4) (eC (.int 5)))) (aCons (eVar 3) aNil))) (aCons (eTup (aCons (e2 dIx (eVarW 4) (eC (.int 6))) (aCons (eVar 3) aNil))) (aCons (eTup (aCons (eC (.int 0)) (aCons (e2 dSub (eVarW 3) (e2 dIx (eVarW 4) (eC (.int 7)))) aNil))) aNil))))))) aNil))))))
def m__law_eight : List D → Dk → Res Dk D := runB 7 b__law_eight
def b__law_shape : MS Dk :=
  (sSeq (sAsg (gN 2) (eCallS m__law_take [] (aCons (eVar 0) (aCons (eC (.int 4)) aNil))))
  (sSeq (sIf (e1 asB (e2 dEq (eVarW 2) (eC (.int 0)))) (sSeq (sPar 3 4 (e1 dNeg (e1 fAbs (aCons (eCallS m__law_number [] (aCons (eVar 0) (aCons (eVar 1) aNil))) aNil))) (e1 dNeg (e1 fAbs (aCons (eCallS m__law_number [] (aCons (eVar 0) (aCons (eVar 1) aNil))) aNil))))
  (sSeq (sPar 5 6 (e2 dAdd (eC (.int 1)) (e1 fAbs (aCons (eCallS m__law_number [] (aCons (eVar 0) (aCons (e2 dSub (eVarW 1) (eC (.int 1))) aNil))) aNil))) (e2 dAdd (eC (.int 1)) (e1 fAbs (aCons (eCallS m__law_number [] (aCons (eVar 0) (aCons (e2 dSub (eVarW 1) (eC (.int 1))) aNil))) aNil))))
  (sRet (eTup (aCons (eTup (aCons (eVar 3) (aCons (eVar 4) aNil))) (aCons (eTup (aCons (e2 dAdd (eVarW 3) (eVarW 5)) (aCons (eVar 4) aNil))) (aCons (eTup (aCons (e2 dAdd (eVarW 3) (eVarW 5)) (aCons (e2 dAdd (eVarW 4) (eVarW 6)) aNil))) (aCons (eTup (aCons (eVar 3) (aCons (e2 dAdd (eVarW 4) (eVarW 6)) aNil))) aNil)))))))) sSkip)
  (sSeq (sIf (e1 asB (e2 dEq (eVarW 2) (eC (.int 1)))) (sRet (eCallS m__law_eight [] (aCons (eVar 0) (aCons (e2 dDiv (eVarW 1) (eC (.int 3))) aNil)))) sSkip)
  (sSeq (sAsg (gN 7) (e2 dAdd (eC (.int 3)) (eCallS m__law_take [] (aCons (eVar 0) (aCons (eC (.int 6)) aNil)))))
  (sSeq (sAsg (gN 8) (eLst (e1 fSortD (aCons (eLst (eComp (e1 fRng1 (aCons (eVarW 7) aNil)) [10] (gN 10) (fun _ t => .ok true t) (eTup (aCons (eCallS m__law_number [] (aCons (eVar 0) (aCons (eVar 1) aNil))) (aCons (eCallS m__law_number [] (aCons (eVar 0) (aCons (eVar 1) aNil))) aNil))))) aNil))))
  (sSeq (sAsg (gN 9) (e1 fTup (aCons (e2 dAdd (eCall m__law_half [] (aCons (eVar 8) aNil)) (eCall m__law_half [] (aCons (eLst (e1 dRev (eVarW 8))) aNil))) aNil)))
  (sSeq (sIf (e1 asB (e2 dLt (e1 fLen (aCons (eVarW 9) aNil)) (eC (.int 3)))) (sRet (eTup (aCons (eTup (aCons (e1 dNeg (eC (.int 1))) (aCons (eC (.int 0)) aNil))) (aCons (eTup (aCons (eC (.int 2)) (aCons (eC (.int 0)) aNil))) (aCons (eTup (aCons (eC (.int 0)) (aCons (eC (.int 2)) aNil))) aNil))))) sSkip)
  (sRet (eVar 9)))))))))
def m__law_shape : List D → Dk → Res Dk D := runB 11 b__law_shape
def b__law_way : MS Unit :=
  (sSeq (sAsg (gN 2) (eCall m__law_gcd [] (aCons (eVar 0) (aCons (eVar 1) aNil))))
  (sRet (eTup (aCons (e2 dDiv (eVarW 0) (eVarW 2)) (aCons (e2 dDiv (eVarW 1) (eVarW 2)) aNil)))))
def m__law_way : List D → Unit → Res Unit D := runB 3 b__law_way
def b__law_ways : MSf Unit :=
  (seqF (sOwn 1 (e1 lim aNil))
  (seqF (sFor (e1 fEnum2 (aCons (eVar 0) aNil)) (gT (gCons (gN 2) (gCons (gN 3) gNil))) (sSeq (sAsg (gN 4) (e2 dIx (eVarW 0) (e2 dMod (e2 dAdd (eVarW 2) (eC (.int 1))) (e1 fLen (aCons (eVarW 0) aNil)))))
  (sApp 1 (eCall m__law_way [] (aCons (e2 dSub (e2 dIx (eVarW 4) (eC (.int 1))) (e2 dIx (eVarW 3) (eC (.int 1)))) (aCons (e2 dSub (e2 dIx (eVarW 3) (eC (.int 0))) (e2 dIx (eVarW 4) (eC (.int 0)))) aNil))))))
  (retF 1)))
def mF__law_ways : List D → Unit → Res Unit (List D) := runF 5 b__law_ways
def m__law_ways : List D → Unit → Res Unit D := asL mF__law_ways
def b__law_pair_ways : MSf Unit :=
  (seqF (sOwn 2 (eCallF mF__law_ways (aCons (e2 dIx (eVarW 0) (eC (.int 1))) aNil)))
  (seqF (sFor (e1 itD (eCall m__law_ways [] (aCons (e2 dIx (eVarW 1) (eC (.int 1))) aNil))) (gN 3) (sIf (e1 asB (e2 dNotIn (eTup (aCons (e1 dNeg (e2 dIx (eVarW 3) (eC (.int 0)))) (aCons (e1 dNeg (e2 dIx (eVarW 3) (eC (.int 1)))) aNil))) (eVarW 2))) (sApp 2 (eTup (aCons (e1 dNeg (e2 dIx (eVarW 3) (eC (.int 0)))) (aCons (e1 dNeg (e2 dIx (eVarW 3) (eC (.int 1)))) aNil)))) sSkip))
  (retE (e1 fSortD (aCons (eVarW 2) aNil)))))
def mF__law_pair_ways : List D → Unit → Res Unit (List D) := runF 4 b__law_pair_ways
def b__law_names : MS Dk :=
  (sSeq (sAsg (gN 1) (eC (.str "abcdefghijklmnopqrstuvwxyz")))
  (sSeq (sAsg (gN 2) (e1 (dJoin "") (eLst (eComp (e1 fRng1 (aCons (e2 dIx (eLst (e1 lim (aCons (eC (.int 0)) (aCons (eC (.int 1)) (aCons (eC (.int 3)) (aCons (eC (.int 11)) aNil)))))) (eCallS m__law_take [] (aCons (eVar 0) (aCons (eC (.int 4)) aNil)))) aNil)) [6] (gN 6) (fun _ t => .ok true t) (e2 dIx (eVarW 1) (eCallS m__law_take [] (aCons (eVar 0) (aCons (eC (.int 26)) aNil))))))))
  (sSeq (sAsg (gN 3) (eCallS m__law_take [] (aCons (eVar 0) (aCons (e2 dAdd (e1 fLen (aCons (eVarW 2) aNil)) (eC (.int 1))) aNil))))
  (sSeq (sAsg (gN 4) (eCallS m__law_take [] (aCons (eVar 0) (aCons (eC (.int 26)) aNil))))
  (sSeq (sAsg (gN 5) (e2 dMod (e2 dAdd (e2 dAdd (eVarW 4) (eC (.int 1))) (eCallS m__law_take [] (aCons (eVar 0) (aCons (eC (.int 25)) aNil)))) (eC (.int 26))))
  (sRet (eLst (e1 lim (aCons (e2 dAdd (e2 dAdd (e3 dCutA (eVarW 2) oNone (oSome (eVar 3))) (e2 dIx (eVarW 1) (eVarW 4))) (e3 dCutA (eVarW 2) (oSome (eVar 3)) oNone)) (aCons (e2 dAdd (e2 dAdd (e3 dCutA (eVarW 2) oNone (oSome (eVar 3))) (e2 dIx (eVarW 1) (eVarW 5))) (e3 dCutA (eVarW 2) (oSome (eVar 3)) oNone)) aNil))))))))))
def m__law_names : List D → Dk → Res Dk D := runB 7 b__law_names
def b__law_drawn : MS Dk :=
  (sSeq (sAsg (gN 2) (e2 dIx (eLst (e1 lim (aCons (eC (.int 0)) (aCons (eC (.int 2)) (aCons (eC (.int 20)) aNil))))) (eVarW 1)))
  (sSeq (sIf (e1 asB (e2 dEq (eVarW 2) (eC (.int 0)))) (sRet (eCall m__law_share [] (aCons (e2 dSub (eCallS m__law_take [] (aCons (eVar 0) (aCons (eC (.int 19)) aNil))) (eC (.int 9))) (aCons (e2 dAdd (eC (.int 1)) (e2 dMulI (eCallS m__law_take [] (aCons (eVar 0) (aCons (eC (.int 4)) aNil))) (eCallS m__law_take [] (aCons (eVar 0) (aCons (eC (.int 2)) aNil))))) aNil)))) sSkip)
  (sSeq (sAsg (gN 3) (e2 dSub (eC (.int 1)) (e2 dMulI (eC (.int 2)) (eCallS m__law_take [] (aCons (eVar 0) (aCons (eC (.int 2)) aNil))))))
  (sRet (eCall m__law_share [] (aCons (e2 dMulI (eVarW 3) (eCallS m__law_long [] (aCons (eVar 0) (aCons (eVar 2) aNil)))) (aCons (e2 dAdd (eC (.int 1)) (eCallS m__law_long [] (aCons (eVar 0) (aCons (eCallS m__law_take [] (aCons (eVar 0) (aCons (eVar 2) aNil))) aNil)))) aNil)))))))
def m__law_drawn : List D → Dk → Res Dk D := runB 4 b__law_drawn
def b__law_row : MS Dk :=
  (sSeq (sAsg (gN 5) (eCallS m__law_take [] (aCons (eVar 0) (aCons (eC (.int 6)) aNil))))
  (sSeq (sAsg (gN 6) (eCallS m__law_shape [] (aCons (eVar 0) (aCons (eVar 2) aNil))))
  (sSeq (sAsg (gN 7) (eTup (aCons (eCallS m__law_drawn [] (aCons (eVar 0) (aCons (eVar 3) aNil))) (aCons (eCallS m__law_drawn [] (aCons (eVar 0) (aCons (eVar 3) aNil))) aNil))))
  (sSeq (sIf (tAnd2 (e1 asB (e2 dEq (eVarW 5) (eC (.int 0)))) (tNot1 (e1 truth (eVarW 4)))) (sRet (eTup (aCons (eVar 1) (aCons (eVar 6) (aCons (eC (.int 0)) (aCons (eC .non) (aCons (eVar 7) (aCons (eTup (aCons (eTup (aCons (eC (.int 0)) (aCons (eC (.int 1)) aNil))) (aCons (eTup (aCons (eC (.int 0)) (aCons (eC (.int 1)) aNil))) aNil))) aNil)))))))) sSkip)
  (sSeq (sAsg (gN 8) (e2 dAdd (eC (.int 1)) (e2 dMulI (eCallS m__law_take [] (aCons (eVar 0) (aCons (eC (.int 1000)) aNil))) (e2 dAdd (eC (.int 1)) (eCallS m__law_take [] (aCons (eVar 0) (aCons (eC (.int 999)) aNil)))))))
  (sSeq (sIf (tOr2 (e1 asB (e2 dNe (eVarW 5) (eC (.int 1)))) (e1 truth (eVarW 4))) (sRet (eTup (aCons (eVar 1) (aCons (eVar 6) (aCons (eVar 8) (aCons (eC .non) (aCons (eVar 7) (aCons (eTup (aCons (eCallS m__law_drawn [] (aCons (eVar 0) (aCons (eVar 3) aNil))) (aCons (eCallS m__law_drawn [] (aCons (eVar 0) (aCons (eVar 3) aNil))) aNil))) aNil)))))))) sSkip)
  (sSeq (sPar 9 10 (e2 dAdd (eC (.int 1)) (eCallS m__law_take [] (aCons (eVar 0) (aCons (eC (.int 9)) aNil)))) (e2 dSub (eCallS m__law_take [] (aCons (eVar 0) (aCons (eC (.int 19)) aNil))) (eC (.int 9))))
  (sSeq (sAsg (gN 11) (e2 dIx (eLst (e1 lim (aCons (eCall m__law_way [] (aCons (eVar 9) (aCons (eVar 10) aNil))) (aCons (eCall m__law_way [] (aCons (eVar 10) (aCons (eVar 9) aNil))) aNil)))) (eCallS m__law_take [] (aCons (eVar 0) (aCons (eC (.int 2)) aNil)))))
  (sSeq (sAsg (gN 12) (eCall m__law_spot [] (aCons (eCall m__law_spot_times [] (aCons (eTup (aCons (eTup (aCons (e2 dIx (eVarW 11) (eC (.int 0))) (aCons (eC (.int 1)) aNil))) (aCons (eTup (aCons (e2 dIx (eVarW 11) (eC (.int 1))) (aCons (eC (.int 1)) aNil))) aNil))) (aCons (eCallS m__law_drawn [] (aCons (eVar 0) (aCons (eVar 3) aNil))) aNil))) aNil)))
  (sRet (eTup (aCons (eVar 1) (aCons (eVar 6) (aCons (eVar 8) (aCons (eVar 11) (aCons (eVar 7) (aCons (eVar 12) aNil)))))))))))))))))
def m__law_row : List D → Dk → Res Dk D := runB 13 b__law_row
def b__law_pair : MS Dk :=
  (sSeq (sPar 1 2 (eCallS m__law_take [] (aCons (eVar 0) (aCons (eC (.int 4)) aNil))) (eCallS m__law_take [] (aCons (eVar 0) (aCons (eC (.int 5)) aNil))))
  (sSeq (sAsg (gN 3) (e2 dIx (eLst (e1 lim (aCons (eC (.int 0)) (aCons (eC (.int 0)) (aCons (eC (.int 0)) (aCons (eC (.int 1)) (aCons (eC (.int 2)) aNil))))))) (eCallS m__law_take [] (aCons (eVar 0) (aCons (eC (.int 5)) aNil)))))
  (sSeq (sAsg (gN 4) (e2 dIx (eLst (e1 lim (aCons (eC (.int 5)) (aCons (eC (.int 5)) (aCons (eC (.int 30)) (aCons (eC (.int 1000000)) aNil)))))) (eCallS m__law_take [] (aCons (eVar 0) (aCons (eC (.int 4)) aNil)))))
  (sSeq (sAsg (gN 5) (eCallS m__law_names [] (aCons (eVar 0) aNil)))
  (sSeq (sAsg (gN 6) (eCallS m__law_row [] (aCons (eVar 0) (aCons (e2 dIx (eVarW 5) (eC (.int 0))) (aCons (eVar 4) (aCons (eVar 3) (aCons (eC (.bl false)) aNil)))))))
  (sSeq (sAsg (gN 7) (eCallS m__law_row [] (aCons (eVar 0) (aCons (e2 dIx (eVarW 5) (eC (.int 1))) (aCons (eVar 4) (aCons (eVar 3) (aCons (e2 dGt (eVarW 2) (eC (.int 0))) aNil)))))))
  (sSeq (sAsg (gN 8) (eCall m__law_share [] (aCons (e2 dAdd (eC (.int 1)) (eCallS m__law_take [] (aCons (eVar 0) (aCons (eC (.int 6)) aNil)))) (aCons (e2 dAdd (eC (.int 1)) (eCallS m__law_take [] (aCons (eVar 0) (aCons (eC (.int 3)) aNil)))) aNil))))
  (sSeq (sAsg (gN 9) (eCallS m__law_take [] (aCons (eVar 0) (aCons (e1 fLen (aCons (e2 dIx (eVarW 6) (eC (.int 1))) aNil)) aNil))))
  (sSeq (sPar 10 11 (e2 dIx (e2 dIx (eVarW 6) (eC (.int 1))) (eVarW 9)) (e2 dIx (e2 dIx (eVarW 6) (eC (.int 1))) (e2 dMod (e2 dAdd (eVarW 9) (eC (.int 1))) (e1 fLen (aCons (e2 dIx (eVarW 6) (eC (.int 1))) aNil)))))
  (sSeq (sAsg (gN 12) (eTup (aCons (eTup (aCons (e2 dSub (e2 dIx (eVarW 11) (eC (.int 0))) (e2 dIx (eVarW 10) (eC (.int 0)))) (aCons (eC (.int 1)) aNil))) (aCons (eTup (aCons (e2 dSub (e2 dIx (eVarW 11) (eC (.int 1))) (e2 dIx (eVarW 10) (eC (.int 1)))) (aCons (eC (.int 1)) aNil))) aNil))))
  (sSeq (sAsg (gN 13) (e2 dIx (e2 dIx (eVarW 7) (eC (.int 1))) (eCallS m__law_take [] (aCons (eVar 0) (aCons (e1 fLen (aCons (e2 dIx (eVarW 7) (eC (.int 1))) aNil)) aNil)))))
  (sSeq (sAsg (gN 14) (e2 dIx (eLst (e1 lim (aCons (eTup (aCons (eC (.int 0)) (aCons (eC (.int 1)) aNil))) (aCons (eTup (aCons (eC (.int 0)) (aCons (eC (.int 1)) aNil))) (aCons (eTup (aCons (eC (.int 1)) (aCons (eC (.int 2)) aNil))) (aCons (eTup (aCons (eC (.int 1)) (aCons (eC (.int 3)) aNil))) aNil)))))) (eCallS m__law_take [] (aCons (eVar 0) (aCons (eC (.int 4)) aNil)))))
  (sSeq (sAsg (gN 15) (eCall m__law_spot_plus [] (aCons (e2 dIx (eVarW 6) (eC (.int 4))) (aCons (eTup (aCons (eTup (aCons (e2 dSub (e2 dIx (eVarW 10) (eC (.int 0))) (e2 dIx (eVarW 13) (eC (.int 0)))) (aCons (eC (.int 1)) aNil))) (aCons (eTup (aCons (e2 dSub (e2 dIx (eVarW 10) (eC (.int 1))) (e2 dIx (eVarW 13) (eC (.int 1)))) (aCons (eC (.int 1)) aNil))) aNil))) aNil))))
  (sSeq (sAsg (gN 15) (eCall m__law_spot_plus [] (aCons (eVar 15) (aCons (eCall m__law_spot_times [] (aCons (eVar 12) (aCons (eVar 14) aNil))) aNil))))
  (sSeq (sPar 16 17 (e2 dIx (eVarW 7) (eC (.int 4))) (e2 dIx (eVarW 7) (eC (.int 5))))
  (sSeq (sIf (e1 asB (e2 dGt (eVarW 1) (eC (.int 1)))) (sSeq (sAsg (gN 18) (eLst (e1 lim (aCons (eTup (aCons (eC (.int 0)) (aCons (eC (.int 1)) aNil))) (aCons (eTup (aCons (eC (.int 0)) (aCons (eC (.int 1)) aNil))) (aCons (eTup (aCons (eC (.int 1)) (aCons (eC (.int 7)) aNil))) (aCons (eTup (aCons (e1 dNeg (eC (.int 1))) (aCons (eC (.int 7)) aNil))) aNil)))))))
  (sAsg (gN 16) (eCall m__law_spot [] (aCons (eCall m__law_spot_plus [] (aCons (eVar 15) (aCons (eTup (aCons (e2 dIx (eVarW 18) (eCallS m__law_take [] (aCons (eVar 0) (aCons (eC (.int 4)) aNil)))) (aCons (e2 dIx (eVarW 18) (eCallS m__law_take [] (aCons (eVar 0) (aCons (eC (.int 4)) aNil)))) aNil))) aNil))) aNil)))) sSkip)
  (sSeq (sIf (e1 asB (e2 dEq (eVarW 2) (eC (.int 1)))) (sAsg (gN 17) (e2 dIx (eVarW 6) (eC (.int 5)))) sSkip)
  (sSeq (sIf (e1 asB (e2 dEq (eVarW 2) (eC (.int 2)))) (sAsg (gN 17) (eCall m__law_spot [] (aCons (eCall m__law_spot_plus [] (aCons (e2 dIx (eVarW 6) (eC (.int 5))) (aCons (eCall m__law_spot_times [] (aCons (eVar 12) (aCons (eTup (aCons (e2 dSub (eCallS m__law_take [] (aCons (eVar 0) (aCons (eC (.int 9)) aNil))) (eC (.int 4))) (aCons (eC (.int 3)) aNil))) aNil))) aNil))) aNil))) sSkip)
  (sSeq (sIf (e1 asB (e2 dGt (eVarW 2) (eC (.int 2)))) (sSeq (sAsg (gN 19) (eCall m__law_spot_plus [] (aCons (eVar 15) (aCons (eCall m__law_spot_times [] (aCons (eVar 16) (aCons (eTup (aCons (e1 dNeg (eC (.int 1))) (aCons (eC (.int 1)) aNil))) aNil))) aNil))))
  (sAsg (gN 17) (eCall m__law_spot [] (aCons (eCall m__law_spot_plus [] (aCons (e2 dIx (eVarW 6) (eC (.int 5))) (aCons (eCall m__law_spot_times [] (aCons (eVar 19) (aCons (eTup (aCons (e2 dIx (eVarW 8) (eC (.int 1))) (aCons (e2 dIx (eVarW 8) (eC (.int 0))) aNil))) aNil))) aNil))) aNil)))) sSkip)
  (sRet (eTup (aCons (eVar 6) (aCons (e2 dAdd (e3 dCutA (eVarW 7) oNone (oSome (eC (.int 4)))) (eTup (aCons (eVar 16) (aCons (eVar 17) aNil)))) (aCons (eVar 8) aNil))))))))))))))))))))))))
def m__law_pair : List D → Dk → Res Dk D := runB 20 b__law_pair
def b__law_corner : MS Unit :=
  (sSeq (sAsg (gN 3) (e2 dIx (e2 dIx (eVarW 0) (eC (.int 1))) (e2 dMod (eVarW 1) (e1 fLen (aCons (e2 dIx (eVarW 0) (eC (.int 1))) aNil)))))
  (sSeq (sAsg (gN 4) (eCall m__law_spot_plus [] (aCons (e2 dIx (eVarW 0) (eC (.int 4))) (aCons (eCall m__law_spot_times [] (aCons (e2 dIx (eVarW 0) (eC (.int 5))) (aCons (eVar 2) aNil))) aNil))))
  (sRet (eCall m__law_spot_plus [] (aCons (eVar 4) (aCons (eTup (aCons (eTup (aCons (e2 dIx (eVarW 3) (eC (.int 0))) (aCons (eC (.int 1)) aNil))) (aCons (eTup (aCons (e2 dIx (eVarW 3) (eC (.int 1))) (aCons (eC (.int 1)) aNil))) aNil))) aNil))))))
def m__law_corner : List D → Unit → Res Unit D := runB 5 b__law_corner
def b__law_mean : MS Unit :=
  (sRet (eCall m__law_spot [] (aCons (eCall m__law_spot_times [] (aCons (eCall m__law_spot_plus [] (aCons (eVar 0) (aCons (eVar 1) aNil))) (aCons (eTup (aCons (eC (.int 1)) (aCons (eC (.int 2)) aNil))) aNil))) aNil)))
def m__law_mean : List D → Unit → Res Unit D := runB 2 b__law_mean
def b__law_spots : MSf Dk :=
  (seqF (sAsg (gN 4) (eLst (eComp (e1 fRng1 (aCons (eC (.int 6)) aNil)) [10] (gN 10) (fun _ t => .ok true t) (eCallS m__law_take [] (aCons (eVar 0) (aCons (eC (.int 8)) aNil))))))
  (seqF (sAsg (gN 5) (eLst (eComp (e1 itD (eVar 4)) [11] (gN 11) (fun _ t => .ok true t) (eCall m__law_corner [] (aCons (eVar 1) (aCons (eVar 11) (aCons (eVar 3) aNil)))))))
  (seqF (sAsg (gN 6) (eLst (eComp (e1 itD (eVar 4)) [11] (gN 11) (fun _ t => .ok true t) (eCall m__law_corner [] (aCons (eVar 2) (aCons (eVar 11) (aCons (eVar 3) aNil)))))))
  (seqF (sPar 7 8 (eCall m__law_mean [] (aCons (e2 dIx (eVarW 5) (eC (.int 4))) (aCons (e2 dIx (eVarW 5) (eC (.int 5))) aNil))) (eCall m__law_mean [] (aCons (e2 dIx (eVarW 6) (eC (.int 4))) (aCons (e2 dIx (eVarW 6) (eC (.int 5))) aNil))))
  (seqF (sAsg (gN 9) (eLst (e1 lim (aCons (eCall m__law_mean [] (aCons (eVar 7) (aCons (eVar 8) aNil))) (aCons (eCall m__law_mean [] (aCons (e2 dIx (eVarW 5) (eC (.int 1))) (aCons (e2 dIx (eVarW 5) (eC (.int 2))) aNil))) aNil)))))
  (seqF (sAsg (gN 9) (e2 dAdd (eVarW 9) (eLst (e1 lim (aCons (eCall m__law_mean [] (aCons (e2 dIx (eVarW 6) (eC (.int 1))) (aCons (e2 dIx (eVarW 6) (eC (.int 2))) aNil))) (aCons (eCall m__law_mean [] (aCons (e2 dIx (eVarW 5) (eC (.int 3))) (aCons (e2 dIx (eVarW 6) (eC (.int 3))) aNil))) aNil))))))
  (retE (e2 fCat (eVarW 9) (eLst (e1 lim (aCons (eCall m__law_spot [] (aCons (e2 dIx (eVarW 5) (eC (.int 0))) aNil)) aNil)))))))))))
def mF__law_spots : List D → Dk → Res Dk (List D) := runF 12 b__law_spots
def b__law_some_ways : MS Dk :=
  (sSeq (sOwn 3 (eCallF mF__law_pair_ways (aCons (eVar 1) (aCons (eVar 2) aNil))))
  (sSeq (sFor (e1 fRng1 (aCons (eC (.int 3)) aNil)) (gN 4) (sApp 3 (eCall m__law_way [] (aCons (e2 dSub (eCallS m__law_take [] (aCons (eVar 0) (aCons (eC (.int 199)) aNil))) (eC (.int 99))) (aCons (e2 dAdd (eC (.int 1)) (eCallS m__law_take [] (aCons (eVar 0) (aCons (eC (.int 99)) aNil)))) aNil)))))
  (sSeq (sApp 3 (eCall m__law_way [] (aCons (e2 dAdd (eC (.int 1)) (eCallS m__law_long [] (aCons (eVar 0) (aCons (eC (.int 10)) aNil)))) (aCons (eCallS m__law_long [] (aCons (eVar 0) (aCons (eC (.int 10)) aNil))) aNil))))
  (sFrz 3 (sRet (e2 dAdd (eVarW 3) (eLst (e1 lim (aCons (eTup (aCons (e1 dNeg (e2 dIx (e2 dIx (eVarW 3) (e1 dNeg (eC (.int 1)))) (eC (.int 0)))) (aCons (e2 dIx (e2 dIx (eVarW 3) (e1 dNeg (eC (.int 1)))) (eC (.int 1))) aNil))) (aCons (eTup (aCons (eC (.int 0)) (aCons (e1 dNeg (eC (.int 1))) aNil))) (aCons (eTup (aCons (eC (.int 1)) (aCons (eC (.int 0)) aNil))) aNil)))))))))))
def m__law_some_ways : List D → Dk → Res Dk D := runB 5 b__law_some_ways
def b__law_turned : MS Unit :=
  (sSeq (sIf (e1 asB (e2 dEq (e2 dIx (eVarW 0) (eC (.int 0))) (eC (.str "apart")))) (sRet (eTup (aCons (eC (.str "apart")) (aCons (eTup (aCons (e1 dNeg (e2 dIx (e2 dIx (eVarW 0) (eC (.int 1))) (eC (.int 0)))) (aCons (e1 dNeg (e2 dIx (e2 dIx (eVarW 0) (eC (.int 1))) (eC (.int 1)))) aNil))) aNil)))) sSkip)
  (sRet (eVar 0)))
def m__law_turned : List D → Unit → Res Unit D := runB 1 b__law_turned
def b_law : MS Dk :=
  (sSeq (sAsg (gT (gCons (gN 2) (gCons (gN 3) (gCons (gN 4) gNil)))) (eCallS m__law_pair [] (aCons (eVar 1) aNil)))
  (sSeq (sAsg (gN 5) (e2 dIx (eLst (e1 lim (aCons (eVar 4) (aCons (eTup (aCons (eC (.int 0)) (aCons (eC (.int 1)) aNil))) (aCons (eCall m__law_share [] (aCons (e1 dNeg (eCallS m__law_take [] (aCons (eVar 1) (aCons (eC (.int 9)) aNil)))) (aCons (e2 dAdd (eC (.int 1)) (eCallS m__law_take [] (aCons (eVar 1) (aCons (eC (.int 5)) aNil)))) aNil))) aNil))))) (eCallS m__law_take [] (aCons (eVar 1) (aCons (eC (.int 3)) aNil)))))
  (sSeq (sOwn 6 (eCallFS mF__law_spots (aCons (eVar 1) (aCons (eVar 2) (aCons (eVar 3) (aCons (eVar 5) aNil))))))
  (sSeq (sFor (e1 fRng1 (aCons (eC (.int 3)) aNil)) (gN 7) (sSeq (sAsg (gN 8) (eTup (aCons (eTup (aCons (e2 dSub (eCallS m__law_take [] (aCons (eVar 1) (aCons (eC (.int 41)) aNil))) (eC (.int 20))) (aCons (eC (.int 4)) aNil))) (aCons (eTup (aCons (e2 dSub (eCallS m__law_take [] (aCons (eVar 1) (aCons (eC (.int 41)) aNil))) (eC (.int 20))) (aCons (eC (.int 4)) aNil))) aNil))))
  (sApp 6 (eCall m__law_spot [] (aCons (eCall m__law_spot_plus [] (aCons (eCall m__law_corner [] (aCons (eVar 2) (aCons (eVar 7) (aCons (eVar 5) aNil)))) (aCons (eVar 8) aNil))) aNil)))))
  (sFrz 6 (sSeq (sAsg (gN 9) (eCallS m__law_some_ways [] (aCons (eVar 1) (aCons (eVar 2) (aCons (eVar 3) aNil)))))
  (sSeq (sAsg (gN 10) (eLst (eComp (e1 itD (eVar 9)) [13] (gN 13) (e1 truth (eCall m_apart_held [] (aCons (eVar 2) (aCons (eVar 3) (aCons (eTup (aCons (eC (.str "apart")) (aCons (eVar 13) aNil))) (aCons (eVar 5) aNil)))))) (eVar 13))))
  (sSeq (sAsg (gN 11) (eLst (eComp (e1 itD (eVar 6)) [14] (gN 14) (e1 truth (eCall m_apart_held [] (aCons (eVar 2) (aCons (eVar 3) (aCons (eTup (aCons (eC (.str "over")) (aCons (eVar 14) aNil))) (aCons (eVar 5) aNil)))))) (eVar 14))))
  (sSeq (sAsg (gN 12) (eCall m_apart [] (aCons (eVar 2) (aCons (eVar 3) (aCons (eVar 5) aNil)))))
  (sSeq (sIf (tOr2 (tNot1 (e1 truth (eCall m_apart_held [] (aCons (eVar 2) (aCons (eVar 3) (aCons (eVar 12) (aCons (eVar 5) aNil))))))) (tNot1 (e1 truth (eCall m_apart_held [] (aCons (eVar 3) (aCons (eVar 2) (aCons (eCall m__law_turned [] (aCons (eVar 12) aNil)) (aCons (eVar 5) aNil)))))))) (sRet (eC (.bl false))) sSkip)
  (sSeq (sIf (e1 asB (e2 dEq (e2 dIx (eVarW 12) (eC (.int 0))) (eC (.str "over")))) (sRet (e2 dEq (eVarW 10) (eLst (e1 lim aNil)))) sSkip)
  (sRet (eAnd2 (e2 dEq (e2 dIx (eVarW 12) (eC (.int 0))) (eC (.str "apart"))) (e2 dEq (eVarW 11) (eLst (e1 lim aNil))))))))))))))))
end MM
end
namespace MM
open PySem PySem.Spec PyProof.Rows L2
theorem fmod_nat (x y : Nat) : Int.fmod (x : Int) (y : Int) = ((x % y : Nat) : Int) := by
  rw [Int.fmod_eq_emod_of_nonneg _ (by omega)]; rfl
theorem gcd_step {x n : Nat} {g : Nat} (h : x.gcd n = g) : n.gcd (x % n) = g := by rw [Nat.gcd_comm, ← Nat.gcd_rec, Nat.gcd_comm]; exact h
def isWh : D → Bool
  | .int _ => true
  | _ => false
theorem tyN_dct {ks vs : List D} (h : (tyN (.dct ks vs)).isSome = true) : tyN (.dct ks vs) = some "dict" := by
  have e : tyN (.dct ks vs) = if (ks.all fun k => (keyOf k).isSome) = true then some "dict" else none := rfl
  rw [e] at h ⊢
  split
  · rfl
  · rename_i q
    rw [if_neg q] at h
    cases h
theorem isi_int {d : D} (h : (tyN d).isSome = true) : ∃ a b : Bool, isi d "int" = some a ∧ isi d "bool" = some b ∧ (a && !b) = isWh d := by
  cases d <;> first
    | (cases h; done)
    | exact ⟨_, _, rfl, rfl, rfl⟩
    | exact ⟨false, false, by unfold isi; rw [tyN_dct h]; rfl, by unfold isi; rw [tyN_dct h]; rfl, rfl⟩
def sh : D → Bool
  | .tup [.int a, .int b] => decide (1 ≤ b) && decide (Int.gcd a b = 1)
  | _ => false
theorem isi_tupT {xs : List D} : isi (.tup xs) "tuple" = some true := rfl
theorem fdiv_gcd {g a' : Int} (hg : g ≠ 0) : (g * a').fdiv g = a' := Int.mul_fdiv_cancel_left _ hg
theorem gcd_parts (a b : Int) (hb : b ≠ 0) : ∃ a' b' : Int, a = (Int.gcd a b : Int) * a' ∧ b = (Int.gcd a b : Int) * b' ∧ Int.gcd a' b' = 1 ∧ (0 : Int) < Int.gcd a b := by
  have hg : 0 < Int.gcd a b := Int.gcd_pos_of_ne_zero_right _ hb
  refine ⟨a / (Int.gcd a b : Int), b / (Int.gcd a b : Int), ?_, ?_, ?_, by omega⟩
  · rw [Int.mul_ediv_cancel' (Int.gcd_dvd_left ..)]
  · rw [Int.mul_ediv_cancel' (Int.gcd_dvd_right ..)]
  · exact Int.gcd_ediv_gcd_ediv_gcd hg
theorem fmod_pos {a b : Int} (hb : 1 ≤ b) : 0 ≤ a.fmod b ∧ a.fmod b < b := by
  rw [Int.fmod_eq_emod_of_nonneg _ (by omega)]
  exact ⟨Int.emod_nonneg _ (by omega), Int.emod_lt_of_pos _ (by omega)⟩
def manyOk (m : Int) : Prop := 1 ≤ m ∧ m.natAbs < 2 ^ 8000
theorem many_of {m : Int} (h1 : 1 ≤ m) (h2 : m ≤ 1000000000000) : manyOk m := ⟨h1, Nat.lt_of_lt_of_le (show m.natAbs < 2 ^ 50 by omega) (Nat.pow_le_pow_right (by decide) (by decide))⟩
theorem divisor_ok (a b : Int) : m_divisor [.int a, .int b] () = .ok (.int (Int.gcd a b)) () := by
  apply oE_eq
  unfold m_divisor b_divisor
  simp [Nxt, Nxt]
  refine oS_while (fun n ρ t => ∃ x y : Nat, ρ = [.val (.int x), .val (.int y)] ∧ n = y ∧ Nat.gcd x y = Int.gcd a b) ?_ b.natAbs _ _ ⟨a.natAbs, b.natAbs, rfl, rfl, rfl⟩
  rintro n ρ t ⟨x, y, rfl, rfl, h⟩
  simp [Nxt]
  by_cases hn : n = 0
  · subst hn; left; simp at h; exact ⟨rfl, by rw [h]⟩
  · right
    exact ⟨by omega, hn, x % n, Nat.mod_lt _ (by omega), n, x % n, ⟨rfl, by rw [fmod_nat]⟩, rfl, gcd_step h⟩
theorem law_gcd_ok (a b : Int) : m__law_gcd [.int a, .int b] () = .ok (.int (Int.gcd a b)) () := by
  apply oE_eq
  unfold m__law_gcd b__law_gcd
  simp [Nxt, Nxt]
  refine oS_while (fun n ρ t => ∃ (x y : Nat) (z : Slot), ρ = [.val (.int x), .val (.int y), z] ∧ n = y ∧ Nat.gcd x y = Int.gcd a b) ?_ b.natAbs _ _ ⟨a.natAbs, b.natAbs, _, rfl, rfl, rfl⟩
  rintro n ρ t ⟨x, y, z, rfl, rfl, h⟩
  simp [Nxt]
  by_cases hn : n = 0
  · subst hn; left; simp at h; exact ⟨rfl, by rw [h]⟩
  · right
    exact ⟨by omega, hn, x % n, Nat.mod_lt _ (by omega), n, x % n, ⟨rfl, by rw [fmod_nat]⟩, rfl, gcd_step h⟩
def R (r : Rat) : D := .tup [.int r.num, .int (r.den : Int)]
structure Sz (n : Nat) (r : Rat) : Prop where
  nu : r.num.natAbs < 2 ^ n
  de : r.den < 2 ^ n
theorem Sz.le {n m : Nat} {r : Rat} (h : Sz n r) (hm : n ≤ m) : Sz m r := ⟨Nat.lt_of_lt_of_le h.nu (Nat.pow_le_pow_right (by decide) hm), Nat.lt_of_lt_of_le h.de (Nat.pow_le_pow_right (by decide) hm)⟩
@[simp] theorem R_ix0 {r : Rat} : dIx (R r) (.int 0) = some (.int r.num) := rfl
@[simp] theorem R_ix1 {r : Rat} : dIx (R r) (.int 1) = some (.int (r.den : Int)) := rfl
@[simp] theorem R_gT {r : Rat} {gs : Tgts} {ρ : Rho} : gT gs ρ (R r) = gs ρ [.int r.num, .int (r.den : Int)] := rfl
@[simp] theorem R_len {r : Rat} : fLen [R r] = some (.int 2) := rfl
@[simp] theorem R_it {r : Rat} : itD (R r) = some [.int r.num, .int (r.den : Int)] := rfl
@[simp] theorem R_isT {r : Rat} : fIsi [R r, .ty "tuple"] = some (.bl true) := rfl
@[simp] theorem isi_int_int {i : Int} : fIsi [.int i, .ty "int"] = some (.bl true) := rfl
@[simp] theorem isi_int_bool {i : Int} : fIsi [.int i, .ty "bool"] = some (.bl false) := rfl
@[simp] theorem R_eq {r s : Rat} : dEq (R r) (R s) = some (.bl (decide (r = s))) := by
  unfold R
  rw [dEq_pair]
  congr 2
  by_cases h : r = s
  · subst h; simp
  · rw [decide_eq_false h]
    by_cases h1 : r.num = s.num
    · by_cases h2 : (r.den : Int) = s.den
      · exact absurd (Rat.ext h1 (by omega)) h
      · rw [decide_eq_false h2, Bool.and_false]
    · rw [decide_eq_false h1, Bool.false_and]
@[simp] theorem R_ne {r s : Rat} : dNe (R r) (R s) = some (.bl (!decide (r = s))) := by
  have h : dEq (R r) (R s) = some (.bl (decide (r = s))) := R_eq
  unfold dEq at h
  unfold dNe
  cases e : eqD (R r) (R s) with
  | none => rw [e] at h; cases h
  | some b =>
    rw [e] at h
    have : b = decide (r = s) := by
      have h' : some (D.bl b) = some (.bl (decide (r = s))) := h
      injection h' with h'
      injection h'
    rw [this]; rfl
theorem den_pos (r : Rat) : (1 : Int) ≤ r.den := by have := r.den_pos; omega
theorem rat_of {a b p q : Int} (hb : b ≠ 0) (hq : 1 ≤ q) (hg : Int.gcd p q = 1) (he : p * b = q * a) : (Rat.divInt a b).num = p ∧ ((Rat.divInt a b).den : Int) = q := by
  have nz : q.natAbs ≠ 0 := by omega
  have e : (Rat.mk' p q.natAbs nz hg) = Rat.divInt a b := by
    rw [← Rat.num_divInt_den (Rat.mk' p q.natAbs nz hg)]
    show Rat.divInt p (q.natAbs : Int) = Rat.divInt a b
    rw [show ((q.natAbs : Nat) : Int) = q by omega, Rat.divInt_eq_divInt_iff (by omega) hb, he, Int.mul_comm]
  rw [← e]
  exact ⟨rfl, by show ((q.natAbs : Nat) : Int) = q; omega⟩
theorem divInt_sz {a b : Int} {n : Nat} (hb : b ≠ 0) (h1 : a.natAbs < 2 ^ n) (h2 : b.natAbs < 2 ^ n) : Sz n (Rat.divInt a b) := by
  obtain ⟨a', b', e1, e2, e3, e4⟩ := gcd_parts a b hb
  have la : a'.natAbs ≤ a.natAbs := by
    conv => rhs; rw [e1]
    rw [Int.natAbs_mul]; exact Nat.le_mul_of_pos_left _ (by omega)
  have lb : b'.natAbs ≤ b.natAbs := by
    conv => rhs; rw [e2]
    rw [Int.natAbs_mul]; exact Nat.le_mul_of_pos_left _ (by omega)
  have b0 : b' ≠ 0 := fun z => hb (by rw [e2, z, Int.mul_zero])
  have cross : a' * b = b' * a := by
    conv => lhs; rw [e2]
    conv => rhs; rw [e1]
    rw [← Int.mul_assoc, ← Int.mul_assoc, Int.mul_comm a', Int.mul_comm b', Int.mul_assoc, Int.mul_assoc, Int.mul_comm a' b']
  rcases Int.lt_or_gt_of_ne b0 with h | h
  · obtain ⟨q1, q2⟩ := rat_of (a := a) (b := b) (p := -a') (q := -b') hb (by omega) (by rw [Int.gcd_neg, Int.neg_gcd]; exact e3) (by rw [Int.neg_mul, Int.neg_mul, cross])
    exact ⟨by rw [q1]; omega, by omega⟩
  · obtain ⟨q1, q2⟩ := rat_of (a := a) (b := b) (p := a') (q := b') hb (by omega) e3 cross
    exact ⟨by rw [q1]; omega, by omega⟩
theorem sz_mul {a b : Int} {n m : Nat} (h1 : a.natAbs < 2 ^ n) (h2 : b.natAbs < 2 ^ m) : (a * b).natAbs < 2 ^ (n + m) := by
  rw [Int.natAbs_mul, Nat.pow_add]
  exact Nat.mul_lt_mul'' h1 h2
theorem sz_add {a b : Int} {n : Nat} (h1 : a.natAbs < 2 ^ n) (h2 : b.natAbs < 2 ^ n) : (a + b).natAbs < 2 ^ (n + 1) := by
  rw [Nat.pow_succ]; omega
theorem sz_sub {a b : Int} {n : Nat} (h1 : a.natAbs < 2 ^ n) (h2 : b.natAbs < 2 ^ n) : (a - b).natAbs < 2 ^ (n + 1) := by
  rw [Nat.pow_succ]; omega
theorem Sz.den {n : Nat} {r : Rat} (h : Sz n r) : (r.den : Int).natAbs < 2 ^ n := h.de
@[simp] theorem R_plain {r : Rat} {i : Int} : atI [D.int r.num, D.int (r.den : Int)] 0 = some (.int r.num) := rfl
theorem den_mul_ne (r s : Rat) : (r.den : Int) * s.den ≠ 0 := by
  have := r.den_pos; have := s.den_pos
  intro z
  rcases Int.mul_eq_zero.mp z with h | h <;> omega
theorem add_divInt (r s : Rat) : r + s = Rat.divInt (r.num * s.den + s.num * r.den) (r.den * s.den) := by
  conv => lhs; rw [← Rat.num_divInt_den r, ← Rat.num_divInt_den s]
  rw [Rat.divInt_add_divInt _ _ (by have := r.den_pos; omega) (by have := s.den_pos; omega)]
theorem sub_divInt (r s : Rat) : r - s = Rat.divInt (r.num * s.den - s.num * r.den) (r.den * s.den) := by
  conv => lhs; rw [← Rat.num_divInt_den r, ← Rat.num_divInt_den s]
  rw [Rat.divInt_sub_divInt _ _ (by have := r.den_pos; omega) (by have := s.den_pos; omega)]
theorem mul_divInt (r s : Rat) : r * s = Rat.divInt (r.num * s.num) (r.den * s.den) := by
  conv => lhs; rw [← Rat.num_divInt_den r, ← Rat.num_divInt_den s]
  rw [Rat.divInt_mul_divInt]
theorem num_ne {s : Rat} (h : s ≠ 0) : s.num ≠ 0 := fun z => h (Rat.num_eq_zero.mp z)
theorem div_divInt (r s : Rat) : r / s = Rat.divInt (r.num * s.den) (r.den * s.num) := by
  conv => lhs; rw [← Rat.num_divInt_den r, ← Rat.num_divInt_den s]
  rw [Rat.div_def, Rat.inv_divInt, Rat.divInt_mul_divInt]
theorem den_num_ne (r : Rat) {s : Rat} (h : s ≠ 0) : (r.den : Int) * s.num ≠ 0 := fun z => by
  rcases Int.mul_eq_zero.mp z with h' | h'
  · have := r.den_pos; omega
  · exact num_ne h h'
theorem Sz.add {n m : Nat} {r s : Rat} (h1 : Sz n r) (h2 : Sz m s) : Sz (n + m + 1) (r + s) := by
  rw [add_divInt]
  refine divInt_sz (den_mul_ne r s) (sz_add (sz_mul h1.nu h2.den) ?_) (Nat.lt_of_lt_of_le (sz_mul h1.den h2.den) (Nat.pow_le_pow_right (by decide) (by omega)))
  rw [Nat.add_comm n m]; exact sz_mul h2.nu h1.den
theorem Sz.sub {n m : Nat} {r s : Rat} (h1 : Sz n r) (h2 : Sz m s) : Sz (n + m + 1) (r - s) := by
  rw [sub_divInt]
  refine divInt_sz (den_mul_ne r s) (sz_sub (sz_mul h1.nu h2.den) ?_) (Nat.lt_of_lt_of_le (sz_mul h1.den h2.den) (Nat.pow_le_pow_right (by decide) (by omega)))
  rw [Nat.add_comm n m]; exact sz_mul h2.nu h1.den
theorem Sz.mul {n m : Nat} {r s : Rat} (h1 : Sz n r) (h2 : Sz m s) : Sz (n + m) (r * s) := by
  rw [mul_divInt]
  exact divInt_sz (den_mul_ne r s) (sz_mul h1.nu h2.nu) (sz_mul h1.den h2.den)
theorem Sz.div {n m : Nat} {r s : Rat} (h0 : s ≠ 0) (h1 : Sz n r) (h2 : Sz m s) : Sz (n + m) (r / s) := by
  rw [div_divInt]
  exact divInt_sz (den_num_ne r h0) (sz_mul h1.nu h2.den) (sz_mul h1.den h2.nu)
theorem Sz.neg {n : Nat} {r : Rat} (h : Sz n r) : Sz n (-r) := ⟨by show (-r.num).natAbs < _; rw [Int.natAbs_neg]; exact h.nu, h.de⟩
theorem share_ok (a b : Int) (hb : b ≠ 0) (hs : b.natAbs < 2 ^ 8000) : ∃ p q : Int, m_share [.int a, .int b] () = .ok (.tup [.int p, .int q]) () ∧ 1 ≤ q ∧ Int.gcd p q = 1 ∧ p * b = q * a ∧ p.natAbs ≤ a.natAbs ∧ q.natAbs ≤ b.natAbs := by
  obtain ⟨a', b', e1, e2, e3, e4⟩ := gcd_parts a b hb
  have sg : (Int.gcd a b : Int).natAbs < 2 ^ 8000 := by
    have : Int.gcd a b ≤ b.natAbs := Int.gcd_le_natAbs_right _ (by omega)
    omega
  have gz : (Int.gcd a b : Int) ≠ 0 := by omega
  generalize hgg : (Int.gcd a b : Int) = g at *
  have da : a.fdiv g = a' := by rw [e1]; exact fdiv_gcd gz
  have db : b.fdiv g = b' := by rw [e2]; exact fdiv_gcd gz
  have dna : a.fdiv (-g) = -a' := by rw [e1, show g * a' = (-g) * (-a') by rw [Int.neg_mul_neg]]; exact fdiv_gcd (by omega)
  have dnb : b.fdiv (-g) = -b' := by rw [e2, show g * b' = (-g) * (-b') by rw [Int.neg_mul_neg]]; exact fdiv_gcd (by omega)
  have o1 : ∀ x, divOk x g = true := fun x => small_div gz sg (by decide) (by decide)
  have o2 : ∀ x, divOk x (-g) = true := fun x => small_div (by omega) (by rw [Int.natAbs_neg]; exact sg) (by decide) (by decide)
  have run : oE (m_share [.int a, .int b] ()) (fun d _ => d = if b < 0 then .tup [.int (-a'), .int (-b')] else .tup [.int a', .int b']) (fun _ _ _ => False) := by
    unfold m_share b_share
    simp [Nxt, hb, divisor_ok, hgg, da, db, dna, dnb, o1, o2]
    by_cases h : b < 0
    · right; exact ⟨h, fun z => absurd h (by omega)⟩
    · left; exact ⟨by omega, fun z => absurd z h⟩
  have bpos : b < 0 ↔ b' < 0 := by
    rw [e2]
    constructor
    · intro h
      apply Classical.byContradiction
      intro z
      have := Int.mul_nonneg (Int.le_of_lt e4) (show 0 ≤ b' by omega)
      omega
    · intro h
      have := Int.mul_neg_of_pos_of_neg e4 h
      omega
  have b0 : b' ≠ 0 := fun z => hb (by rw [e2, z, Int.mul_zero])
  have cross : a' * b = b' * a := by
    rw [e1, e2]
    rw [← Int.mul_assoc, ← Int.mul_assoc, Int.mul_comm a' g, Int.mul_comm b' g, Int.mul_assoc, Int.mul_assoc, Int.mul_comm a' b']
  have la : a'.natAbs ≤ a.natAbs := by rw [e1, Int.natAbs_mul]; exact Nat.le_mul_of_pos_left _ (by omega)
  have lb : b'.natAbs ≤ b.natAbs := by rw [e2, Int.natAbs_mul]; exact Nat.le_mul_of_pos_left _ (by omega)
  by_cases h : b < 0
  · refine ⟨-a', -b', oE_eq (oE_imp run (fun d t e => ⟨by rw [e, if_pos h], rfl⟩) fun _ _ _ z => z), by have := bpos.mp h; omega, by rw [Int.gcd_neg, Int.neg_gcd]; exact e3, by rw [Int.neg_mul, Int.neg_mul, cross], by rw [Int.natAbs_neg]; exact la, by rw [Int.natAbs_neg]; exact lb⟩
  · exact ⟨a', b', oE_eq (oE_imp run (fun d t e => ⟨by rw [e, if_neg h], rfl⟩) fun _ _ _ z => z), by
      have : ¬ b' < 0 := fun z => h (bpos.mpr z)
      omega, e3, cross, la, lb⟩

theorem share_R {a b : Int} (hb : b ≠ 0) (hs : b.natAbs < 2 ^ 8000) : m_share [.int a, .int b] () = .ok (R (Rat.divInt a b)) () := by
  obtain ⟨p, q, e, h1, h2, h3, _, _⟩ := share_ok a b hb hs
  obtain ⟨e1, e2⟩ := rat_of hb h1 h2 h3
  rw [e]
  unfold R
  rw [e1, e2]
theorem mulOk_sz {a b : Int} {n m : Nat} (h1 : a.natAbs < 2 ^ n) (h2 : b.natAbs < 2 ^ m) (h : n + m ≤ 8000) : mulOk a b = true :=
  small_mul (a := n + 1) (b := m + 1) (Nat.lt_of_lt_of_le h1 (Nat.pow_le_pow_right (by decide) (by omega))) (Nat.lt_of_lt_of_le h2 (Nat.pow_le_pow_right (by decide) (by omega))) (by omega) (by omega) (by omega)
theorem up8 {x n : Nat} (h : x < 2 ^ n) (hn : n ≤ 8000) : x < 2 ^ 8000 := Nat.lt_of_lt_of_le h (Nat.pow_le_pow_right (by decide) hn)
def S2 (x y : Rat) : D := .tup [R x, R y]
def Wy (p q : Int) : D := .tup [.int p, .int q]
@[simp] theorem S2_ix0 {x y : Rat} : dIx (S2 x y) (.int 0) = some (R x) := rfl
@[simp] theorem S2_ix1 {x y : Rat} : dIx (S2 x y) (.int 1) = some (R y) := rfl
@[simp] theorem S2_gT {x y : Rat} {gs : Tgts} {ρ : Rho} : gT gs ρ (S2 x y) = gs ρ [R x, R y] := rfl
@[simp] theorem Wy_ix0 {p q : Int} : dIx (Wy p q) (.int 0) = some (.int p) := rfl
@[simp] theorem Wy_ix1 {p q : Int} : dIx (Wy p q) (.int 1) = some (.int q) := rfl
@[simp] theorem Wy_gT {p q : Int} {gs : Tgts} {ρ : Rho} : gT gs ρ (Wy p q) = gs ρ [.int p, .int q] := rfl
theorem int_eq_R (p : Int) : (p : Rat) = Rat.divInt p 1 := (Rat.num_divInt_den (p : Rat)).symm
theorem along_divInt (p q : Int) (x y : Rat) : (p : Rat) * x + (q : Rat) * y = Rat.divInt (p * x.num * y.den + q * y.num * x.den) (x.den * y.den) := by
  have e1 : (p : Rat) * x = Rat.divInt (p * x.num) x.den := by
    conv => lhs; rw [← Rat.num_divInt_den x]
    rw [int_eq_R, Rat.divInt_mul_divInt, Int.one_mul]
  have e2 : (q : Rat) * y = Rat.divInt (q * y.num) y.den := by
    conv => lhs; rw [← Rat.num_divInt_den y]
    rw [int_eq_R, Rat.divInt_mul_divInt, Int.one_mul]
  rw [e1, e2, Rat.divInt_add_divInt _ _ (by have := x.den_pos; omega) (by have := y.den_pos; omega)]
theorem Sz.int {p : Int} {n : Nat} (h : p.natAbs < 2 ^ n) (h0 : 1 ≤ n) : Sz n (p : Rat) := ⟨h, by show 1 < 2 ^ n; exact Nat.one_lt_two_pow (by omega)⟩
theorem R_int (p : Int) : D.tup [.int p, .int 1] = R (p : Rat) := rfl
@[simp] theorem atI_0 {α : Type} {x : α} {xs : List α} : atI (x :: xs) 0 = some x := atI_nat (j := 0) rfl
@[simp] theorem atI_1 {α : Type} {x y : α} {xs : List α} : atI (x :: y :: xs) 1 = some y := atI_nat (j := 1) rfl
@[simp] theorem atI_2 {α : Type} {x y z : α} {xs : List α} : atI (x :: y :: z :: xs) 2 = some z := atI_nat (j := 2) rfl
@[simp] theorem atI_3 {α : Type} {x y z u : α} {xs : List α} : atI (x :: y :: z :: u :: xs) 3 = some u := atI_nat (j := 3) rfl
@[simp] theorem atI_4 {α : Type} {x y z u v : α} {xs : List α} : atI (x :: y :: z :: u :: v :: xs) 4 = some v := atI_nat (j := 4) rfl
@[simp] theorem atI_5 {α : Type} {x y z u v w : α} {xs : List α} : atI (x :: y :: z :: u :: v :: w :: xs) 5 = some w := atI_nat (j := 5) rfl
structure Sd (n d : Nat) (r : Rat) : Prop where
  nu : r.num.natAbs < 2 ^ n
  de : r.den < 2 ^ d
theorem Sz.sd {n : Nat} {r : Rat} (h : Sz n r) : Sd n n r := ⟨h.nu, h.de⟩
theorem Sd.le {n d n' d' : Nat} {r : Rat} (h : Sd n d r) (hn : n ≤ n') (hd : d ≤ d') : Sd n' d' r := ⟨Nat.lt_of_lt_of_le h.nu (Nat.pow_le_pow_right (by decide) hn), Nat.lt_of_lt_of_le h.de (Nat.pow_le_pow_right (by decide) hd)⟩
theorem Sd.den {n d : Nat} {r : Rat} (h : Sd n d r) : (r.den : Int).natAbs < 2 ^ d := h.de
theorem Sd.int {p : Int} {n : Nat} (h : p.natAbs < 2 ^ n) : Sd n 1 (p : Rat) := ⟨h, by show 1 < 2 ^ 1; decide⟩
theorem Sd.zero : Sd 0 1 0 := ⟨by decide, by decide⟩
theorem Sd.neg {n d : Nat} {r : Rat} (h : Sd n d r) : Sd n d (-r) := ⟨by show (-r.num).natAbs < _; rw [Int.natAbs_neg]; exact h.nu, h.de⟩
theorem mulW {a b : Int} {n m : Nat} (h1 : a.natAbs < 2 ^ n) (h2 : b.natAbs < 2 ^ m) (h : n + m ≤ 900000) : mulOk a b = true :=
  small_mul (a := n + 1) (b := m + 1) (Nat.lt_of_lt_of_le h1 (Nat.pow_le_pow_right (by decide) (by omega))) (Nat.lt_of_lt_of_le h2 (Nat.pow_le_pow_right (by decide) (by omega))) (by omega) (by omega) (by omega)
theorem divInt_sd {a b : Int} {n d : Nat} (hb : b ≠ 0) (h1 : a.natAbs < 2 ^ n) (h2 : b.natAbs < 2 ^ d) : Sd n d (Rat.divInt a b) := by
  obtain ⟨a', b', e1, e2, e3, e4⟩ := gcd_parts a b hb
  have la : a'.natAbs ≤ a.natAbs := by
    conv => rhs; rw [e1]
    rw [Int.natAbs_mul]; exact Nat.le_mul_of_pos_left _ (by omega)
  have lb : b'.natAbs ≤ b.natAbs := by
    conv => rhs; rw [e2]
    rw [Int.natAbs_mul]; exact Nat.le_mul_of_pos_left _ (by omega)
  have b0 : b' ≠ 0 := fun z => hb (by rw [e2, z, Int.mul_zero])
  have cross : a' * b = b' * a := by
    conv => lhs; rw [e2]
    conv => rhs; rw [e1]
    rw [← Int.mul_assoc, ← Int.mul_assoc, Int.mul_comm a', Int.mul_comm b', Int.mul_assoc, Int.mul_assoc, Int.mul_comm a' b']
  rcases Int.lt_or_gt_of_ne b0 with h | h
  · obtain ⟨q1, q2⟩ := rat_of (a := a) (b := b) (p := -a') (q := -b') hb (by omega) (by rw [Int.gcd_neg, Int.neg_gcd]; exact e3) (by rw [Int.neg_mul, Int.neg_mul, cross])
    exact ⟨by rw [q1]; omega, by omega⟩
  · obtain ⟨q1, q2⟩ := rat_of (a := a) (b := b) (p := a') (q := b') hb (by omega) e3 cross
    exact ⟨by rw [q1]; omega, by omega⟩
theorem lt_up {x n m : Nat} (h : x < 2 ^ n) (hm : n ≤ m) : x < 2 ^ m := Nat.lt_of_lt_of_le h (Nat.pow_le_pow_right (by decide) hm)
theorem sz_mulN {a b : Int} {n m N : Nat} (h1 : a.natAbs < 2 ^ n) (h2 : b.natAbs < 2 ^ m) (h : n + m ≤ N) : (a * b).natAbs < 2 ^ N := lt_up (sz_mul h1 h2) h
theorem Sd.add {n d m e N M : Nat} {r s : Rat} (h1 : Sd n d r) (h2 : Sd m e s) (hN : n + e < N) (hN' : m + d < N) (hM : d + e ≤ M) : Sd N M (r + s) := by
  rw [add_divInt]
  obtain ⟨N, rfl⟩ : ∃ k, N = k + 1 := ⟨N - 1, by omega⟩
  exact divInt_sd (den_mul_ne r s) (sz_add (sz_mulN h1.nu h2.den (by omega)) (sz_mulN h2.nu h1.den (by omega))) (sz_mulN h1.den h2.den hM)
theorem Sd.sub {n d m e N M : Nat} {r s : Rat} (h1 : Sd n d r) (h2 : Sd m e s) (hN : n + e < N) (hN' : m + d < N) (hM : d + e ≤ M) : Sd N M (r - s) := by
  rw [sub_divInt]
  obtain ⟨N, rfl⟩ : ∃ k, N = k + 1 := ⟨N - 1, by omega⟩
  exact divInt_sd (den_mul_ne r s) (sz_sub (sz_mulN h1.nu h2.den (by omega)) (sz_mulN h2.nu h1.den (by omega))) (sz_mulN h1.den h2.den hM)
theorem Sd.mul {n d m e : Nat} {r s : Rat} (h1 : Sd n d r) (h2 : Sd m e s) : Sd (n + m) (d + e) (r * s) := by
  rw [mul_divInt]
  exact divInt_sd (den_mul_ne r s) (sz_mul h1.nu h2.nu) (sz_mul h1.den h2.den)
theorem Sd.div {n d m e : Nat} {r s : Rat} (h0 : s ≠ 0) (h1 : Sd n d r) (h2 : Sd m e s) : Sd (n + e) (d + m) (r / s) := by
  rw [div_divInt]
  exact divInt_sd (den_num_ne r h0) (sz_mul h1.nu h2.den) (sz_mul h1.den h2.nu)
theorem minus_S {n d m e : Nat} {r s : Rat} (h1 : Sd n d r) (h2 : Sd m e s) (h : n + e + m + d ≤ 900000) (hd : d + e ≤ 8000) : m_minus [R r, R s] () = .ok (R (r - s)) () := by
  apply oE_eq
  unfold m_minus b_minus
  simp
  rw [share_R (den_mul_ne r s) (sz_mulN h1.den h2.den hd), ← sub_divInt]
  exact ⟨mulW h1.nu h2.den (by omega), mulW h2.nu h1.den (by omega), mulW h1.den h2.den (by omega), rfl⟩
theorem along_S {p q : Int} {x y : Rat} {k n d m e : Nat} (hp : p.natAbs < 2 ^ k) (hq : q.natAbs < 2 ^ k) (hx : Sd n d x) (hy : Sd m e y) (h : k + n + d + m + e ≤ 900000) (hd : d + e ≤ 8000) : m_along [Wy p q, S2 x y] () = .ok (R ((p : Rat) * x + (q : Rat) * y)) () := by
  apply oE_eq
  unfold m_along b_along
  simp
  unfold Nxt
  simp
  rw [share_R (den_mul_ne x y) (sz_mulN hx.den hy.den hd), ← along_divInt]
  exact ⟨mulW hp hx.nu (by omega), mulW (sz_mul hp hx.nu) hy.den (by omega), mulW hq hy.nu (by omega), mulW (sz_mul hq hy.nu) hx.den (by omega), mulW hx.den hy.den (by omega), rfl⟩
theorem Sd.along {p q : Int} {x y : Rat} {k n d m e N M : Nat} (hp : p.natAbs < 2 ^ k) (hq : q.natAbs < 2 ^ k) (hx : Sd n d x) (hy : Sd m e y) (hN : k + n + e < N) (hN' : k + m + d < N) (hM : d + e ≤ M) : Sd N M ((p : Rat) * x + (q : Rat) * y) := by
  rw [along_divInt]
  obtain ⟨N, rfl⟩ : ∃ k, N = k + 1 := ⟨N - 1, by omega⟩
  exact divInt_sd (den_mul_ne x y) (sz_add (sz_mulN (sz_mul hp hx.nu) hy.den (by omega)) (sz_mulN (sz_mul hq hy.nu) hx.den (by omega))) (sz_mulN hx.den hy.den hM)
theorem spot_minus_S {a b c d : Rat} {n e m f : Nat} (ha : Sd n e a) (hb : Sd n e b) (hc : Sd m f c) (hd : Sd m f d) (h : n + f + m + e ≤ 900000) (h' : e + f ≤ 8000) : m_spot_minus [S2 a b, S2 c d] () = .ok (S2 (a - c) (b - d)) () := by
  apply oE_eq
  unfold m_spot_minus b_spot_minus S2
  simp [zipD, oE_compCons, oE_compNil, wipeR, noOwn, minus_S ha hc h h', minus_S hb hd h h']
theorem plus_S {n d m e : Nat} {r s : Rat} (h1 : Sd n d r) (h2 : Sd m e s) (h : n + e + m + d ≤ 900000) (hd : d + e ≤ 8000) : m_plus [R r, R s] () = .ok (R (r + s)) () := by
  apply oE_eq
  unfold m_plus b_plus
  simp
  rw [share_R (den_mul_ne r s) (sz_mulN h1.den h2.den hd), ← add_divInt]
  exact ⟨mulW h1.nu h2.den (by omega), mulW h2.nu h1.den (by omega), mulW h1.den h2.den (by omega), rfl⟩
theorem times_S {n d m e : Nat} {r s : Rat} (h1 : Sd n d r) (h2 : Sd m e s) (h : n + e + m + d ≤ 900000) (hd : d + e ≤ 8000) : m_times [R r, R s] () = .ok (R (r * s)) () := by
  apply oE_eq
  unfold m_times b_times
  simp
  rw [share_R (den_mul_ne r s) (sz_mulN h1.den h2.den hd), ← mul_divInt]
  exact ⟨mulW h1.nu h2.nu (by omega), mulW h1.den h2.den (by omega), rfl⟩
inductive Pw {α β : Type} (p : α → β → Prop) : List α → List β → Prop
  | nil : Pw p [] []
  | cons {x : α} {y : β} {xs : List α} {ys : List β} : p x y → Pw p xs ys → Pw p (x :: xs) (y :: ys)
theorem Pw.len {α β : Type} {p : α → β → Prop} : ∀ {xs : List α} {ys : List β}, Pw p xs ys → xs.length = ys.length
  | _, _, .nil => rfl
  | _, _, .cons _ t => congrArg (· + 1) t.len
theorem Pw.right {α β : Type} {p : α → β → Prop} : ∀ {xs : List α} {ys : List β}, Pw p xs ys → ∀ y ∈ ys, ∃ x ∈ xs, p x y
  | _, _, .cons h t, y, hy => by
    rcases List.mem_cons.mp hy with rfl | hy
    · exact ⟨_, List.mem_cons_self, h⟩
    · obtain ⟨x, hx, hp⟩ := t.right y hy
      exact ⟨x, List.mem_cons_of_mem _ hx, hp⟩
theorem Pw.mono {α β : Type} {p q : α → β → Prop} (h : ∀ x y, p x y → q x y) : ∀ {xs : List α} {ys : List β}, Pw p xs ys → Pw q xs ys
  | _, _, .nil => .nil
  | _, _, .cons a t => .cons (h _ _ a) (t.mono h)
structure Nm (n : Nat) (x : Str) : Prop where
  lt : ∀ c ∈ x.cps.toList, 97 ≤ c ∧ c ≤ 122
  le : x.length ≤ n
theorem str_len (x : Str) : x.length = x.cps.toList.length := by show x.cps.size = _; simp
theorem Nm.mono {n m : Nat} {x : Str} (h : Nm n x) (hm : n ≤ m) : Nm m x := ⟨h.lt, Nat.le_trans h.le hm⟩
theorem Nm.ok {n : Nat} {x : Str} (h : Nm n x) : PyData.canLay0 (.str x) = true := by
  show (x.cps.all fun c => decide (c < 1114112)) = true
  rw [← Array.all_toList, List.all_eq_true]
  intro c hc
  have := h.lt c hc
  exact decide_eq_true (by omega)
theorem Nm.app {n m : Nat} {x y : Str} (h : Nm n x) (h2 : Nm m y) : Nm (n + m) (x ++ y) := by
  have e : (x ++ y).cps.toList = x.cps.toList ++ y.cps.toList := TL.tl_append x y
  refine ⟨fun c hc => ?_, ?_⟩
  · rw [e] at hc
    rcases List.mem_append.mp hc with q | q
    · exact h.lt c q
    · exact h2.lt c q
  · have a := h.le; have b := h2.le
    rw [str_len] at *
    rw [e, List.length_append]; omega
theorem Nm.cut {n : Nat} {x : Str} (h : Nm n x) (lo hi : Option Int) : Nm n (cutS x lo hi) := by
  have e : (cutS x lo hi).cps.toList = ((x.cps.toList.drop (HT.sIx x.length 0 lo)).take (HT.sIx x.length x.length hi - HT.sIx x.length 0 lo)) := by unfold cutS; simp
  refine ⟨fun c hc => ?_, ?_⟩
  · rw [e] at hc; exact h.lt c (List.mem_of_mem_drop (List.mem_of_mem_take hc))
  · have a := h.le
    rw [str_len] at *
    rw [e, List.length_take, List.length_drop]; omega
theorem Nm.nil : Nm 0 ⟨#[]⟩ := ⟨fun c hc => (nomatch hc), Nat.le_refl _⟩
theorem nm_join {n : Nat} : ∀ ys : List Str, (∀ y ∈ ys, Nm n y) → Nm (n * ys.length) (Txt.join "" ys) := fun ys h => by
  rw [TL.join_eq]
  have key : ∀ ys : List Str, (∀ y ∈ ys, Nm n y) → (∀ c ∈ TL.joinL [] (ys.map TL.tl), 97 ≤ c ∧ c ≤ 122) ∧ (TL.joinL [] (ys.map TL.tl)).length ≤ n * ys.length := by
    intro ys
    induction ys with
    | nil => intro _; exact ⟨fun c hc => (nomatch hc), Nat.le_refl _⟩
    | cons y r ih =>
      intro h
      have h1 := h y List.mem_cons_self
      have ih := ih fun z hz => h z (List.mem_cons_of_mem _ hz)
      have e : TL.joinL [] ((y :: r).map TL.tl) = TL.tl y ++ TL.joinL [] (r.map TL.tl) := by
        cases r with
        | nil => simp [TL.joinL]
        | cons z r => simp [TL.joinL]
      rw [e]
      refine ⟨fun c hc => ?_, ?_⟩
      · rcases List.mem_append.mp hc with q | q
        · exact h1.lt c q
        · exact ih.1 c q
      · rw [List.length_append, List.length_cons, Nat.mul_add, Nat.mul_one]
        have := h1.le
        rw [str_len] at this
        have : (TL.tl y).length ≤ n := this
        have := ih.2
        omega
  have e : (Str.join "" ys).cps.toList = TL.joinL [] (ys.map TL.tl) := TL.tl_join "" ys
  obtain ⟨k1, k2⟩ := key ys h
  exact ⟨fun c hc => k1 c (by rw [← e]; exact hc), by rw [str_len, e]; exact k2⟩
theorem letter_at {k : Int} (h0 : 0 ≤ k) (h1 : k < 26) : ∃ z, dIx (.str "abcdefghijklmnopqrstuvwxyz") (.int k) = some (.str z) ∧ Nm 1 z := by
  obtain ⟨j, rfl⟩ : ∃ j : Nat, k = (j : Int) := ⟨k.toNat, by omega⟩
  have all : ∀ c ∈ ("abcdefghijklmnopqrstuvwxyz" : Str).cps.toList, 97 ≤ c ∧ c ≤ 122 := by decide
  have hl : ("abcdefghijklmnopqrstuvwxyz" : Str).cps.toList.length = 26 := by decide
  have hj : j < ("abcdefghijklmnopqrstuvwxyz" : Str).cps.toList.length := by omega
  have e : atI ("abcdefghijklmnopqrstuvwxyz" : Str).cps.toList (j : Int) = some (("abcdefghijklmnopqrstuvwxyz" : Str).cps.toList[j]) := atI_nat (by rw [List.getElem?_eq_getElem hj])
  refine ⟨⟨#[("abcdefghijklmnopqrstuvwxyz" : Str).cps.toList[j]]⟩, ?_, fun c hc => ?_, Nat.le_refl _⟩
  · show (if lim2 ("abcdefghijklmnopqrstuvwxyz" : Str).length = true then (atI ("abcdefghijklmnopqrstuvwxyz" : Str).cps.toList (j : Int)).map fun c => D.str ⟨#[c]⟩ else none) = _
    rw [if_pos (by decide), e]; rfl
  · simp at hc
    rw [hc]
    exact all _ (List.getElem_mem hj)
theorem strsD_map : ∀ ys : List Str, strsD (ys.map D.str) = some ys
  | [] => rfl
  | y :: ys => by show (strsD (ys.map D.str)).map (y :: ·) = _; rw [strsD_map ys]; rfl
theorem join_ok {n : Nat} {ys : List Str} (h : ∀ y ∈ ys, Nm n y) (hl : n * ys.length ≤ 1000000) : dJoin "" (.lst (ys.map D.str)) = some (.str (Txt.join "" ys)) := by
  show (strsD (ys.map D.str)).bind _ = _
  rw [strsD_map, Option.bind_some, if_pos]
  refine decide_eq_true ?_
  have : ∀ ys : List Str, (∀ y ∈ ys, Nm n y) → (ys.map (·.length)).sum ≤ n * ys.length := fun ys => by
    induction ys with
    | nil => intro _; exact Nat.le_refl _
    | cons y r ih =>
      intro h
      have h1 := (h y List.mem_cons_self).le
      have ih := ih fun z hz => h z (List.mem_cons_of_mem _ hz)
      simp only [List.map_cons, List.sum_cons, List.length_cons, Nat.mul_add, Nat.mul_one]
      omega
  have := this ys h
  have e0 : ("" : Str).length = 0 := rfl
  rw [e0, Nat.mul_zero]; omega
theorem lim2_nm {n : Nat} {x : Str} (h : Nm n x) (hn : n ≤ 1000) : lim2 x.length = true := decide_eq_true (by have := h.le; omega)
theorem eqD_str {x y : Str} (hx : PyData.canLay0 (.str x) = true) (hy : PyData.canLay0 (.str y) = true) : eqD (.str x) (.str y) = some (decide (x = y)) := by
  unfold eqD
  dsimp only [py]
  rw [if_pos ⟨Bool.and_eq_true_iff.mpr ⟨hx, rfl⟩, Bool.and_eq_true_iff.mpr ⟨hy, rfl⟩⟩]
  by_cases e : x = y <;> simp [PyData.eqv, e]
theorem add_nm {n m : Nat} {x y : Str} (h : Nm n x) (h2 : Nm m y) (hn : n + m ≤ 1000) : dAdd (.str x) (.str y) = some (.str (x ++ y)) := by
  show (if lim2 (x.length + y.length) = true then some (D.str (x ++ y)) else none) = _
  rw [if_pos]
  exact decide_eq_true (by have := h.le; have := h2.le; omega)
theorem cut_nm {n : Nat} {x : Str} {lo hi : Option Int} (h : Nm n x) (hn : n ≤ 1000) : dCutA (.str x) lo hi = some (.str (cutS x lo hi)) := by
  show (if lim2 x.length = true then some (D.str (cutS x lo hi)) else none) = _
  rw [if_pos (lim2_nm h hn)]
theorem law_share_pos {a b : Int} (hb : 0 < b) (hs : b.natAbs < 2 ^ 8000) : m__law_share [.int a, .int b] () = .ok (R (Rat.divInt a b)) () := by
  obtain ⟨a', b', e1, e2, e3, e4⟩ := gcd_parts a b (by omega)
  have sg : (Int.gcd a b : Int).natAbs < 2 ^ 8000 := by
    have : Int.gcd a b ≤ b.natAbs := Int.gcd_le_natAbs_right _ (by omega)
    omega
  have gz : (Int.gcd a b : Int) ≠ 0 := by omega
  generalize hgg : (Int.gcd a b : Int) = g at *
  have da : a.fdiv g = a' := by rw [e1]; exact fdiv_gcd gz
  have db : b.fdiv g = b' := by rw [e2]; exact fdiv_gcd gz
  have o1 : ∀ x, divOk x g = true := fun x => small_div gz sg (by decide) (by decide)
  have b0 : 0 < b' := by
    apply Classical.byContradiction
    intro z
    have := Int.mul_nonneg (Int.le_of_lt e4) (show 0 ≤ -b' by omega)
    rw [Int.mul_neg, ← e2] at this
    omega
  have cross : a' * b = b' * a := by
    rw [e1, e2]
    rw [← Int.mul_assoc, ← Int.mul_assoc, Int.mul_comm a' g, Int.mul_comm b' g, Int.mul_assoc, Int.mul_assoc, Int.mul_comm a' b']
  obtain ⟨q1, q2⟩ := rat_of (a := a) (b := b) (p := a') (q := b') (by omega) (by omega) e3 cross
  apply oE_eq
  unfold m__law_share b__law_share
  simp [Nxt, law_gcd_ok, hgg, da, db, o1, R, q1, q2]
theorem cell_ok (ns : List Int) (k : Nat) (hk : k ≤ 1000000000000) : ∃ c : Nat, m__law_cell [.lst (ns.map .int), .int (k : Nat)] () = .ok (.int c) () := by
  by_cases h : ns.length = 0
  · refine ⟨7 * k + 3, oE_eq ?_⟩
    unfold m__law_cell b__law_cell
    simp [Nxt, h]
    exact small_mul (i := 7) (j := k) (a := 8) (b := 50) (by decide) (by omega) (by decide) (by decide) (by decide)
  · have hl : k % ns.length < ns.length := Nat.mod_lt _ (by omega)
    refine ⟨(ns[k % ns.length]).natAbs, oE_eq ?_⟩
    have e : atI (ns.map D.int) ((k : Int) % (ns.length : Int)) = some (.int ns[k % ns.length]) := by rw [← Int.natCast_emod]; exact atI_nat (by rw [List.getElem?_map, List.getElem?_eq_getElem hl]; rfl)
    have h' : ((ns.length : Nat) : Int) ≠ 0 := by omega
    unfold m__law_cell b__law_cell
    simp [Nxt, h, h', fmod_nat, e]
structure TkOk (ns : List Int) (t t' : Dk) : Prop where
  a : t'.a = t.a
  scr : t'.scr = .lst (ns.map .int)
  cnt : t'.cnt ≤ t.cnt + 1
theorem take_ok {ns : List Int} {t : Dk} (hs : t.scr = .lst (ns.map .int)) (hc : t.cnt < 100000000000) {m : Int} (hm : manyOk m) : ∃ (r : Int) (t' : Dk), m__law_take [.at t.a, .int m] t = .ok (.int r) t' ∧ 0 ≤ r ∧ r < m ∧ TkOk ns t t' := by
  have key : oE (m__law_take [.at t.a, .int m] t) (fun d t' => ∃ r : Int, d = .int r ∧ 0 ≤ r ∧ r < m ∧ TkOk ns t t') (fun _ _ _ => False) := by
    unfold m__law_take b__law_take
    simp [Nxt, Nxt]
    refine oS_while (fun n ρ u => ∃ (z : Slot), ρ = [.val (.at t.a), .val (.int m), z, .no] ∧ u.a = t.a ∧ u.scr = .lst (ns.map .int) ∧ u.cnt = t.cnt ∧ n = u.big.length - u.pos) ?_ _ _ _ ⟨_, rfl, rfl, hs, rfl, rfl⟩
    rintro n ρ u ⟨z, rfl, ha, hsc, hcn, rfl⟩
    simp [Nxt, ha, hsc, hcn]
    by_cases hp : u.pos < u.big.length
    · right
      refine ⟨hp, u.big[u.pos], List.getElem?_eq_getElem hp, ?_⟩
      by_cases hc0 : u.big[u.pos] ≤ 0
      · left; exact ⟨hc0, by omega, by omega⟩
      · right
        have f := fmod_pos (a := u.big[u.pos]) hm.1
        exact ⟨by omega, small_div (by have := hm.1; omega) hm.2 (by decide) (by decide), hp, by have := hm.1; omega, f.1, f.2, rfl, rfl, Nat.le_succ _⟩
    · left
      refine ⟨by omega, by omega, ?_⟩
      have e : max ((t.cnt : Int) + 1) 0 = ((t.cnt + 1 : Nat) : Int) := by omega
      rw [e]
      obtain ⟨c, hc'⟩ := cell_ok ns (t.cnt + 1) (by omega)
      rw [hc']
      simp
      have c1 := fmod_pos (a := (c : Int)) (b := 1000003) (by decide)
      generalize (c : Int).fmod 1000003 = x at c1 ⊢
      generalize hy : (((t.cnt + 1 : Nat) : Int)) = y at *
      have hy2 : ((t.cnt : Int) + 1) = y := by omega
      try rw [hy2]
      have m1 : (x + 5) * (y + 2) ≤ 1000008 * (y + 2) := Int.mul_le_mul_of_nonneg_right (by omega) (by omega)
      have m0 : 0 ≤ (x + 5) * (y + 2) := Int.mul_nonneg (by omega) (by omega)
      refine ⟨small_mul (i := x + 5) (j := y + 2) (a := 50) (b := 50) (by omega) (by omega) (by decide) (by decide) (by decide), small_mul (i := 7919) (j := y) (a := 50) (b := 50) (by decide) (by omega) (by decide) (by decide) (by decide), decide_eq_true ⟨by decide, by decide, ?_⟩, ?_, ?_, (fmod_pos hm.1).1, (fmod_pos hm.1).2, rfl, rfl, Nat.le_refl _⟩
      · generalize (x + 5) * (y + 2) = z at m1 m0 ⊢
        omega
      · exact small_div (b := 4) (by decide) (by decide) (by decide) (by decide)
      · have := hm.1; omega
  obtain ⟨d, u, e, r, rfl, h⟩ := oE_ex' key
  exact ⟨r, u, e, h⟩
structure Gd (ns : List Int) (a : Addr) (n : Nat) (t : Dk) : Prop where
  scr : t.scr = .lst (ns.map .int)
  ad : t.a = a
  cnt : t.cnt ≤ n
theorem Gd.le {ns : List Int} {a : Addr} {n m : Nat} {t : Dk} (g : Gd ns a n t) (h : n ≤ m) : Gd ns a m t := ⟨g.scr, g.ad, Nat.le_trans g.cnt h⟩
theorem take_wp {ns : List Int} {a : Addr} {n : Nat} {t : Dk} {m : Int} {Q : D → Dk → Prop} {X : Str → Fds → Dk → Prop} (g : Gd ns a n t) (hc : n < 100000000000) (hm : manyOk m) (h : ∀ (r : Int) (t' : Dk), 0 ≤ r → r < m → Gd ns a (n + 1) t' → Q (.int r) t') :
    oE (m__law_take [.at a, .int m] t) Q X := by
  obtain ⟨r, t', e, h0, h1, h2⟩ := take_ok g.scr (Nat.lt_of_le_of_lt g.cnt hc) hm
  rw [g.ad] at e
  rw [e]
  exact h r t' h0 h1 ⟨h2.scr, h2.a.trans g.ad, Nat.le_trans h2.cnt (Nat.succ_le_succ g.cnt)⟩
theorem deck_ok (ns : List Int) (hl : ns.length ≤ 63) : ∃ big, m__law_deck [.scr ns] = some (.lst (ns.map .int), big) := by
  let R0 : Rho := [.val (.scr ns), .val (.lst (ns.map .int)), .no]
  obtain ⟨ys, e, hy⟩ := compL_ok (g := gN 2) (tt := e1 asB (e2 dGe (e1 fAbs (aCons (eVarW 2) aNil)) (e2 dPow (eC (.int 10)) (eC (.int 18))))) (te := e1 fAbs (aCons (eVarW 2) aNil)) (ρ := R0) (p := fun y => ∃ i, y = .int i) (ns.map .int) (fun d hd => by
    obtain ⟨i, _, rfl⟩ := List.mem_map.mp hd
    refine ⟨_, rfl, decide ((10 : Int) ^ 18 ≤ (i.natAbs : Int)), oE_eq ?_, fun _ => ⟨.int (i.natAbs : Int), oE_eq ?_, _, rfl⟩⟩
    · simp [R0]
      decide
    · simp [R0])
  obtain ⟨big, eb⟩ := intsD_all ys hy
  have ec : eComp (e1 itD (eVar 1)) [2] (gN 2) (e1 asB (e2 dGe (e1 fAbs (aCons (eVarW 2) aNil)) (e2 dPow (eC (.int 10)) (eC (.int 18))))) (e1 fAbs (aCons (eVarW 2) aNil)) R0 () = .ok ys () := by
    show (if (ns.map D.int).length ≤ 16777216 ∧ noOwn R0 [2] = true then compL _ _ _ (wipeR R0 [2]) (ns.map D.int) () else .bad) = _
    rw [if_pos ⟨by rw [List.length_map]; omega, rfl⟩]
    exact e
  have cutall : cutD (ns.map D.int) none (some 63) = ns.map D.int := by
    unfold cutD
    have e0 : HT.sIx (ns.map D.int).length 0 none = 0 := rfl
    have e1 : HT.sIx (ns.map D.int).length (ns.map D.int).length (some 63) = (ns.map D.int).length := by
      unfold HT.sIx
      rw [List.length_map]
      dsimp only
      rw [if_neg (by decide)]
      omega
    rw [e0, e1, List.drop_zero, Nat.sub_zero, List.take_length]
  have es : (sAsg (gN 1) (eLst (e1 fLst (aCons (eLst (e3 dCutS (eVarW 0) oNone (oSome (eC (.int 63))))) aNil))) : MS Unit) [.val (.scr ns), .no, .no] () = .nx R0 () := by
    have key : oS ((sAsg (gN 1) (eLst (e1 fLst (aCons (eLst (e3 dCutS (eVarW 0) oNone (oSome (eC (.int 63))))) aNil))) : MS Unit) [.val (.scr ns), .no, .no] ()) { nx := fun ρ t => ρ = R0, rt := fun _ _ => False } := by
      simp [cutall, show fLst [.lst (ns.map D.int)] = some (ns.map D.int) from rfl]
      rfl
    generalize (sAsg (gN 1) (eLst (e1 fLst (aCons (eLst (e3 dCutS (eVarW 0) oNone (oSome (eC (.int 63))))) aNil))) : MS Unit) [.val (.scr ns), .no, .no] () = r at key ⊢
    cases r <;> first
      | exact key.elim
      | (rw [show _ = R0 from key])
  refine ⟨big, ?_⟩
  show (match (sAsg (gN 1) (eLst (e1 fLst (aCons (eLst (e3 dCutS (eVarW 0) oNone (oSome (eC (.int 63))))) aNil))) : MS Unit) [.val (.scr ns), .no, .no] () with
    | .nx ρ' _ => retD 1 (eComp (e1 itD (eVar 1)) [2] (gN 2) (e1 asB (e2 dGe (e1 fAbs (aCons (eVarW 2) aNil)) (e2 dPow (eC (.int 10)) (eC (.int 18))))) (e1 fAbs (aCons (eVarW 2) aNil))) ρ'
    | _ => none) = _
  rw [es]
  show (match aVar 1 R0, eComp (e1 itD (eVar 1)) [2] (gN 2) (e1 asB (e2 dGe (e1 fAbs (aCons (eVarW 2) aNil)) (e2 dPow (eC (.int 10)) (eC (.int 18))))) (e1 fAbs (aCons (eVarW 2) aNil)) R0 () with
    | some d, .ok ds _ => (intsD ds).map fun l => (d, l)
    | _, _ => none) = some (.lst (ns.map .int), big)
  rw [ec]
  show (intsD ys).map _ = _
  rw [eb]
  rfl
theorem comp_wp {ns : List Int} {a : Addr} {g : Tgt} {te : ME Dk D} {ρ : Rho} {p : D → D → Prop} {k B : Nat} {Q : List D → Dk → Prop} {X : Str → Fds → Dk → Prop} : ∀ (ds : List D)
    (hg : ∀ d ∈ ds, ∀ n t, Gd ns a n t → n ≤ B → ∃ ρ1, g ρ d = some ρ1 ∧ oE (te ρ1 t) (fun y t' => p d y ∧ Gd ns a (n + k) t') (fun _ _ _ => False)) (n : Nat) (t : Dk), Gd ns a n t → n + k * ds.length ≤ B →
    (∀ ys t', Pw p ds ys → Gd ns a (n + k * ds.length) t' → Q ys t') → oE (compL g (fun _ t => .ok true t) te ρ ds t) Q X
  | [], hg, n, t, h, hB, hQ => hQ [] t .nil (by simpa using h)
  | d :: ds, hg, n, t, h, hB, hQ => by
    rw [List.length_cons, Nat.mul_add] at hB
    obtain ⟨ρ1, e1, e2⟩ := hg d List.mem_cons_self n t h (by omega)
    rw [oE_compCons]
    refine ⟨ρ1, e1, ?_⟩
    simp only [oE_ok, not_true_eq_false, false_implies, and_true, forall_const]
    refine oE_imp e2 (fun y t1 ⟨py, h1⟩ => ?_) fun _ _ _ z => z
    refine comp_wp ds (fun d hd => hg d (List.mem_cons_of_mem _ hd)) (n + k) t1 h1 (by omega) fun ys t' hys h' => hQ _ _ (.cons py hys) ?_
    rw [List.length_cons, Nat.mul_add]
    exact h'.le (by omega)
theorem pw_nm {k : Nat} : ∀ {ds ys : List D}, Pw (fun _ y => ∃ x, y = .str x ∧ Nm k x) ds ys → ∃ xs : List Str, ys = xs.map D.str ∧ (∀ x ∈ xs, Nm k x) ∧ xs.length = ds.length
  | _, _, .nil => ⟨[], rfl, fun x hx => (nomatch hx), rfl⟩
  | _, _, .cons h t => by
    obtain ⟨x, rfl, hx⟩ := h
    obtain ⟨xs, rfl, h1, h2⟩ := pw_nm t
    refine ⟨x :: xs, rfl, fun y hy => ?_, by simp [h2]⟩
    rcases List.mem_cons.mp hy with rfl | hy
    · exact hx
    · exact h1 y hy
def pt (p : Int × Int) : D := .tup [.int p.1, .int p.2]
def pyP (p : Int × Int) : PyData := .tuple [.int p.1, .int p.2]
theorem pys_pts : ∀ ps : List (Int × Int), pys (ps.map pt) = some (ps.map pyP)
  | [] => rfl
  | p :: ps => by
    have e : py (pt p) = some (pyP p) := rfl
    simp [pys, e, pys_pts ps]
theorem sort_pts (ps : List (Int × Int)) : ∃ qs : List (Int × Int), fSortD [.lst (ps.map pt)] = some (qs.map pt) ∧ qs.Perm ps := by
  have e := pys_pts ps
  have c : SrtC (ps.map pyP) := by
    refine ⟨.inl ⟨fun d hd d' hd' => ?_, .inl fun d hd => ?_⟩, fun d hd => ?_⟩
    · obtain ⟨x, _, rfl⟩ := List.mem_map.mp hd
      obtain ⟨y, _, rfl⟩ := List.mem_map.mp hd'
      rfl
    · obtain ⟨x, _, rfl⟩ := List.mem_map.mp hd
      exact ⟨_, _, rfl⟩
    · obtain ⟨x, _, rfl⟩ := List.mem_map.mp hd
      show PyData.depth (.tuple [.int x.1, .int x.2]) ≤ 50
      simp [PyData.depth, PyData.depthAll]
  refine ⟨ps.mergeSort (PySem.W.dataLe false pyP), ?_, List.mergeSort_perm ..⟩
  show (pys (ps.map pt)).bind _ = _
  rw [e, Option.bind_some, if_pos c, sortV_of (le := PySem.W.dataLe false pyP) ps fun _ _ _ _ => rfl]
def lx (a b : Int × Int) : Prop := a.1 < b.1 ∨ (a.1 = b.1 ∧ a.2 < b.2)
def lf (a b c : Int × Int) : Int := (b.1 - a.1) * (c.2 - a.2) - (b.2 - a.2) * (c.1 - a.1)
theorem cr_trans {a1 a2 b1 b2 c1 c2 : Int} (ha : 0 < a1 ∨ (a1 = 0 ∧ 0 < a2)) (hb : 0 < b1 ∨ (b1 = 0 ∧ 0 < b2)) (hc : 0 < c1 ∨ (c1 = 0 ∧ 0 < c2)) (h1 : 0 ≤ a1 * b2 - a2 * b1) (h2 : 0 < b1 * c2 - b2 * c1) : 0 < a1 * c2 - a2 * c1 := by
  rcases hb with hb | ⟨rfl, hb⟩
  · have id : b1 * (a1 * c2 - a2 * c1) = a1 * (b1 * c2 - b2 * c1) + c1 * (a1 * b2 - a2 * b1) := by grind
    have hc0 : 0 ≤ c1 := by omega
    rcases ha with ha | ⟨rfl, ha⟩
    · have p1 := Int.mul_pos ha h2
      have p2 := Int.mul_nonneg hc0 h1
      have p3 : 0 < b1 * (a1 * c2 - a2 * c1) := by omega
      exact Int.pos_of_mul_pos_right p3 hb |> fun h => h
    · have := Int.mul_pos ha hb
      omega
  · rcases hc with hc | ⟨rfl, hc⟩
    · have := Int.mul_pos hb hc
      omega
    · omega
theorem bump {g : Nat → Int} {A B : Nat} (hA : 0 ≤ g A) (hB : 0 ≤ g B) (hs : ∀ k, A ≤ k → k + 1 < B → g (k + 1) - g k ≤ 0 → g (k + 2) - g (k + 1) < 0) (k : Nat) (h1 : A < k) (h2 : k < B) : 0 < g k := by
  apply Classical.byContradiction
  intro hk
  have s1 : ∃ j, A ≤ j ∧ j < k ∧ g (j + 1) - g j ≤ 0 := by
    apply Classical.byContradiction
    intro h
    have up : ∀ n, A + n ≤ k → g A + n ≤ g (A + n) := by
      intro n
      induction n with
      | zero => intro _; simp
      | succ n ih =>
        intro hn
        have := ih (by omega)
        have q : ¬ g (A + n + 1) - g (A + n) ≤ 0 := fun z => h ⟨A + n, by omega, by omega, z⟩
        show g A + ((n + 1 : Nat) : Int) ≤ g (A + n + 1)
        omega
    have := up (k - A) (by omega)
    rw [show A + (k - A) = k by omega] at this
    omega
  obtain ⟨j, j1, j2, j3⟩ := s1
  have dn : ∀ n, j + n + 1 < B → g (j + n + 2) - g (j + n + 1) < 0 := by
    intro n
    induction n with
    | zero => intro hn; exact hs j j1 hn j3
    | succ n ih =>
      intro hn
      have := ih (by omega)
      exact hs (j + n + 1) (by omega) hn (Int.le_of_lt this)
  have fin : ∀ n, k + n < B → g (k + n + 1) < g k := by
    intro n
    induction n with
    | zero =>
      intro hn
      have := dn (k - j - 1) (by omega)
      rw [show j + (k - j - 1) + 2 = k + 1 by omega, show j + (k - j - 1) + 1 = k by omega] at this
      show g (k + 1) < g k
      omega
    | succ n ih =>
      intro hn
      have h := ih (by omega)
      have := dn (k + n - j) (by omega)
      rw [show j + (k + n - j) + 2 = k + (n + 1) + 1 by omega, show j + (k + n - j) + 1 = k + n + 1 by omega] at this
      omega
  have := fin (B - k - 1) (by omega)
  rw [show k + (B - k - 1) + 1 = B by omega] at this
  omega
structure Cyc (q : Nat → Int × Int) (a m : Nat) : Prop where
  lo : ∀ j, j < a → lx (q j) (q (j + 1))
  hi : ∀ j, a ≤ j → j < m → lx (q (j + 1)) (q j)
  tlo : ∀ j, j + 1 < a → 0 < lf (q j) (q (j + 1)) (q (j + 2))
  thi : ∀ j, a ≤ j → j + 1 < m → 0 < lf (q j) (q (j + 1)) (q (j + 2))
  ends : q m = q 0
  am : a ≤ m
section
variable {q : Nat → Int × Int} {a m : Nat}
def dxq (q : Nat → Int × Int) (j : Nat) : Int := (q (j + 1)).1 - (q j).1
def dyq (q : Nat → Int × Int) (j : Nat) : Int := (q (j + 1)).2 - (q j).2
def crq (q : Nat → Int × Int) (i j : Nat) : Int := dxq q i * dyq q j - dyq q i * dxq q j
theorem crq_anti (i j : Nat) : crq q i j = - crq q j i := by unfold crq; grind
theorem lf_next (i k : Nat) : lf (q i) (q (i + 1)) (q (k + 1)) - lf (q i) (q (i + 1)) (q k) = crq q i k := by unfold lf crq dxq dyq; grind
theorem lf_at (i : Nat) : lf (q i) (q (i + 1)) (q i) = 0 := by unfold lf; grind
theorem lf_at1 (i : Nat) : lf (q i) (q (i + 1)) (q (i + 1)) = 0 := by unfold lf; grind
theorem crq_turn (j : Nat) : crq q j (j + 1) = lf (q j) (q (j + 1)) (q (j + 2)) := by
  have h := lf_next (q := q) j (j + 1)
  rw [lf_at1] at h
  rw [← h]; exact Int.sub_zero _
theorem lo_pos (h : lx (q i) (q (i + 1))) : 0 < dxq q i ∨ (dxq q i = 0 ∧ 0 < dyq q i) := by unfold dxq dyq; rcases h with h | ⟨h1, h2⟩ <;> omega
theorem hi_pos (h : lx (q (i + 1)) (q i)) : 0 < -dxq q i ∨ (-dxq q i = 0 ∧ 0 < -dyq q i) := by unfold dxq dyq; rcases h with h | ⟨h1, h2⟩ <;> omega
theorem Cyc.cross_lo (C : Cyc q a m) {i : Nat} : ∀ n, i + n + 1 < a → 0 < crq q i (i + n + 1) := by
  intro n
  induction n with
  | zero => intro h; rw [crq_turn]; exact C.tlo i h
  | succ n ih =>
    intro h
    have h1 := ih (by omega)
    have h2 := C.tlo (i + n + 1) (by omega)
    rw [← crq_turn] at h2
    exact cr_trans (lo_pos (C.lo i (by omega))) (lo_pos (C.lo (i + n + 1) (by omega))) (lo_pos (C.lo (i + n + 2) (by omega))) (Int.le_of_lt h1) h2
theorem Cyc.cross_hi (C : Cyc q a m) {i : Nat} (hi : a ≤ i) : ∀ n, i + n + 1 < m → 0 < crq q i (i + n + 1) := by
  intro n
  induction n with
  | zero => intro h; rw [crq_turn]; exact C.thi i hi h
  | succ n ih =>
    intro h
    have h1 := ih (by omega)
    have h2 := C.thi (i + n + 1) (by omega) (by omega)
    rw [← crq_turn] at h2
    have := cr_trans (hi_pos (C.hi i hi (by omega))) (hi_pos (C.hi (i + n + 1) (by omega) (by omega))) (hi_pos (C.hi (i + n + 2) (by omega) (by omega))) (by unfold crq at h1; grind) (by unfold crq at h2; grind)
    show 0 < crq q i (i + n + 2)
    unfold crq
    grind
theorem Cyc.up_same {i b : Nat} (hc : ∀ n, i + n + 1 < b → 0 < crq q i (i + n + 1)) : ∀ n, i + n + 2 ≤ b → 0 < lf (q i) (q (i + 1)) (q (i + n + 2)) := by
  intro n
  induction n with
  | zero =>
    intro h
    have := lf_next (q := q) i (i + 1)
    rw [lf_at1] at this
    have := hc 0 (by omega)
    show 0 < lf (q i) (q (i + 1)) (q (i + 1 + 1))
    simp only [Nat.add_zero] at *
    omega
  | succ n ih =>
    intro h
    have h1 := ih (by omega)
    have h2 := lf_next (q := q) i (i + n + 2)
    have h3 := hc (n + 1) (by omega)
    show 0 < lf (q i) (q (i + 1)) (q (i + n + 2 + 1))
    rw [show i + (n + 1) + 1 = i + n + 2 by omega] at h3
    omega
theorem Cyc.dn_same {i b : Nat} (hc : ∀ k, b ≤ k → k < i → 0 < crq q k i) : ∀ n, b + n + 1 ≤ i → 0 < lf (q i) (q (i + 1)) (q (i - n - 1)) := by
  intro n
  induction n with
  | zero =>
    intro h
    have h2 := lf_next (q := q) i (i - 1)
    rw [show i - 1 + 1 = i by omega, lf_at, crq_anti] at h2
    have := hc (i - 1) (by omega) (by omega)
    show 0 < lf (q i) (q (i + 1)) (q (i - 1))
    omega
  | succ n ih =>
    intro h
    have h1 := ih (by omega)
    have h2 := lf_next (q := q) i (i - (n + 1) - 1)
    rw [show i - (n + 1) - 1 + 1 = i - n - 1 by omega, crq_anti] at h2
    have := hc (i - (n + 1) - 1) (by omega) (by omega)
    omega
theorem Cyc.left (C : Cyc q a m) (i k : Nat) (hi : i < m) (hk : k < m) (h1 : k ≠ i) (h2 : k ≠ i + 1) (h3 : i + 1 = m → k ≠ 0) : 0 < lf (q i) (q (i + 1)) (q k) := by
  by_cases ha : i < a
  · have up : ∀ k, i + 1 < k → k ≤ a → 0 < lf (q i) (q (i + 1)) (q k) := fun k x y => by
      have := Cyc.up_same (q := q) (i := i) (b := a) C.cross_lo (k - i - 2) (by omega)
      rwa [show i + (k - i - 2) + 2 = k by omega] at this
    have dn : ∀ k, k < i → 0 < lf (q i) (q (i + 1)) (q k) := fun k x => by
      have := Cyc.dn_same (q := q) (i := i) (b := 0) (fun k _ y => by
        have := C.cross_lo (i := k) (i - k - 1) (by omega)
        rwa [show k + (i - k - 1) + 1 = i by omega] at this) (i - k - 1) (by omega)
      rwa [show i - (i - k - 1) - 1 = k by omega] at this
    by_cases hka : k ≤ a
    · rcases Nat.lt_or_gt_of_ne h1 with h | h
      · exact dn k h
      · exact up k (by omega) hka
    · refine bump (g := fun k => lf (q i) (q (i + 1)) (q k)) (A := a) (B := m) ?_ ?_ ?_ k (by omega) hk
      · by_cases e : a = i + 1
        · rw [e]; rw [lf_at1]; exact Int.le_refl _
        · exact Int.le_of_lt (up a (by omega) (Nat.le_refl _))
      · rw [C.ends]
        by_cases e : i = 0
        · rw [e, lf_at]; exact Int.le_refl _
        · exact Int.le_of_lt (dn 0 (by omega))
      · intro k x y z
        rw [lf_next] at z
        rw [show k + 2 = k + 1 + 1 from rfl, lf_next]
        have h2 := C.thi k x y
        rw [← crq_turn] at h2
        have := cr_trans (lo_pos (C.lo i ha)) (hi_pos (C.hi k x (by omega))) (hi_pos (C.hi (k + 1) (by omega) y)) (by unfold crq at z; grind) (by unfold crq at h2; grind)
        unfold crq
        grind
  · have up : ∀ k, i + 1 < k → k ≤ m → 0 < lf (q i) (q (i + 1)) (q k) := fun k x y => by
      have := Cyc.up_same (q := q) (i := i) (b := m) (C.cross_hi (by omega)) (k - i - 2) (by omega)
      rwa [show i + (k - i - 2) + 2 = k by omega] at this
    have dn : ∀ k, a ≤ k → k < i → 0 < lf (q i) (q (i + 1)) (q k) := fun k w x => by
      have := Cyc.dn_same (q := q) (i := i) (b := a) (fun k z y => by
        have := C.cross_hi (i := k) z (i - k - 1) (by omega)
        rwa [show k + (i - k - 1) + 1 = i by omega] at this) (i - k - 1) (by omega)
      rwa [show i - (i - k - 1) - 1 = k by omega] at this
    have zero : i + 1 ≠ m → 0 < lf (q i) (q (i + 1)) (q 0) := fun h => by
      rw [← C.ends]; exact up m (by omega) (Nat.le_refl _)
    by_cases hka : a ≤ k
    · rcases Nat.lt_or_gt_of_ne h1 with h | h
      · exact dn k hka h
      · exact up k (by omega) (by omega)
    · by_cases k0 : k = 0
      · rw [k0]; exact zero fun e => h3 e k0
      refine bump (g := fun k => lf (q i) (q (i + 1)) (q k)) (A := 0) (B := a) ?_ ?_ ?_ k (by omega) (by omega)
      · by_cases e : i + 1 = m
        · rw [← C.ends, ← e, lf_at1]; exact Int.le_refl _
        · exact Int.le_of_lt (zero e)
      · by_cases e : a = i
        · rw [e, lf_at]; exact Int.le_refl _
        · exact Int.le_of_lt (dn a (Nat.le_refl _) (by omega))
      · intro k x y z
        rw [lf_next] at z
        rw [show k + 2 = k + 1 + 1 from rfl, lf_next]
        have h2 := C.tlo k y
        rw [← crq_turn] at h2
        have := cr_trans (hi_pos (C.hi i (by omega) hi)) (lo_pos (C.lo k (by omega))) (lo_pos (C.lo (k + 1) y)) (by unfold crq at z; grind) (by unfold crq at h2; grind)
        unfold crq
        grind
end
theorem le_pts (a b : Int × Int) : PySem.W.dataLe false pyP a b = true ↔ a = b ∨ lx a b := by
  have e : PySem.W.dataLe false pyP a b = !(decide (b.1 < a.1) || (!decide (a.1 < b.1) && (decide (b.2 < a.2) || (!decide (a.2 < b.2) && false)))) := by
    obtain ⟨a1, a2⟩ := a
    obtain ⟨b1, b2⟩ := b
    show (!(decide ((1 : Int) < 1) || (!decide ((1 : Int) < 1) && (decide (b1 < a1) || (!decide (a1 < b1) && (decide ((1 : Int) < 1) || (!decide ((1 : Int) < 1) && (decide (b2 < a2) || (!decide (a2 < b2) && (decide ((0 : Int) < 0) || (!decide ((0 : Int) < 0) && false))))))))))) = _
    simp
  rw [e]
  obtain ⟨a1, a2⟩ := a
  obtain ⟨b1, b2⟩ := b
  unfold lx
  simp
  omega
def sP (ps : List (Int × Int)) : List (Int × Int) := ps.mergeSort (PySem.W.dataLe false pyP)
theorem lx_trans {a b c : Int × Int} (h1 : lx a b) (h2 : lx b c) : lx a c := by unfold lx at *; omega
theorem lx_irr {a : Int × Int} (h : lx a a) : False := by unfold lx at h; omega
theorem sP_perm (ps : List (Int × Int)) : (sP ps).Perm ps := List.mergeSort_perm ..
theorem sP_sorted (ps : List (Int × Int)) : (sP ps).Pairwise (fun a b => a = b ∨ lx a b) := by
  have h := List.pairwise_mergeSort (le := PySem.W.dataLe false pyP) (fun a b c h1 h2 => by
    rw [le_pts] at *
    rcases h1 with rfl | h1
    · exact h2
    · rcases h2 with rfl | h2
      · exact .inr h1
      · exact .inr (lx_trans h1 h2)) (fun a b => by
    rw [Bool.or_eq_true, le_pts, le_pts]
    obtain ⟨a1, a2⟩ := a
    obtain ⟨b1, b2⟩ := b
    unfold lx
    simp
    omega) ps
  exact h.imp fun h => (le_pts _ _).mp h
theorem sort_sP (ps : List (Int × Int)) : fSortD [.lst (ps.map pt)] = some ((sP ps).map pt) := by
  obtain ⟨qs, e, _⟩ := sort_pts ps
  have e := pys_pts ps
  have c : SrtC (ps.map pyP) := by
    refine ⟨.inl ⟨fun d hd d' hd' => ?_, .inl fun d hd => ?_⟩, fun d hd => ?_⟩
    · obtain ⟨x, _, rfl⟩ := List.mem_map.mp hd
      obtain ⟨y, _, rfl⟩ := List.mem_map.mp hd'
      rfl
    · obtain ⟨x, _, rfl⟩ := List.mem_map.mp hd
      exact ⟨_, _, rfl⟩
    · obtain ⟨x, _, rfl⟩ := List.mem_map.mp hd
      show PyData.depth (.tuple [.int x.1, .int x.2]) ≤ 50
      simp [PyData.depth, PyData.depthAll]
  show (pys (ps.map pt)).bind _ = _
  rw [e, Option.bind_some, if_pos c, sortV_of (le := PySem.W.dataLe false pyP) ps fun _ _ _ _ => rfl]
  rfl
structure Chn (Rl : Int × Int → Int × Int → Prop) (l : List (Int × Int)) : Prop where
  st : ∀ j a b, l[j]? = some a → l[j + 1]? = some b → Rl a b
  tu : ∀ j a b c, l[j]? = some a → l[j + 1]? = some b → l[j + 2]? = some c → 0 < lf a b c
section
variable {Rl : Int × Int → Int × Int → Prop}
theorem Chn.one (a : Int × Int) : Chn Rl [a] := ⟨fun j x y _ h => by simp at h, fun j x y z _ h _ => by simp at h⟩
theorem Chn.left {l r : List (Int × Int)} (h : Chn Rl (l ++ r)) : Chn Rl l := by
  have up : ∀ (j : Nat) (a : Int × Int), l[j]? = some a → (l ++ r)[j]? = some a := fun j a e => by
    rw [List.getElem?_append_left (by obtain ⟨q, _⟩ := List.getElem?_eq_some_iff.mp e; exact q)]; exact e
  exact ⟨fun j a b h1 h2 => h.st j a b (up _ _ h1) (up _ _ h2), fun j a b c h1 h2 h3 => h.tu j a b c (up _ _ h1) (up _ _ h2) (up _ _ h3)⟩
theorem Chn.snoc {l : List (Int × Int)} {a b p : Int × Int} (h : Chn Rl (l ++ [a, b])) (h1 : Rl b p) (h2 : 0 < lf a b p) : Chn Rl (l ++ [a, b] ++ [p]) := by
  have dn : ∀ (j : Nat) (x : Int × Int), (l ++ [a, b] ++ [p])[j]? = some x → j < l.length + 2 → (l ++ [a, b])[j]? = some x := fun j x e hj => by
    rw [List.getElem?_append_left (by simp; omega)] at e; exact e
  have hi : ∀ (j : Nat) (x : Int × Int), (l ++ [a, b] ++ [p])[j]? = some x → ¬ j < l.length + 2 → j = l.length + 2 ∧ x = p := fun j x e hj => by
    have q : j < (l ++ [a, b] ++ [p]).length := (List.getElem?_eq_some_iff.mp e).1
    simp at q
    have : j = l.length + 2 := by omega
    subst this
    rw [List.getElem?_append_right (by simp)] at e
    simp at e
    exact ⟨rfl, e.symm⟩
  have ea : (l ++ [a, b])[l.length]? = some a := by simp
  have eb : (l ++ [a, b])[l.length + 1]? = some b := by rw [List.getElem?_append_right (by omega)]; simp
  refine ⟨fun j x y e1 e2 => ?_, fun j x y z e1 e2 e3 => ?_⟩
  · by_cases hj : j + 1 < l.length + 2
    · exact h.st j x y (dn _ _ e1 (by omega)) (dn _ _ e2 hj)
    · obtain ⟨q, rfl⟩ := hi _ _ e2 hj
      have e1 := dn _ _ e1 (by omega)
      rw [show j = l.length + 1 by omega, eb] at e1
      cases e1
      exact h1
  · by_cases hj : j + 2 < l.length + 2
    · exact h.tu j x y z (dn _ _ e1 (by omega)) (dn _ _ e2 (by omega)) (dn _ _ e3 hj)
    · obtain ⟨q, rfl⟩ := hi _ _ e3 hj
      have e1 := dn _ _ e1 (by omega)
      have e2 := dn _ _ e2 (by omega)
      rw [show j = l.length by omega, ea] at e1
      rw [show j + 1 = l.length + 1 by omega, eb] at e2
      cases e1
      cases e2
      exact h2
theorem Chn.two {a b : Int × Int} (h : Rl a b) : Chn Rl [a, b] := ⟨fun j x y h1 h2 => by
  match j, h1, h2 with
  | 0, h1, h2 => cases h1; cases h2; exact h
  | j + 1, h1, h2 => simp at h2, fun j x y z _ _ h => by simp at h⟩
def HSt (Rl : Int × Int → Int × Int → Prop) (dn qs : List (Int × Int)) : Prop :=
  (dn = [] ∧ qs = []) ∨ ∃ f dn' qs', dn = f :: dn' ∧ qs = f :: qs' ∧ qs.getLast? = dn.getLast? ∧ (Chn Rl qs ∨ (qs = [f, f] ∧ ∀ x ∈ dn, x = f))
def HWl (Rl : Int × Int → Int × Int → Prop) (dn qs : List (Int × Int)) (p : Int × Int) : Prop :=
  (dn = [] ∧ qs = []) ∨ ∃ f dn' qs', dn = f :: dn' ∧ qs = f :: qs' ∧ (∃ b, qs.getLast? = some b ∧ (b = p ∨ Rl b p)) ∧ (Chn Rl qs ∨ qs = [f, f])
theorem last2_of {qs : List (Int × Int)} (h : 2 ≤ qs.length) : ∃ l a b, qs = l ++ [a, b] := by
  have h1 : qs ≠ [] := fun e => by rw [e] at h; simp at h
  have h2 : qs.dropLast ≠ [] := fun e => by
    have := congrArg List.length e
    simp at this
    omega
  refine ⟨qs.dropLast.dropLast, qs.dropLast.getLast h2, qs.getLast h1, ?_⟩
  have e1 := List.dropLast_concat_getLast h1
  have e2 := List.dropLast_concat_getLast h2
  rw [show qs.dropLast.dropLast ++ [qs.dropLast.getLast h2, qs.getLast h1] = qs.dropLast.dropLast ++ [qs.dropLast.getLast h2] ++ [qs.getLast h1] by simp, e2, e1]
theorem lf_same (a p : Int × Int) : lf a p p = 0 := by unfold lf; grind
theorem lf_same0 (a p : Int × Int) : lf a a p = 0 := by unfold lf; grind
theorem HWl.pop (tr : ∀ {a b c}, Rl a b → Rl b c → Rl a c) {dn l : List (Int × Int)} {a b p : Int × Int} (h : HWl Rl dn (l ++ [a, b]) p) : HWl Rl dn (l ++ [a]) p := by
  rcases h with ⟨_, h⟩ | ⟨f, dn', qs', e1, e2, ⟨c, e3, h3⟩, h4⟩
  · simp at h
  · have ec : b = c := by simpa using e3
    subst ec
    have hl : ∃ qs'', l ++ [a] = f :: qs'' := by
      cases l with
      | nil => simp at e2; exact ⟨[], by rw [e2.1]; rfl⟩
      | cons x l => simp at e2; exact ⟨l ++ [a], by rw [e2.1]; rfl⟩
    obtain ⟨qs'', el⟩ := hl
    refine .inr ⟨f, dn', qs'', e1, el, ⟨a, by simp, ?_⟩, ?_⟩
    · rcases h4 with h4 | h4
      · have hab : Rl a b := h4.st l.length a b (by simp) (by rw [List.getElem?_append_right (by omega)]; simp)
        rcases h3 with rfl | h3
        · exact .inr hab
        · exact .inr (tr hab h3)
      · have : l = [] := by
          have := congrArg List.length h4
          simp at this
          exact this
        subst this
        simp at h4
        rw [h4.1, ← h4.2]
        exact h3
    · rcases h4 with h4 | h4
      · left
        exact Chn.left (r := [b]) (by simpa using h4)
      · have : l = [] := by
          have := congrArg List.length h4
          simp at this
          exact this
        subst this
        exact .inl (Chn.one a)
theorem HWl.push (tr : ∀ {a b c}, Rl a b → Rl b c → Rl a c) (ir : ∀ {a}, ¬ Rl a a) {dn td qs : List (Int × Int)} {p : Int × Int} (hs : (dn ++ p :: td).Pairwise (fun a b => a = b ∨ Rl a b)) (h : HWl Rl dn qs p) (hx : qs.length ≤ 1 ∨ ∃ l a b, qs = l ++ [a, b] ∧ 0 < lf a b p) : HSt Rl (dn ++ [p]) (qs ++ [p]) := by
  rcases h with ⟨rfl, rfl⟩ | ⟨f, dn', qs', e1, e2, ⟨c, e3, h3⟩, h4⟩
  · exact .inr ⟨p, [], [], rfl, rfl, rfl, .inl (Chn.one p)⟩
  · have fin : (qs ++ [p]).getLast? = (dn ++ [p]).getLast? := by simp
    refine .inr ⟨f, dn' ++ [p], qs' ++ [p], by rw [e1]; rfl, by rw [e2]; rfl, fin, ?_⟩
    rcases hx with hx | ⟨l, a, b, rfl, hx⟩
    · have q0 : qs' = [] := by
        rw [e2] at hx
        simpa using hx
      subst q0
      subst e2
      have ec : f = c := by simpa using e3
      subst ec
      rcases h3 with rfl | h3
      · right
        refine ⟨rfl, fun x hxm => ?_⟩
        rcases List.mem_append.mp hxm with hxm | hxm
        · rw [List.pairwise_append] at hs
          have k1 := hs.2.2 x hxm f List.mem_cons_self
          rcases k1 with k1 | k1
          · exact k1
          · rw [e1] at hxm hs
            rcases List.mem_cons.mp hxm with rfl | hxm
            · rfl
            · have k2 := (List.pairwise_cons.mp hs.1).1 x hxm
              rcases k2 with k2 | k2
              · exact k2.symm
              · exact absurd (tr k2 k1) ir
        · exact List.mem_singleton.mp hxm
      · exact .inl (Chn.two h3)
    · have ec : b = c := by simpa using e3
      subst ec
      rcases h4 with h4 | h4
      · rcases h3 with rfl | h3
        · rw [lf_same] at hx; omega
        · exact .inl (h4.snoc h3 hx)
      · have : l = [] := by
          have := congrArg List.length h4
          simp at this
          exact this
        subst this
        simp at h4
        rw [h4.1, h4.2, lf_same0] at hx
        omega
theorem HSt.to (h : HSt Rl dn qs) (hs : (dn ++ p :: td).Pairwise (fun a b => a = b ∨ Rl a b)) : HWl Rl dn qs p := by
  rcases h with h | ⟨f, dn', qs', e1, e2, e3, h4⟩
  · exact .inl h
  · have hne : dn ≠ [] := fun e => by rw [e] at e1; cases e1
    refine .inr ⟨f, dn', qs', e1, e2, ⟨dn.getLast hne, by rw [e3]; exact List.getLast?_eq_some_getLast hne, ?_⟩, h4.imp id And.left⟩
    rw [List.pairwise_append] at hs
    exact hs.2.2 _ (List.getLast_mem hne) p List.mem_cons_self
end
theorem at_last2' {l : List (Int × Int)} {a b : Int × Int} : atI ((l ++ [a, b]).map pt) (-2) = some (pt a) ∧ atI ((l ++ [a, b]).map pt) (-1) = some (pt b) := by
  have hl : ((l ++ [a, b]).map pt).length = l.length + 2 := by simp
  constructor
  · unfold atI ixN
    rw [hl, if_neg (by decide), if_pos (by omega)]
    show ((l ++ [a, b]).map pt)[((-2 : Int) + ((l.length + 2 : Nat) : Int)).toNat]? = _
    rw [show ((-2 : Int) + ((l.length + 2 : Nat) : Int)).toNat = l.length by omega]
    simp
  · unfold atI ixN
    rw [hl, if_neg (by decide), if_pos (by omega)]
    show ((l ++ [a, b]).map pt)[((-1 : Int) + ((l.length + 2 : Nat) : Int)).toNat]? = _
    rw [show ((-1 : Int) + ((l.length + 2 : Nat) : Int)).toNat = l.length + 1 by omega]
    simp
def Ptb (p : Int × Int) : Prop := p.1.natAbs < 2 ^ 21 ∧ p.2.natAbs < 2 ^ 21
theorem cut_last (ds : List D) : cutD ds none (some (-1)) = ds.dropLast := by
  unfold cutD
  have e0 : HT.sIx ds.length 0 none = 0 := rfl
  have e1 : HT.sIx ds.length ds.length (some (-1)) = ds.length - 1 := by
    unfold HT.sIx
    dsimp only
    rw [if_pos (by decide)]
    omega
  rw [e0, e1, List.drop_zero, Nat.sub_zero, List.dropLast_eq_take]
theorem left_lf {a b c : Int × Int} (ha : Ptb a) (hb : Ptb b) (hc : Ptb c) : m__law_left [pt a, pt b, pt c] () = .ok (.int (lf a b c)) () := by
  have ix0 : ∀ p : Int × Int, dIx (pt p) (.int 0) = some (.int p.1) := fun _ => rfl
  have ix1 : ∀ p : Int × Int, dIx (pt p) (.int 1) = some (.int p.2) := fun _ => rfl
  have m : ∀ u v w z : Int, u.natAbs < 2 ^ 21 → v.natAbs < 2 ^ 21 → w.natAbs < 2 ^ 21 → z.natAbs < 2 ^ 21 → mulOk (u - v) (w - z) = true := fun u v w z h1 h2 h3 h4 => small_mul (a := 22) (b := 22) (by omega) (by omega) (by decide) (by decide) (by decide)
  apply oE_eq
  unfold m__law_left b__law_left
  simp [ix0, ix1, m _ _ _ _ hb.1 ha.1 hc.2 ha.2, m _ _ _ _ hb.2 ha.2 hc.1 ha.1]
  rfl
theorem half_st {Rl : Int × Int → Int × Int → Prop} (tr : ∀ {a b c}, Rl a b → Rl b c → Rl a c) (ir : ∀ {a}, ¬ Rl a a) {ps : List (Int × Int)} (hs : ps.Pairwise (fun a b => a = b ∨ Rl a b)) (hp : ∀ p ∈ ps, Ptb p) (hl : ps.length ≤ 1000) :
    ∃ qs : List (Int × Int), m__law_half [.lst (ps.map pt)] () = .ok (.lst (qs.dropLast.map pt)) () ∧ (∀ q ∈ qs, q ∈ ps) ∧ qs.length ≤ ps.length ∧ HSt Rl ps qs := by
  have key : oE (m__law_half [.lst (ps.map pt)] ()) (fun d _ => ∃ qs : List (Int × Int), d = .lst (qs.dropLast.map pt) ∧ (∀ q ∈ qs, q ∈ ps) ∧ qs.length ≤ ps.length ∧ HSt Rl ps qs) (fun _ _ _ => False) := by
    unfold m__law_half b__law_half
    simp
    unfold Nxt
    simp
    obtain ⟨I, hI⟩ : ∃ I : List (Int × Int) → List (Int × Int) → Rho → Unit → Prop, I = fun dn td ρ t => ∃ (qs : List (Int × Int)) (s2 : Slot), ρ = [.val (.lst (ps.map pt)), .val (.lst (qs.map pt)), s2] ∧ (∀ q ∈ qs, q ∈ ps) ∧ qs.length ≤ dn.length ∧ HSt Rl dn qs := ⟨_, rfl⟩
    refine oS_loopE I ps (by
      rw [hI]
      exact ⟨[], _, rfl, fun q hq => (nomatch hq), Nat.le_refl _, .inl ⟨rfl, rfl⟩⟩) ?_ ?_
    · intro dn p td ρ t eq h2
      rw [hI] at h2
      obtain ⟨qs, s2, rfl, hq, hql, hst⟩ := h2
      have hpm : p ∈ ps := by rw [eq]; simp
      have hb := hp p hpm
      have hdl : dn.length + 1 ≤ ps.length := by rw [eq]; simp
      rw [eq] at hs
      have hw := hst.to hs
      refine ⟨_, rfl, ?_⟩
      rw [oS_seq]
      refine oS_while (fun n ρ t => ∃ qs : List (Int × Int), n = qs.length ∧ ρ = [.val (.lst (ps.map pt)), .val (.lst (qs.map pt)), .val (pt p)] ∧ (∀ q ∈ qs, q ∈ ps) ∧ qs.length ≤ dn.length ∧ HWl Rl dn qs p) ?_ qs.length _ _ ⟨qs, rfl, rfl, hq, hql, hw⟩
      rintro n ρ t ⟨qs, rfl, rfl, hq, hql, hw⟩
      have fin : (qs.length ≤ 1 ∨ ∃ l a b, qs = l ++ [a, b] ∧ 0 < lf a b p) → ∀ P : Pt Unit, P.nx = I (dn ++ [p]) td → Nxt (sAsg (gN 1) (e2 dAdd (eVarW 1) (eLst (e1 lim (aCons (eVar 2) aNil))))) [.val (.lst (ps.map pt)), .val (.lst (qs.map pt)), .val (pt p)] t P := fun hx P hP => by
        unfold Nxt
        simp
        rw [hP, hI]
        refine ⟨by omega, qs ++ [p], .val (pt p), by simp, fun q h => ?_, by simp; omega, HWl.push (Rl := Rl) tr ir hs hw hx⟩
        rcases List.mem_append.mp h with h | h
        · exact hq q h
        · rw [List.mem_singleton.mp h]; exact hpm
      by_cases h2 : 2 ≤ qs.length
      · obtain ⟨l, a, b, rfl⟩ := last2_of h2
        obtain ⟨ea, eb⟩ := at_last2' (l := l) (a := a) (b := b)
        have ha := hp a (hq a (by simp))
        have hb' := hp b (hq b (by simp))
        have hlf := left_lf ha hb' hb
        have hdl : (l ++ [a, b]).dropLast = l ++ [a] := by rw [show l ++ [a, b] = (l ++ [a]) ++ [b] by simp, List.dropLast_concat]
        have wl : (l ++ [a, b]).length = l.length + 2 := by simp
        generalize hW : l ++ [a, b] = W at *
        simp [ea, eb, hlf]
        right
        refine ⟨by omega, ?_⟩
        by_cases hs' : lf a b p ≤ 0
        · right
          refine ⟨hs', l.length + 1, by omega, l ++ [a], by simp, by rw [cut_last, ← List.map_dropLast, hdl], fun x y h => hq _ (by rw [← hW]; simp at h ⊢; rcases h with h | h; exact .inl h; exact .inr (.inl h)), by simp; omega, ?_⟩
          rw [← hW] at hw
          exact HWl.pop (Rl := Rl) tr hw
        · left
          exact ⟨by omega, fin (.inr ⟨l, a, b, hW.symm, by omega⟩) _ rfl⟩
      · simp
        left
        exact ⟨by omega, fin (.inl (by omega)) _ rfl⟩
    · intro ρ t h2
      rw [hI] at h2
      obtain ⟨qs, s2, rfl, hq, hql, hst⟩ := h2
      unfold Nxt
      simp [cut_last]
      exact ⟨qs, rfl, fun a b h => hq _ h, hql, hst⟩
  obtain ⟨d, u, e, qs, rfl, h1, h2, h3⟩ := oE_ex' key
  exact ⟨qs, e, h1, h2, h3⟩
structure Cvx (qs : List (Int × Int)) : Prop where
  len3 : 3 ≤ qs.length
  cv : ∀ i k a b c, qs[i]? = some a → qs[(i + 1) % qs.length]? = some b → qs[k]? = some c → k ≠ i → k ≠ (i + 1) % qs.length → 0 < lf a b c
theorem chn_same {Rl : Int × Int → Int × Int → Prop} (ir : ∀ {a}, ¬ Rl a a) {l : List (Int × Int)} {f : Int × Int} (h : Chn Rl l) (hf : ∀ x ∈ l, x = f) : l.length ≤ 1 := by
  match l, h, hf with
  | [], _, _ => exact Nat.zero_le _
  | [a], _, _ => exact Nat.le_refl _
  | a :: b :: l, h, hf =>
    have := h.st 0 a b rfl rfl
    rw [hf a (by simp), hf b (by simp)] at this
    exact absurd this ir
theorem cvx_of {U V : List (Int × Int)} {f z : Int × Int} (hU : (U ++ V ++ [f]).head? = some f) (hz : (V ++ [f]).head? = some z) (h1 : Chn lx (U ++ [z])) (h2 : Chn (fun a b => lx b a) (V ++ [f])) (hl : 3 ≤ U.length + V.length) : Cvx (U ++ V) := by
  let L := U ++ V ++ [f]
  let q : Nat → Int × Int := fun k => (L[k]?).getD (0, 0)
  have hLl : L.length = U.length + V.length + 1 := by show (U ++ V ++ [f]).length = _; simp; omega
  have qL : ∀ k, k ≤ U.length + V.length → L[k]? = some (q k) := fun k hk => by
    show L[k]? = some ((L[k]?).getD (0, 0))
    rw [List.getElem?_eq_getElem (by omega)]; rfl
  have eL : L = U ++ (V ++ [f]) := by show U ++ V ++ [f] = _; simp
  have lo : ∀ j, j ≤ U.length → (U ++ [z])[j]? = some (q j) := fun j hj => by
    have e := qL j (by omega)
    rw [eL] at e
    by_cases h : j < U.length
    · rw [List.getElem?_append_left h] at e ⊢
      exact e
    · have : j = U.length := by omega
      subst this
      rw [List.getElem?_append_right (Nat.le_refl _), Nat.sub_self] at e ⊢
      rw [← List.head?_eq_getElem?, hz] at e
      exact e
  have hi : ∀ j, U.length ≤ j → j ≤ U.length + V.length → (V ++ [f])[j - U.length]? = some (q j) := fun j h1 h2 => by
    have e := qL j h2
    rw [eL, List.getElem?_append_right h1] at e
    exact e
  have C : Cyc q U.length (U.length + V.length) := by
    refine ⟨fun j hj => h1.st j _ _ (lo j (by omega)) (lo (j + 1) (by omega)), fun j ha hj => ?_, fun j hj => h1.tu j _ _ _ (lo j (by omega)) (lo (j + 1) (by omega)) (lo (j + 2) (by omega)), fun j ha hj => ?_, ?_, by omega⟩
    · refine h2.st (j - U.length) _ _ (hi j ha (by omega)) ?_
      have := hi (j + 1) (by omega) (by omega)
      rwa [show j + 1 - U.length = j - U.length + 1 by omega] at this
    · refine h2.tu (j - U.length) _ _ _ (hi j ha (by omega)) ?_ ?_
      · have := hi (j + 1) (by omega) (by omega)
        rwa [show j + 1 - U.length = j - U.length + 1 by omega] at this
      · have := hi (j + 2) (by omega) (by omega)
        rwa [show j + 2 - U.length = j - U.length + 2 by omega] at this
    · have e0 := qL 0 (by omega)
      rw [← List.head?_eq_getElem?, show L.head? = some f from hU] at e0
      have em := qL (U.length + V.length) (Nat.le_refl _)
      rw [show L = (U ++ V) ++ [f] from rfl, List.getElem?_append_right (by simp)] at em
      simp at em
      rw [← Option.some.inj e0]
      exact em.symm
  have hm : (U ++ V).length = U.length + V.length := by simp
  have qs : ∀ k x, (U ++ V)[k]? = some x → k < U.length + V.length ∧ x = q k := fun k x e => by
    have hk : k < (U ++ V).length := (List.getElem?_eq_some_iff.mp e).1
    have := qL k (by omega)
    rw [show L = (U ++ V) ++ [f] from rfl, List.getElem?_append_left hk, e] at this
    cases this
    exact ⟨by omega, rfl⟩
  refine ⟨by omega, fun i k a b c ea eb ec h3 h4 => ?_⟩
  obtain ⟨hi', rfl⟩ := qs i a ea
  obtain ⟨hk', rfl⟩ := qs k c ec
  obtain ⟨_, rfl⟩ := qs _ b eb
  rw [hm] at h4 ⊢
  by_cases e : i + 1 = U.length + V.length
  · rw [e, Nat.mod_self] at h4 ⊢
    have := C.left i k hi' hk' h3 (by omega) (fun _ => h4)
    rw [e, C.ends] at this
    exact this
  · rw [Nat.mod_eq_of_lt (by omega)] at h4 ⊢
    exact C.left i k hi' hk' h3 h4 (fun z => absurd z e)
theorem hull_core {ps : List (Int × Int)} (hp : ∀ p ∈ ps, Ptb p) (hl : ps.length ≤ 1000) : ∃ us vs : List (Int × Int),
    m__law_half [.lst ((sP ps).map pt)] () = .ok (.lst (us.map pt)) () ∧ m__law_half [.lst ((sP ps).reverse.map pt)] () = .ok (.lst (vs.map pt)) () ∧ (∀ q ∈ us ++ vs, q ∈ ps) ∧ us.length ≤ ps.length ∧ vs.length ≤ ps.length ∧ (3 ≤ us.length + vs.length → Cvx (us ++ vs)) := by
  have pm := sP_perm ps
  have pl := pm.length_eq
  have sr := sP_sorted ps
  have hr : ∀ p ∈ sP ps, Ptb p := fun p h => hp p (pm.mem_iff.mp h)
  obtain ⟨us, e1, m1, l1, s1⟩ := half_st (Rl := lx) (fun h1 h2 => lx_trans h1 h2) (fun h => lx_irr h) sr hr (by omega)
  obtain ⟨vs, e2, m2, l2, s2⟩ := half_st (Rl := fun a b => lx b a) (fun h1 h2 => lx_trans h2 h1) (fun h => lx_irr h) (ps := (sP ps).reverse) (List.pairwise_reverse.mpr (sr.imp fun h => h.imp Eq.symm id)) (fun p h => hr p (List.mem_reverse.mp h)) (by rw [List.length_reverse]; omega)
  rw [List.length_reverse] at l2
  refine ⟨us.dropLast, vs.dropLast, e1, e2, fun q hq => ?_, by simp; omega, by simp; omega, fun h3 => ?_⟩
  · rcases List.mem_append.mp hq with h | h
    · exact pm.mem_iff.mp (m1 q (List.dropLast_subset _ h))
    · exact pm.mem_iff.mp (List.mem_reverse.mp (m2 q (List.dropLast_subset _ h)))
  rcases s1 with ⟨e, rfl⟩ | ⟨f, dn', us', d1, u1, g1, c1⟩
  · rw [e] at l2
    simp at h3
    simp at l2
    rw [l2] at h3
    simp at h3
  rcases s2 with ⟨e, rfl⟩ | ⟨z, dn'', vs', d2, u2, g2, c2⟩
  · rw [List.reverse_eq_nil_iff] at e
    rw [e] at d1; cases d1
  have lastf : vs.getLast? = some f := by rw [g2, List.getLast?_reverse, d1]; rfl
  have lastz : us.getLast? = some z := by rw [g1, ← List.head?_reverse, d2]; rfl
  have uf : us ≠ [] := fun e => by rw [e] at u1; cases u1
  have vf : vs ≠ [] := fun e => by rw [e] at u2; cases u2
  have eu : us = us.dropLast ++ [z] := by
    have := List.dropLast_concat_getLast uf
    rw [List.getLast?_eq_some_getLast uf] at lastz
    cases lastz
    exact this.symm
  have ev : vs = vs.dropLast ++ [f] := by
    have := List.dropLast_concat_getLast vf
    rw [List.getLast?_eq_some_getLast vf] at lastf
    cases lastf
    exact this.symm
  rcases c1 with c1 | ⟨rfl, c1⟩
  · rcases c2 with c2 | ⟨rfl, c2⟩
    · refine cvx_of (f := f) (z := z) ?_ ?_ (by rw [← eu]; exact c1) (by rw [← ev]; exact c2) h3
      · cases n : us.dropLast with
        | nil =>
          rw [List.nil_append, ← ev, u2]
          rw [n, List.nil_append, u1] at eu
          have := (List.cons.inj eu).1
          rw [← this]
          rfl
        | cons x l =>
          rw [n, u1] at eu
          have := (List.cons.inj eu).1
          rw [← this]
          rfl
      · rw [← ev, u2]; rfl
    · have : us.length ≤ 1 := chn_same (Rl := lx) (fun h => lx_irr h) c1 (f := z) fun x hx => c2 x (List.mem_reverse.mpr (m1 x hx))
      simp at h3
      omega
  · have : vs.length ≤ 1 := by
      rcases c2 with c2 | ⟨rfl, c2⟩
      · exact chn_same (Rl := fun a b => lx b a) (fun h => lx_irr h) c2 (f := f) fun x hx => c1 x (List.mem_reverse.mp (m2 x hx))
      · simp at h3
    simp at h3
    omega
theorem snocRec {α : Type} {motive : List α → Prop} (l : List α) (nil : motive []) (snoc : ∀ (l : List α) (a : α), motive l → motive (l ++ [a])) : motive l := by
  have key : ∀ r : List α, motive r.reverse := fun r => by
    induction r with
    | nil => exact nil
    | cons a r ih => rw [List.reverse_cons]; exact snoc _ _ ih
  rw [← List.reverse_reverse l]
  exact key _
def nw (p q : Int) : Int × Int := (p.fdiv (Int.gcd p q : Int), q.fdiv (Int.gcd p q : Int))
def sideway (a b : Int × Int) : Int × Int := nw (b.2 - a.2) (a.1 - b.1)
def q0 (qs : List (Int × Int)) (k : Nat) : Int × Int := (qs[k]?).getD (0, 0)
def sw (qs : List (Int × Int)) : List (Int × Int) := (List.range qs.length).map fun i => sideway (q0 qs i) (q0 qs ((i + 1) % qs.length))
def ngp (w : Int × Int) : Int × Int := (-w.1, -w.2)
theorem ngp_ngp (w : Int × Int) : ngp (ngp w) = w := by unfold ngp; simp
theorem q0_at {qs : List (Int × Int)} {k : Nat} (h : k < qs.length) : qs[k]? = some (q0 qs k) := by unfold q0; rw [List.getElem?_eq_getElem h]; rfl
theorem sw_len (qs : List (Int × Int)) : (sw qs).length = qs.length := by unfold sw; simp
theorem sw_at {qs : List (Int × Int)} {k : Nat} (h : k < qs.length) : (sw qs)[k]? = some (sideway (q0 qs k) (q0 qs ((k + 1) % qs.length))) := by
  unfold sw
  rw [List.getElem?_map, List.getElem?_range h]; rfl
theorem nw_mul {p q : Int} (h : p ≠ 0 ∨ q ≠ 0) : ∃ g : Int, 0 < g ∧ g = Int.gcd p q ∧ p = g * (nw p q).1 ∧ q = g * (nw p q).2 := by
  have hg : 0 < (Int.gcd p q : Int) := by
    have : Int.gcd p q ≠ 0 := fun e => by
      rw [Int.gcd_eq_zero_iff] at e
      rcases h with h | h
      · exact h e.1
      · exact h e.2
    omega
  refine ⟨_, hg, rfl, ?_, ?_⟩
  · obtain ⟨k, hk⟩ := Int.gcd_dvd_left p q
    show p = _ * p.fdiv _
    conv => rhs; rhs; lhs; rw [hk]
    rw [fdiv_gcd (by omega)]
    exact hk
  · obtain ⟨k, hk⟩ := Int.gcd_dvd_right p q
    show q = _ * q.fdiv _
    conv => rhs; rhs; lhs; rw [hk]
    rw [fdiv_gcd (by omega)]
    exact hk
theorem lf_way {a b : Int × Int} (h : a ≠ b) : ∃ g : Int, 0 < g ∧ ∀ x : Int × Int, lf a b x = g * (((sideway a b).1 * a.1 + (sideway a b).2 * a.2) - ((sideway a b).1 * x.1 + (sideway a b).2 * x.2)) := by
  have hn : b.2 - a.2 ≠ 0 ∨ a.1 - b.1 ≠ 0 := by
    apply Classical.byContradiction
    intro z
    apply h
    obtain ⟨a1, a2⟩ := a
    obtain ⟨b1, b2⟩ := b
    simp at z ⊢
    omega
  obtain ⟨g, hg, _, e1, e2⟩ := nw_mul hn
  refine ⟨g, hg, fun x => ?_⟩
  show lf a b x = g * (((nw (b.2 - a.2) (a.1 - b.1)).1 * a.1 + (nw (b.2 - a.2) (a.1 - b.1)).2 * a.2) - ((nw (b.2 - a.2) (a.1 - b.1)).1 * x.1 + (nw (b.2 - a.2) (a.1 - b.1)).2 * x.2))
  generalize (nw (b.2 - a.2) (a.1 - b.1)).1 = u at *
  generalize (nw (b.2 - a.2) (a.1 - b.1)).2 = v at *
  unfold lf
  rw [show b.1 - a.1 = -(g * v) by omega, e1]
  grind
def hw (w x : Int × Int) : Int := w.1 * x.1 + w.2 * x.2
section
variable {qs : List (Int × Int)}
theorem Cvx.third (C : Cvx qs) {i : Nat} (hi : i < qs.length) : ∃ k, k < qs.length ∧ k ≠ i ∧ k ≠ (i + 1) % qs.length := by
  have h3 := C.len3
  by_cases e : i + 1 = qs.length
  · rw [e, Nat.mod_self]
    exact ⟨1, by omega, by omega, by omega⟩
  · rw [Nat.mod_eq_of_lt (by omega)]
    by_cases e2 : i = 0
    · exact ⟨2, by omega, by omega, by omega⟩
    · exact ⟨0, by omega, by omega, by omega⟩
theorem Cvx.ne (C : Cvx qs) {i : Nat} (hi : i < qs.length) : q0 qs i ≠ q0 qs ((i + 1) % qs.length) := fun e => by
  obtain ⟨k, hk, h1, h2⟩ := C.third hi
  have := C.cv i k _ _ _ (q0_at hi) (q0_at (Nat.mod_lt _ (by omega))) (q0_at hk) h1 h2
  rw [← e, lf_same0] at this
  omega
theorem Cvx.far (C : Cvx qs) {i k : Nat} (hi : i < qs.length) (hk : k < qs.length) (h1 : k ≠ i) (h2 : k ≠ (i + 1) % qs.length) : hw (sideway (q0 qs i) (q0 qs ((i + 1) % qs.length))) (q0 qs k) < hw (sideway (q0 qs i) (q0 qs ((i + 1) % qs.length))) (q0 qs i) := by
  obtain ⟨g, hg, e⟩ := lf_way (C.ne hi)
  have := C.cv i k _ _ _ (q0_at hi) (q0_at (Nat.mod_lt _ (by omega))) (q0_at hk) h1 h2
  rw [e] at this
  have := Int.pos_of_mul_pos_right this hg
  unfold hw
  omega
theorem Cvx.far_eq (C : Cvx qs) {i : Nat} (hi : i < qs.length) : hw (sideway (q0 qs i) (q0 qs ((i + 1) % qs.length))) (q0 qs ((i + 1) % qs.length)) = hw (sideway (q0 qs i) (q0 qs ((i + 1) % qs.length))) (q0 qs i) := by
  obtain ⟨g, hg, e⟩ := lf_way (C.ne hi)
  have h := e (q0 qs ((i + 1) % qs.length))
  rw [lf_same] at h
  have := (Int.mul_eq_zero.mp h.symm).resolve_left (by omega)
  unfold hw
  omega
theorem Cvx.far_le (C : Cvx qs) {i k : Nat} (hi : i < qs.length) (hk : k < qs.length) : hw (sideway (q0 qs i) (q0 qs ((i + 1) % qs.length))) (q0 qs k) ≤ hw (sideway (q0 qs i) (q0 qs ((i + 1) % qs.length))) (q0 qs i) := by
  by_cases h1 : k = i
  · rw [h1]; exact Int.le_refl _
  · by_cases h2 : k = (i + 1) % qs.length
    · rw [h2, C.far_eq hi]; exact Int.le_refl _
    · exact Int.le_of_lt (C.far hi hk h1 h2)
theorem Cvx.ways_nodup (C : Cvx qs) : (sw qs).Nodup := by
  have h3 := C.len3
  rw [List.nodup_iff_pairwise_ne, List.pairwise_iff_getElem]
  intro i j hi hj hij e
  rw [sw_len] at hi hj
  have e' : sideway (q0 qs i) (q0 qs ((i + 1) % qs.length)) = sideway (q0 qs j) (q0 qs ((j + 1) % qs.length)) := by
    have a := sw_at hi
    have b := sw_at hj
    rw [List.getElem?_eq_getElem (by rw [sw_len]; exact hi)] at a
    rw [List.getElem?_eq_getElem (by rw [sw_len]; exact hj)] at b
    rw [← Option.some.inj a, ← Option.some.inj b, e]
  have mi : (i + 1) % qs.length = i + 1 := Nat.mod_eq_of_lt (by omega)
  have far1 := C.far_le (i := j) hj hi
  have eq1 := C.far_eq (i := j) hj
  rw [← e'] at far1 eq1
  by_cases hji : j = i + 1
  · have hm : (j + 1) % qs.length < qs.length := Nat.mod_lt _ (by omega)
    have n1 : (j + 1) % qs.length ≠ i := fun z => by
      by_cases q : j + 1 = qs.length
      · rw [q, Nat.mod_self] at z; omega
      · rw [Nat.mod_eq_of_lt (by omega)] at z; omega
    have n2 : (j + 1) % qs.length ≠ (i + 1) % qs.length := fun z => by
      rw [mi] at z
      by_cases q : j + 1 = qs.length
      · rw [q, Nat.mod_self] at z; omega
      · rw [Nat.mod_eq_of_lt (by omega)] at z; omega
    have := C.far hi hm n1 n2
    have f2 := C.far_eq hi
    rw [mi, ← hji] at f2
    rw [mi, ← hji] at this eq1
    omega
  · have := C.far hi hj (by omega) (by rw [mi]; exact hji)
    omega
end
def addn (l ws : List (Int × Int)) : List (Int × Int) := ws.foldl (fun l w => if ngp w ∈ l then l else l ++ [ngp w]) l
theorem addn_snoc (l ws : List (Int × Int)) (w : Int × Int) : addn l (ws ++ [w]) = if ngp w ∈ addn l ws then addn l ws else addn l ws ++ [ngp w] := by unfold addn; rw [List.foldl_append]; rfl
theorem addn_mem {l : List (Int × Int)} {x : Int × Int} (ws : List (Int × Int)) : x ∈ addn l ws ↔ x ∈ l ∨ ngp x ∈ ws := by
  induction ws using snocRec with
  | nil => simp [addn]
  | snoc ws w ih =>
    have key : x = ngp w ↔ ngp x = w := ⟨fun e => by rw [e, ngp_ngp], fun e => by rw [← e, ngp_ngp]⟩
    rw [addn_snoc]
    split
    · rename_i hn
      rw [ih, List.mem_append, List.mem_singleton, ← key]
      constructor
      · rintro (h | h)
        · exact .inl h
        · exact .inr (.inl h)
      · rintro (h | h | h)
        · exact .inl h
        · exact .inr h
        · exact ih.mp (by rw [h]; exact hn)
    · rw [List.mem_append, ih, List.mem_append, List.mem_singleton, List.mem_singleton, ← key, or_assoc]
theorem addn_len {l : List (Int × Int)} (ws : List (Int × Int)) : (addn l ws).length ≤ l.length + ws.length := by
  induction ws using snocRec with
  | nil => simp [addn]
  | snoc ws w ih =>
    rw [addn_snoc]
    split <;> simp <;> omega
def pwy (qs rs : List (Int × Int)) : List (Int × Int) := sP (addn (sw qs) (sw rs))
theorem pwy_mem {qs rs : List (Int × Int)} {x : Int × Int} : x ∈ pwy qs rs ↔ x ∈ sw qs ∨ ngp x ∈ sw rs := by
  unfold pwy
  rw [(sP_perm _).mem_iff, addn_mem]
theorem gcd_small {p q : Int} {n : Nat} (h : p ≠ 0 ∨ q ≠ 0) (hp : p.natAbs < 2 ^ n) (hq : q.natAbs < 2 ^ n) : (Int.gcd p q : Int) ≠ 0 ∧ (Int.gcd p q : Int).natAbs < 2 ^ n := by
  obtain ⟨g, hg, e, e1, e2⟩ := nw_mul h
  refine ⟨by omega, ?_⟩
  rcases h with h | h
  · have : Int.gcd p q ≤ p.natAbs := Int.gcd_le_natAbs_left _ h
    omega
  · have : Int.gcd p q ≤ q.natAbs := Int.gcd_le_natAbs_right _ h
    omega
theorem pt_ix0 {p : Int × Int} : dIx (pt p) (.int 0) = some (.int p.1) := rfl
theorem pt_ix1 {p : Int × Int} : dIx (pt p) (.int 1) = some (.int p.2) := rfl
theorem side_ne {a b : Int × Int} (h : a ≠ b) : b.2 - a.2 ≠ 0 ∨ a.1 - b.1 ≠ 0 := by
  apply Classical.byContradiction
  intro z
  apply h
  obtain ⟨a1, a2⟩ := a
  obtain ⟨b1, b2⟩ := b
  simp at z ⊢
  omega
theorem sub_small {a b : Int} (ha : a.natAbs < 2 ^ 21) (hb : b.natAbs < 2 ^ 21) : (a - b).natAbs < 2 ^ 22 := by omega
theorem enum_pts (qs : List (Int × Int)) : enumD (qs.map pt) = (List.range qs.length).map fun i => .tup [.int (i : Nat), pt (q0 qs i)] := by
  unfold enumD
  apply List.ext_getElem?
  intro i
  rw [List.getElem?_mapIdx, List.getElem?_map, List.getElem?_map]
  by_cases h : i < qs.length
  · rw [q0_at h, List.getElem?_range h]; rfl
  · have hr : (List.range qs.length)[i]? = none := List.getElem?_eq_none (by rw [List.length_range]; omega)
    rw [hr, List.getElem?_eq_none (by omega)]
    rfl
theorem range_split {n i : Nat} {dn td : List Nat} (h : List.range n = dn ++ i :: td) : i = dn.length ∧ i < n := by
  have hl := congrArg List.length h
  simp at hl
  have h1 : (List.range n)[dn.length]? = some i := by rw [h]; simp
  rw [List.getElem?_range (by omega)] at h1
  cases h1
  exact ⟨rfl, by omega⟩
theorem at_pts {qs : List (Int × Int)} {i : Nat} (h : i < qs.length) : atI (qs.map pt) (i : Int) = some (pt (q0 qs i)) := atI_nat (by rw [List.getElem?_map, q0_at h]; rfl)
theorem sw_take {qs : List (Int × Int)} {i : Nat} (h : i < qs.length) : (sw qs).take (i + 1) = (sw qs).take i ++ [sideway (q0 qs i) (q0 qs ((i + 1) % qs.length))] := by
  have hi : i < (sw qs).length := by rw [sw_len]; exact h
  have e := sw_at h
  rw [List.getElem?_eq_getElem hi] at e
  rw [List.take_succ_eq_append_getElem hi, Option.some.inj e]
theorem way_of_nw {p q : Int} (h : p ≠ 0 ∨ q ≠ 0) (hp : p.natAbs < 2 ^ 8000) (hq : q.natAbs < 2 ^ 8000) : m_way_of [.int p, .int q] () = .ok (pt (nw p q)) () := by
  obtain ⟨g0, gs⟩ := gcd_small h hp hq
  have o : ∀ x, divOk x (Int.gcd p q : Int) = true := fun x => small_div g0 gs (by decide) (by decide)
  apply oE_eq
  unfold m_way_of b_way_of
  simp [divisor_ok]
  unfold Nxt
  have g0' : Int.gcd p q ≠ 0 := fun z => g0 (by rw [z]; rfl)
  have o' := o p
  have o2 := o q
  unfold pt nw
  generalize Int.gcd p q = g at *
  simp [g0']
  unfold Nxt
  simp [o', o2]
theorem sideway_ok {a b : Int × Int} (h : a ≠ b) (ha : Ptb a) (hb : Ptb b) : m_way_of [.int (b.2 - a.2), .int (a.1 - b.1)] () = .ok (pt (sideway a b)) () :=
  way_of_nw (side_ne h) (Nat.lt_of_lt_of_le (sub_small hb.2 ha.2) (Nat.pow_le_pow_right (by decide) (by decide))) (Nat.lt_of_lt_of_le (sub_small ha.1 hb.1) (Nat.pow_le_pow_right (by decide) (by decide)))
def prs (qs : List (Int × Int)) : List ((Int × Int) × (Int × Int)) := (List.range qs.length).map fun i => (q0 qs i, q0 qs ((i + 1) % qs.length))
theorem prs_zip {q : Int × Int} {qs : List (Int × Int)} : zipD ((q :: qs).map pt) ((qs ++ [q]).map pt) = (prs (q :: qs)).map fun e => .tup [pt e.1, pt e.2] := by
  unfold zipD prs
  apply List.ext_getElem?
  intro i
  rw [List.getElem?_zipWith, List.getElem?_map, List.getElem?_map, List.getElem?_map, List.getElem?_map]
  by_cases h : i < (q :: qs).length
  · rw [q0_at h, List.getElem?_range h]
    have : (qs ++ [q])[i]? = some (q0 (q :: qs) ((i + 1) % (q :: qs).length)) := by
      rw [List.length_cons] at h ⊢
      by_cases e : i = qs.length
      · rw [e, Nat.mod_self, List.getElem?_append_right (Nat.le_refl _), Nat.sub_self]; rfl
      · rw [Nat.mod_eq_of_lt (by omega), List.getElem?_append_left (by omega)]
        have := q0_at (qs := q :: qs) (k := i + 1) (by rw [List.length_cons]; omega)
        rw [List.getElem?_cons_succ] at this
        exact this
    rw [this]
    rfl
  · have hr : (List.range (q :: qs).length)[i]? = none := List.getElem?_eq_none (by rw [List.length_range]; omega)
    rw [hr, List.getElem?_eq_none (by omega), List.getElem?_eq_none (by simp at h ⊢; omega)]
    rfl
theorem prs_mem {qs : List (Int × Int)} {e : (Int × Int) × (Int × Int)} (C : Cvx qs) (hp : ∀ q ∈ qs, Ptb q) (h : e ∈ prs qs) : e.1 ≠ e.2 ∧ Ptb e.1 ∧ Ptb e.2 := by
  obtain ⟨i, hi, rfl⟩ := List.mem_map.mp h
  have hi := List.mem_range.mp hi
  have hm : (i + 1) % qs.length < qs.length := Nat.mod_lt _ (by omega)
  exact ⟨C.ne hi, hp _ (List.mem_of_getElem? (q0_at hi)), hp _ (List.mem_of_getElem? (q0_at hm))⟩
theorem prs_sw (qs : List (Int × Int)) : (prs qs).map (fun e => sideway e.1 e.2) = sw qs := by
  unfold prs sw
  rw [List.map_map]
  rfl
theorem sides_ok {qs : List (Int × Int)} (C : Cvx qs) (hp : ∀ q ∈ qs, Ptb q) (hl : qs.length ≤ 1000) : m_sides [.tup (qs.map pt)] () = .ok (.tup ((sw qs).map pt)) () := by
  obtain ⟨q, rs, rfl⟩ : ∃ q rs, qs = q :: rs := by
    cases qs with
    | nil => have := C.len3; simp at this
    | cons q rs => exact ⟨q, rs, rfl⟩
  have es : starD ((q :: rs).map pt) 1 2 = some [pt q, .lst (rs.map pt)] := by
    rw [List.length_cons] at hl
    unfold starD
    rw [if_pos ⟨by simp, by simp; omega⟩]
    simp [List.take_of_length_le]
  have ez := prs_zip (q := q) (qs := rs)
  have pm := fun e h => prs_mem (e := e) C hp h
  have pl : (prs (q :: rs)).length = rs.length + 1 := by unfold prs; simp
  rw [← prs_sw]
  rw [List.map_cons] at es
  simp only [List.map_append, List.map_cons, List.map_nil] at ez
  apply oE_eq
  unfold m_sides b_sides
  rw [oE_run, oS_seq, oS_asgG]
  simp [gStar, es]
  unfold Nxt
  simp
  unfold Nxt
  simp
  obtain ⟨I, hI⟩ : ∃ I : List ((Int × Int) × (Int × Int)) → List ((Int × Int) × (Int × Int)) → Rho → Unit → Prop, I = fun dn td ρ t => ∃ s4 s5 s6 s7, ρ = [.val (.tup (pt q :: rs.map pt)), .val (pt q), .val (.lst (rs.map pt)), .own (dn.map fun e => pt (sideway e.1 e.2)), s4, s5, s6, s7] := ⟨_, rfl⟩
  rw [ez]
  refine ⟨by simp at hl; omega, oS_loopE I _ (by rw [hI]; exact ⟨_, _, _, _, rfl⟩) ?_ ?_⟩
  · intro dn e td ρ t eq hh
    rw [hI] at hh
    obtain ⟨s4, s5, s6, s7, rfl⟩ := hh
    obtain ⟨n1, b1, b2⟩ := pm e (by rw [eq]; simp)
    obtain ⟨⟨a, b⟩, c, d⟩ := e
    have ew := sideway_ok n1 b1 b2
    have dl : dn.length < 16777216 := by
      have := congrArg List.length eq
      simp [pl] at this
      simp at hl
      omega
    refine ⟨[.val (.tup (pt q :: rs.map pt)), .val (pt q), .val (.lst (rs.map pt)), .own (dn.map fun e => pt (sideway e.1 e.2)), .val (.int a), .val (.int b), .val (.int c), .val (.int d)], rfl, ?_⟩
    simp [ew, dl]
    rw [hI]
    exact ⟨_, _, _, _, by rw [List.map_append]; rfl⟩
  · intro ρ t hh
    rw [hI] at hh
    obtain ⟨s4, s5, s6, s7, rfl⟩ := hh
    unfold Nxt
    simp [fTup]
theorem law_way_nw {p q : Int} (h : p ≠ 0 ∨ q ≠ 0) (hp : p.natAbs < 2 ^ 8000) (hq : q.natAbs < 2 ^ 8000) : m__law_way [.int p, .int q] () = .ok (pt (nw p q)) () := by
  obtain ⟨g0, gs⟩ := gcd_small h hp hq
  have o : ∀ x, divOk x (Int.gcd p q : Int) = true := fun x => small_div g0 gs (by decide) (by decide)
  apply oE_eq
  unfold m__law_way b__law_way
  simp [law_gcd_ok]
  unfold Nxt
  have o' := o p
  have o2 := o q
  unfold pt nw
  simp [o', o2]
theorem law_sideway_ok {a b : Int × Int} (h : a ≠ b) (ha : Ptb a) (hb : Ptb b) : m__law_way [.int (b.2 - a.2), .int (a.1 - b.1)] () = .ok (pt (sideway a b)) () :=
  law_way_nw (side_ne h) (Nat.lt_of_lt_of_le (sub_small hb.2 ha.2) (Nat.pow_le_pow_right (by decide) (by decide))) (Nat.lt_of_lt_of_le (sub_small ha.1 hb.1) (Nat.pow_le_pow_right (by decide) (by decide)))
theorem law_ways_ok {qs : List (Int × Int)} (C : Cvx qs) (hp : ∀ q ∈ qs, Ptb q) (hl : qs.length ≤ 1000) : mF__law_ways [.tup (qs.map pt)] () = .ok ((sw qs).map pt) () := by
  have h3 := C.len3
  apply oE_eq
  unfold mF__law_ways b__law_ways
  simp
  rw [enum_pts]
  obtain ⟨I, hI⟩ : ∃ I : List Nat → List Nat → Rho → Unit → Prop, I = fun dn td ρ t => ∃ s4 s5 s6, ρ = [.val (.tup (qs.map pt)), .own (((sw qs).take dn.length).map pt), s4, s5, s6] := ⟨_, rfl⟩
  refine oS_loopE I _ (by rw [hI]; exact ⟨_, _, _, rfl⟩) ?_ ?_
  · intro dn i td ρ t eq hh
    rw [hI] at hh
    obtain ⟨s4, s5, s6, rfl⟩ := hh
    obtain ⟨rfl, hi⟩ := range_split eq
    have hm : (dn.length + 1) % qs.length < qs.length := Nat.mod_lt _ (by omega)
    have e1 := at_pts hm
    have ef : Int.fmod ((dn.length : Int) + 1) (qs.length : Int) = ((dn.length : Int) + 1) % (qs.length : Int) := by
      rw [Int.fmod_eq_emod_of_nonneg _ (by omega)]
    rw [Int.natCast_emod, Int.natCast_add] at e1
    simp only [Int.natCast_one] at e1
    have n1 := C.ne hi
    have b1 := hp _ (List.mem_of_getElem? (q0_at hi))
    have b2 := hp _ (List.mem_of_getElem? (q0_at hm))
    have st := sw_take hi
    have tl : ((sw qs).take dn.length).length < 16777216 := by rw [List.length_take, sw_len]; omega
    generalize q0 qs dn.length = a at *
    generalize q0 qs ((dn.length + 1) % qs.length) = b at *
    have ew := law_sideway_ok n1 b1 b2
    refine ⟨_, rfl, ?_⟩
    simp [ef, e1]
    refine ⟨by first | omega | (rintro rfl; simp at h3), ?_⟩
    unfold Nxt
    have dl : dn.length < 16777216 := by omega
    simp [pt_ix0, pt_ix1, ew]
    refine ⟨by rw [sw_len]; omega, ?_⟩
    rw [hI]
    refine ⟨.val (.int dn.length), .val (pt a), .val (pt b), ?_⟩
    rw [List.length_append, List.length_singleton, st, List.map_append, List.map_take]
    rfl
  · intro ρ t hh
    rw [hI] at hh
    obtain ⟨s4, s5, s6, rfl⟩ := hh
    simp
    rw [List.take_of_length_le (by rw [List.length_map, sw_len]; exact Nat.le_refl _)]
theorem eqv_pt (x y : Int × Int) : PyData.eqv (pyP y) (pyP x) = decide (x = y) := by
  obtain ⟨a, b⟩ := x
  obtain ⟨c, d⟩ := y
  simp [pyP, PyData.eqv, PyData.eqvAll]
  rw [Bool.eq_iff_iff]
  simp
  constructor
  · rintro ⟨rfl, rfl⟩; exact ⟨rfl, rfl⟩
  · rintro ⟨rfl, rfl⟩; exact ⟨rfl, rfl⟩
theorem shaped_pts (l : List (Int × Int)) : SeqAt.shaped (.list (l.map pyP)) = true := by
  unfold SeqAt.shaped
  refine Bool.and_eq_true_iff.mpr ⟨?_, decide_eq_true ?_⟩
  · show PyData.canLayAll0 (l.map pyP) = true
    induction l with
    | nil => rfl
    | cons x l ih => simp [PyData.canLayAll0, ih, pyP, PyData.canLay0]
  · have : PyData.depthAll (l.map pyP) ≤ 2 := by
      induction l with
      | nil => simp [PyData.depthAll]
      | cons x l ih => simp [PyData.depthAll, pyP, PyData.depth] at ih ⊢; omega
    simp [PyData.depth]
    omega
theorem inD_pts (x : Int × Int) (l : List (Int × Int)) : inD (pt x) (.lst (l.map pt)) = some (decide (x ∈ l)) := by
  have e1 : py (pt x) = some (pyP x) := rfl
  have sh : SeqAt.shaped (pyP x) = true := by simp [pyP, SeqAt.shaped, PyData.canLay0, PyData.canLayAll0, PyData.depth, PyData.depthAll]
  unfold inD
  dsimp only
  rw [e1, pys_pts]
  dsimp only
  rw [if_pos ⟨sh, shaped_pts l⟩]
  congr 1
  induction l with
  | nil => rfl
  | cons y l ih =>
    rw [List.map_cons, List.any_cons, ih, eqv_pt]
    simp
theorem notin_pts (x : Int × Int) (l : List (Int × Int)) : dNotIn (pt x) (.lst (l.map pt)) = some (.bl (!decide (x ∈ l))) := by unfold dNotIn; rw [inD_pts]; rfl
theorem law_pair_waysF {qs rs : List (Int × Int)} {one two : D} (C1 : Cvx qs) (C2 : Cvx rs) (hp1 : ∀ q ∈ qs, Ptb q) (hp2 : ∀ q ∈ rs, Ptb q) (hl1 : qs.length ≤ 1000) (hl2 : rs.length ≤ 1000) (e1 : dIx one (.int 1) = some (.tup (qs.map pt))) (e2 : dIx two (.int 1) = some (.tup (rs.map pt))) :
    mF__law_pair_ways [one, two] () = .ok ((pwy qs rs).map pt) () := by
  have w1 := law_ways_ok C1 hp1 hl1
  have w2 := asL_ok (law_ways_ok C2 hp2 hl2)
  apply oE_eq
  unfold mF__law_pair_ways b__law_pair_ways
  simp [e1, w1]
  simp only [oS_seq, oS_for, oE_e1, oE_e2, oE_c, oE_cons, oE_var, oE_varW, oE_nil, oE_call, List.getElem?_cons_zero, List.getElem?_cons_succ, List.set_cons_succ, List.set_cons_zero, Option.some.injEq, exists_eq_left', e2, List.append_nil]
  rw [show m__law_ways [.tup (rs.map pt)] () = .ok (.lst ((sw rs).map pt)) () from w2]
  simp only [oE_ok, itD_lst, Option.some.injEq, exists_eq_left']
  obtain ⟨I, hI⟩ : ∃ I : List (Int × Int) → List (Int × Int) → Rho → Unit → Prop, I = fun dn td ρ t => ∃ s4, ρ = [.val one, .val two, .own ((addn (sw qs) dn).map pt), s4] := ⟨_, rfl⟩
  refine oS_loopE I _ (by rw [hI]; exact ⟨_, rfl⟩) ?_ ?_
  · intro dn w td ρ t eq hh
    rw [hI] at hh
    obtain ⟨s4, rfl⟩ := hh
    have en : D.tup [.int (-w.1), .int (-w.2)] = pt (ngp w) := rfl
    have ni := notin_pts (ngp w) (addn (sw qs) dn)
    have al : (addn (sw qs) dn).length < 16777216 := by
      have h1 := addn_len (l := sw qs) dn
      have h2 := congrArg List.length eq
      rw [List.length_append, List.length_cons, sw_len] at h2
      rw [sw_len] at h1
      omega
    have sn := addn_snoc (sw qs) dn w
    refine ⟨_, rfl, ?_⟩
    simp [pt_ix0, pt_ix1, en, ni]
    by_cases hm : ngp w ∈ addn (sw qs) dn
    · left
      refine ⟨hm, ?_⟩
      rw [hI]
      dsimp only
      rw [sn, if_pos hm]
      exact ⟨_, rfl⟩
    · right
      refine ⟨hm, al, ?_⟩
      rw [hI]
      dsimp only
      rw [sn, if_neg hm]
      exact ⟨_, by rw [List.map_append]; rfl⟩
  · intro ρ t hh
    rw [hI] at hh
    obtain ⟨s4, rfl⟩ := hh
    simp [sort_sP]
    rfl
theorem turned_way_ok (w : Int × Int) : m_turned_way [pt w] () = .ok (pt (ngp w)) () := by
  apply oE_eq
  unfold m_turned_way b_turned_way
  simp [pt_ix0, pt_ix1]
  rfl
theorem keq_pt (x y : Int × Int) : keqD (pt x) (pt y) = decide (x = y) := by
  show decide ([x.1, x.2] = [y.1, y.2]) = _
  obtain ⟨a, b⟩ := x
  obtain ⟨c, d⟩ := y
  simp
def trues (l : List (Int × Int)) : List D := l.map fun _ => .bl true
theorem put_pt {l : List (Int × Int)} {x : Int × Int} (hl : l.length ≤ 1000000) : putTK (l.map pt) (trues l) (pt x) (.bl true) = some ((if x ∈ l then l else l ++ [x]).map pt, trues (if x ∈ l then l else l ++ [x])) := by
  unfold putTK
  rw [if_pos ⟨rfl, by rw [List.length_map]; omega⟩]
  by_cases h : x ∈ l
  · rw [if_pos h]
    unfold trues
    rw [put_map (k := pt) (f := fun _ => .bl true) h (by rw [keq_pt]; simp)]
    congr 2
    simp
  · rw [if_neg h, put_new (fun y hy => by
      obtain ⟨z, hz, rfl⟩ := List.mem_map.mp hy
      rw [keq_pt, decide_eq_true_eq]
      rintro rfl
      exact h hz)]
    unfold trues
    simp
theorem putD_pt {l : List (Int × Int)} {x : Int × Int} (h0 : l ≠ []) (hl : l.length ≤ 1000000) : putD (l.map pt) (trues l) (pt x) (.bl true) = some ((if x ∈ l then l else l ++ [x]).map pt, trues (if x ∈ l then l else l ++ [x])) := by
  rw [← put_pt hl]
  cases l with
  | nil => exact absurd rfl h0
  | cons y l => rfl
theorem dict_pts {ρ : Rho} (hl : ρ.length = 4) {Q : List D × List D → Unit → Prop} : ∀ (ws dn : List (Int × Int)), (dn ++ ws).Nodup → (dn ++ ws).length ≤ 1000000 → Q ((dn ++ ws).map pt, trues (dn ++ ws)) () →
    oE (dcompL putTK (gN 3) (fun _ t => .ok true t) (eVar 3) (eC (.bl true)) ρ (ws.map pt) () (dn.map pt, trues dn)) Q (fun _ _ _ => False)
  | [], dn, _, _, h => by
    rw [List.map_nil, oE_dcompNil]
    simpa using h
  | w :: ws, dn, nd, hlen, h => by
    have e' : dn ++ w :: ws = (dn ++ [w]) ++ ws := by simp
    rw [List.map_cons, oE_dcompCons]
    refine ⟨_, rfl, ?_⟩
    have nb : w ∉ dn := fun z => by
      rw [List.nodup_append] at nd
      exact nd.2.2 _ z w (by simp) rfl
    have pe := put_pt (l := dn) (x := w) (by rw [List.length_append] at hlen; omega)
    rw [if_neg nb] at pe
    have e9 : (ρ.set 3 (.val (pt w)))[3]? = some (.val (pt w)) := by rw [List.getElem?_set_self (by omega)]
    simp only [oE_ok, not_true_eq_false, false_implies, and_true, forall_const, oE_var, e9, oE_c]
    exact ⟨_, pe, dict_pts hl ws (dn ++ [w]) (by rw [← e']; exact nd) (by rw [← e']; exact hlen) (by rw [← e']; exact h)⟩
theorem pair_ways_ok {qs rs : List (Int × Int)} {one two : D} (C1 : Cvx qs) (C2 : Cvx rs) (hp1 : ∀ q ∈ qs, Ptb q) (hp2 : ∀ q ∈ rs, Ptb q) (hl1 : qs.length ≤ 1000) (hl2 : rs.length ≤ 1000) (e1 : dIx one (.int 1) = some (.tup (qs.map pt))) (e2 : dIx two (.int 1) = some (.tup (rs.map pt))) :
    m_pair_ways [one, two] () = .ok (.tup ((pwy qs rs).map pt)) () := by
  have w1 := sides_ok C1 hp1 hl1
  have w2 := sides_ok C2 hp2 hl2
  have h3 := C1.len3
  have hs : sw qs ≠ [] := fun z => by
    have := congrArg List.length z
    rw [sw_len, List.length_nil] at this
    omega
  apply oE_eq
  unfold m_pair_ways b_pair_ways
  simp [e1, w1]
  refine ⟨by rw [sw_len]; omega, ?_⟩
  refine dict_pts (by simp) (sw qs) [] (by simpa using C1.ways_nodup) (by simp [sw_len]; omega) ?_
  simp only [List.nil_append]
  refine ⟨by simp [hs], ?_⟩
  unfold Nxt
  simp only [oS_seq, oS_for, oE_e1, oE_e2, oE_c, oE_cons, oE_var, oE_varW, oE_nil, oE_call, List.getElem?_cons_zero, List.getElem?_cons_succ, List.set_cons_succ, List.set_cons_zero, Option.some.injEq, exists_eq_left', e2, List.append_nil, w2, oE_ok, itD_tup]
  obtain ⟨I, hI⟩ : ∃ I : List (Int × Int) → List (Int × Int) → Rho → Unit → Prop, I = fun dn td ρ t => ∃ s4, ρ = [.val one, .val two, .dct ((addn (sw qs) dn).map pt) (trues (addn (sw qs) dn)), s4] := ⟨_, rfl⟩
  refine oS_loopE I _ (by rw [hI]; exact ⟨_, rfl⟩) ?_ ?_
  · intro dn w td ρ t eq hh
    rw [hI] at hh
    obtain ⟨s4, rfl⟩ := hh
    have al : (addn (sw qs) dn).length ≤ 1000000 := by
      have h1 := addn_len (l := sw qs) dn
      have h2 := congrArg List.length eq
      rw [List.length_append, List.length_cons, sw_len] at h2
      rw [sw_len] at h1
      omega
    have an : addn (sw qs) dn ≠ [] := fun z => by
      cases hq : sw qs with
      | nil => exact hs hq
      | cons x l =>
        have : x ∈ addn (sw qs) dn := (addn_mem dn).mpr (.inl (by rw [hq]; simp))
        rw [z] at this
        cases this
    have pe := putD_pt (x := ngp w) an al
    rw [← addn_snoc] at pe
    refine ⟨_, rfl, ?_⟩
    simp [turned_way_ok, pe]
    rw [hI]
    exact ⟨_, _, ⟨rfl, rfl⟩, _, rfl⟩
  · intro ρ t hh
    rw [hI] at hh
    obtain ⟨s4, rfl⟩ := hh
    have hx : isXk ((addn (sw qs) (sw rs)).map pt) = true := by
      cases hq : addn (sw qs) (sw rs) with
      | nil =>
        cases hq2 : sw qs with
        | nil => exact absurd hq2 hs
        | cons x l =>
          have : x ∈ addn (sw qs) (sw rs) := (addn_mem _).mpr (.inl (by rw [hq2]; simp))
          rw [hq] at this
          cases this
      | cons x l => rfl
    have fx : ∀ vs, fLstX [.dct ((addn (sw qs) (sw rs)).map pt) vs] = some ((addn (sw qs) (sw rs)).map pt) := fun vs => by
      show (if isXk ((addn (sw qs) (sw rs)).map pt) = true then some ((addn (sw qs) (sw rs)).map pt) else none) = _
      rw [if_pos hx]
    unfold Nxt
    simp [fx, sort_sP, fTup]
    rfl
def IsFr (n d : Nat) (r : Rat) (x : D) : Prop := ∃ a b : Int, x = .tup [.int a, .int b] ∧ 0 < b ∧ a.natAbs < 2 ^ n ∧ b.natAbs < 2 ^ d ∧ Rat.divInt a b = r
theorem IsFr.sdof {n d : Nat} {r : Rat} (h : Sd n d r) : IsFr n d r (R r) := ⟨r.num, r.den, rfl, by have := r.den_pos; omega, h.nu, h.de, Rat.num_divInt_den r⟩
theorem IsFr.of {n : Nat} {r : Rat} (h : Sz n r) : IsFr n n r (R r) := IsFr.sdof h.sd
theorem IsFr.int {n : Nat} {k : Int} (h : k.natAbs < 2 ^ n) : IsFr n 1 (k : Rat) (.tup [.int k, .int 1]) := IsFr.sdof (Sd.int h)
theorem IsFr.mk {n d : Nat} {a b : Int} (hb : 0 < b) (h1 : a.natAbs < 2 ^ n) (h2 : b.natAbs < 2 ^ d) : IsFr n d (Rat.divInt a b) (.tup [.int a, .int b]) := ⟨a, b, rfl, hb, h1, h2, rfl⟩
theorem IsFr.le {n d n' d' : Nat} {r : Rat} {x : D} (h : IsFr n d r x) (hn : n ≤ n') (hd : d ≤ d') : IsFr n' d' r x := by
  obtain ⟨a, b, e, hb, h1, h2, h3⟩ := h
  exact ⟨a, b, e, hb, lt_up h1 hn, lt_up h2 hd, h3⟩
theorem IsFr.sd {n d : Nat} {r : Rat} {x : D} (h : IsFr n d r x) : Sd n d r := by
  obtain ⟨a, b, e, hb, h1, h2, rfl⟩ := h
  exact divInt_sd (by omega) h1 h2
def IsSp (n d : Nat) (x y : Rat) (z : D) : Prop := ∃ f g, z = .tup [f, g] ∧ IsFr n d x f ∧ IsFr n d y g
theorem IsSp.of {n : Nat} {x y : Rat} (h1 : Sz n x) (h2 : Sz n y) : IsSp n n x y (S2 x y) := ⟨_, _, rfl, .of h1, .of h2⟩
theorem IsSp.mk {n d : Nat} {x y : Rat} {f g : D} (h1 : IsFr n d x f) (h2 : IsFr n d y g) : IsSp n d x y (.tup [f, g]) := ⟨_, _, rfl, h1, h2⟩
theorem IsSp.sd {n d : Nat} {x y : Rat} {z : D} (h : IsSp n d x y z) : Sd n d x ∧ Sd n d y := by
  obtain ⟨f, g, e, h1, h2⟩ := h
  exact ⟨h1.sd, h2.sd⟩
theorem Sd.sz {n d N : Nat} {r : Rat} (h : Sd n d r) (h1 : n ≤ N) (h2 : d ≤ N) : Sz N r := ⟨lt_up h.nu h1, lt_up h.de h2⟩
theorem fr_plus {n d m e N M : Nat} {r s : Rat} {x y : D} (h1 : IsFr n d r x) (h2 : IsFr m e s y) (hN : n + e < N) (hN' : m + d < N) (hM : d + e ≤ M) (hW : N + M ≤ 900000) : ∃ f, m__law_plus [x, y] () = .ok f () ∧ IsFr N M (r + s) f := by
  obtain ⟨a, b, rfl, hb, s1, s2, rfl⟩ := h1
  obtain ⟨a', b', rfl, hb', s1', s2', rfl⟩ := h2
  obtain ⟨N, rfl⟩ : ∃ k, N = k + 1 := ⟨N - 1, by omega⟩
  refine ⟨.tup [.int (a * b' + a' * b), .int (b * b')], oE_eq ?_, _, _, rfl, Int.mul_pos hb hb', sz_add (sz_mulN s1 s2' (by omega)) (sz_mulN s1' s2 (by omega)), sz_mulN s2 s2' hM, ?_⟩
  · unfold m__law_plus b__law_plus
    simp [mulW s1 s2' (by omega), mulW s1' s2 (by omega), mulW s2 s2' (by omega)]
  · rw [Rat.divInt_add_divInt _ _ (by omega) (by omega)]
theorem fr_times {n d m e : Nat} {r s : Rat} {x y : D} (h1 : IsFr n d r x) (h2 : IsFr m e s y) (h : n + m + d + e ≤ 900000) : ∃ f, m__law_times [x, y] () = .ok f () ∧ IsFr (n + m) (d + e) (r * s) f := by
  obtain ⟨a, b, rfl, hb, s1, s2, rfl⟩ := h1
  obtain ⟨a', b', rfl, hb', s1', s2', rfl⟩ := h2
  refine ⟨.tup [.int (a * a'), .int (b * b')], oE_eq ?_, _, _, rfl, Int.mul_pos hb hb', sz_mul s1 s1', sz_mul s2 s2', ?_⟩
  · unfold m__law_times b__law_times
    simp [mulW s1 s1' (by omega), mulW s2 s2' (by omega)]
  · rw [Rat.divInt_mul_divInt]
theorem sp_plus {n d m e N M : Nat} {x y u v : Rat} {p q : D} (h1 : IsSp n d x y p) (h2 : IsSp m e u v q) (hN : n + e < N) (hN' : m + d < N) (hM : d + e ≤ M) (hW : N + M ≤ 900000) : ∃ f, m__law_spot_plus [p, q] () = .ok f () ∧ IsSp N M (x + u) (y + v) f := by
  obtain ⟨f, g, rfl, f1, g1⟩ := h1
  obtain ⟨f', g', rfl, f2, g2⟩ := h2
  obtain ⟨a, ea, fa⟩ := fr_plus f1 f2 hN hN' hM hW
  obtain ⟨b, eb, fb⟩ := fr_plus g1 g2 hN hN' hM hW
  refine ⟨.tup [a, b], oE_eq ?_, a, b, rfl, fa, fb⟩
  unfold m__law_spot_plus b__law_spot_plus
  simp [ea, eb]
theorem sp_times {n d m e : Nat} {x y u : Rat} {p q : D} (h1 : IsSp n d x y p) (h2 : IsFr m e u q) (h : n + m + d + e ≤ 900000) : ∃ f, m__law_spot_times [p, q] () = .ok f () ∧ IsSp (n + m) (d + e) (x * u) (y * u) f := by
  obtain ⟨f, g, rfl, f1, g1⟩ := h1
  obtain ⟨a, ea, fa⟩ := fr_times f1 h2 h
  obtain ⟨b, eb, fb⟩ := fr_times g1 h2 h
  refine ⟨.tup [a, b], oE_eq ?_, a, b, rfl, fa, fb⟩
  unfold m__law_spot_times b__law_spot_times
  simp [ea, eb]
theorem fr_share {n d : Nat} {r : Rat} {x : D} (h : IsFr n d r x) (hn : d ≤ 8000) : ∃ a b, x = .tup [.int a, .int b] ∧ m__law_share [.int a, .int b] () = .ok (R r) () := by
  obtain ⟨a, b, rfl, hb, s1, s2, rfl⟩ := h
  exact ⟨a, b, rfl, law_share_pos hb (lt_up s2 hn)⟩
theorem sp_spot {n d : Nat} {x y : Rat} {z : D} (h : IsSp n d x y z) (hn : d ≤ 8000) : m__law_spot [z] () = .ok (S2 x y) () := by
  obtain ⟨f, g, rfl, f1, g1⟩ := h
  obtain ⟨a, b, rfl, e1⟩ := fr_share f1 hn
  obtain ⟨c, e, rfl, e2⟩ := fr_share g1 hn
  apply oE_eq
  unfold m__law_spot b__law_spot
  simp [e1, e2]
  rfl
theorem long_wp {ns : List Int} {a : Addr} {n : Nat} {t : Dk} {k : Int} {Q : D → Dk → Prop} {X : Str → Fds → Dk → Prop} (g : Gd ns a n t) (hc : n < 10000000000) (h0 : 0 ≤ k) (h1 : k ≤ 20) (h : ∀ (r : Int) (t' : Dk), 0 ≤ r → r.natAbs < 1000 ^ k.toNat → Gd ns a (n + k.toNat) t' → Q (.int r) t') :
    oE (m__law_long [.at a, .int k] t) Q X := by
  unfold m__law_long b__law_long
  simp
  unfold Nxt
  simp
  refine ⟨by omega, ?_⟩
  unfold rngD
  obtain ⟨I, hI⟩ : ∃ I : List Nat → List Nat → Rho → Dk → Prop, I = fun dn td ρ t => ∃ (v : Int) (s3 : Slot), 0 ≤ v ∧ v.natAbs < 1000 ^ dn.length ∧ Gd ns a (n + dn.length) t ∧ ρ = [.val (.at a), .val (.int k), .val (.int v), s3] := ⟨_, rfl⟩
  refine oS_loopE I _ (by rw [hI]; exact ⟨0, _, by decide, by decide, g, rfl⟩) ?_ ?_
  · intro dn i td ρ t eq hh
    rw [hI] at hh
    obtain ⟨v, s3, v0, v1, gg, rfl⟩ := hh
    obtain ⟨rfl, hi⟩ := range_split eq
    have hd : dn.length < 20 := by omega
    have vs : v.natAbs < 2 ^ 200 := by
      have : 1000 ^ dn.length ≤ 1000 ^ 20 := Nat.pow_le_pow_right (by decide) (by omega)
      have q : 1000 ^ 20 ≤ 2 ^ 200 := by decide
      omega
    refine ⟨_, rfl, ?_⟩
    simp
    refine ⟨small_mul (a := 200) (b := 20) vs (by decide) (by decide) (by decide) (by decide), take_wp gg (by omega) (many_of (by decide) (by decide)) fun r t' r0 r1 g' => ?_⟩
    simp
    rw [hI]
    refine ⟨v * 1000 + r, _, by omega, ?_, by rw [List.length_append]; exact g', rfl⟩
    rw [List.length_append, List.length_singleton, Nat.pow_succ]
    omega
  · intro ρ t hh
    rw [hI] at hh
    obtain ⟨v, s3, v0, v1, gg, rfl⟩ := hh
    unfold Nxt
    simp
    rw [List.length_range] at v1 gg
    exact h v t v0 v1 gg
theorem Chn.cons {Rl : Int × Int → Int × Int → Prop} {a b : Int × Int} {l : List (Int × Int)} (h1 : Rl a b) (h2 : ∀ c, l.head? = some c → 0 < lf a b c) (h : Chn Rl (b :: l)) : Chn Rl (a :: b :: l) := by
  refine ⟨fun j x y e1 e2 => ?_, fun j x y z e1 e2 e3 => ?_⟩
  · cases j with
    | zero => cases e1; cases e2; exact h1
    | succ j => exact h.st j x y e1 e2
  · cases j with
    | zero => cases e1; cases e2; exact h2 z (by rw [List.head?_eq_getElem?]; exact e3)
    | succ j => exact h.tu j x y z e1 e2 e3
theorem Chn.c1 {Rl : Int × Int → Int × Int → Prop} {a b : Int × Int} (h : Rl a b) : Chn Rl [a, b] := Chn.two h
theorem Chn.c2 {Rl : Int × Int → Int × Int → Prop} {a b c : Int × Int} {l : List (Int × Int)} (h1 : Rl a b) (h2 : 0 < lf a b c) (h : Chn Rl (b :: c :: l)) : Chn Rl (a :: b :: c :: l) := Chn.cons h1 (fun x e => by cases e; exact h2) h
theorem box_cvx {x y w h : Int} (hw : 0 < w) (hh : 0 < h) : Cvx [(x, y), (x + w, y), (x + w, y + h), (x, y + h)] := by
  have p := Int.mul_pos hw hh
  exact cvx_of (U := [(x, y), (x + w, y)]) (V := [(x + w, y + h), (x, y + h)]) (f := (x, y)) (z := (x + w, y + h)) rfl rfl
    (.c2 (.inl (show x < x + w by omega)) (by unfold lf; simp; grind) (.c1 (.inr ⟨rfl, show y < y + h by omega⟩)))
    (.c2 (.inl (show x < x + w by omega)) (by unfold lf; simp; grind) (.c1 (.inr ⟨rfl, show y < y + h by omega⟩))) (by show 3 ≤ 4; decide)
theorem number_wp {ns : List Int} {a : Addr} {n : Nat} {t : Dk} {z : Int} {Q : D → Dk → Prop} {X : Str → Fds → Dk → Prop} (g : Gd ns a n t) (hc : n < 1000000000) (h0 : 0 ≤ z) (h1 : z ≤ 1000000) (h : ∀ (r : Int) (t' : Dk), -z ≤ r → r ≤ z → Gd ns a (n + 3) t' → Q (.int r) t') :
    oE (m__law_number [.at a, .int z] t) Q X := by
  unfold m__law_number b__law_number
  simp
  by_cases hz : z < 1000
  · right
    refine ⟨hz, small_mul (i := 2) (j := z) (a := 20) (b := 20) (by decide) (by omega) (by decide) (by decide) (by decide), take_wp g (by omega) (many_of (by omega) (by omega)) fun r t' r0 r1 g' => ?_⟩
    simp
    exact h _ _ (by omega) (by omega) (g'.le (by omega))
  · left
    refine ⟨by omega, ?_⟩
    unfold Nxt
    simp
    refine long_wp g (by omega) (by decide) (by decide) fun r t' r0 r1 g' => ?_
    have f := fmod_pos (a := r) (b := 2 * z + 1) (by omega)
    simp
    exact ⟨small_mul (i := 2) (j := z) (a := 20) (b := 20) (by decide) (by omega) (by decide) (by decide) (by decide), by omega, h _ _ (by omega) (by omega) g'⟩
theorem tri_cvx : Cvx [(-1, 0), (2, 0), (0, 2)] :=
  cvx_of (U := [(-1, 0)]) (V := [(2, 0), (0, 2)]) (f := (-1, 0)) (z := (2, 0)) rfl rfl (.c1 (.inl (by decide))) (.c2 (.inl (by decide)) (by decide) (.c1 (.inl (by decide)))) (by decide)
theorem eight_cvx {w m a b c d e f g h : Int} (hw : w = 2 * m + 1) (ha : 1 ≤ a ∧ a ≤ m) (hb : 1 ≤ b ∧ b ≤ m) (hc : 1 ≤ c ∧ c ≤ m) (hd : 1 ≤ d ∧ d ≤ m) (he : 1 ≤ e ∧ e ≤ m) (hf : 1 ≤ f ∧ f ≤ m) (hg : 1 ≤ g ∧ g ≤ m) (hh : 1 ≤ h ∧ h ≤ m) :
    Cvx [(0, a), (b, 0), (w - c, 0), (w, d), (w, w - e), (w - f, w), (g, w), (0, w - h)] := by
  have p1 := Int.mul_pos (show 0 < a by omega) (show 0 < w - c - b by omega)
  have p2 := Int.mul_pos (show 0 < d by omega) (show 0 < w - c - b by omega)
  have p3 := Int.mul_pos (show 0 < c by omega) (show 0 < w - e - d by omega)
  have p4 := Int.mul_pos (show 0 < e by omega) (show 0 < w - f - g by omega)
  have p5 := Int.mul_pos (show 0 < h by omega) (show 0 < w - f - g by omega)
  have p6 := Int.mul_pos (show 0 < g by omega) (show 0 < w - a - h by omega)
  exact cvx_of (U := [(0, a), (b, 0), (w - c, 0), (w, d)]) (V := [(w, w - e), (w - f, w), (g, w), (0, w - h)]) (f := (0, a)) (z := (w, w - e)) rfl rfl
    (.c2 (.inl (show 0 < b by omega)) (by unfold lf; simp; grind) (.c2 (.inl (show b < w - c by omega)) (by unfold lf; simp; grind) (.c2 (.inl (show w - c < w by omega)) (by unfold lf; simp; grind) (.c1 (.inr ⟨rfl, show d < w - e by omega⟩)))))
    (.c2 (.inl (show w - f < w by omega)) (by unfold lf; simp; grind) (.c2 (.inl (show g < w - f by omega)) (by unfold lf; simp; grind) (.c2 (.inl (show 0 < g by omega)) (by unfold lf; simp; grind) (.c1 (.inr ⟨rfl, show a < w - h by omega⟩))))) (by show 3 ≤ 8; decide)

@[simp] theorem atI_6 {α : Type} {x y z u v w a : α} {xs : List α} : atI (x :: y :: z :: u :: v :: w :: a :: xs) 6 = some a := atI_nat (j := 6) rfl
@[simp] theorem atI_7 {α : Type} {x y z u v w a b : α} {xs : List α} : atI (x :: y :: z :: u :: v :: w :: a :: b :: xs) 7 = some b := atI_nat (j := 7) rfl
theorem pw_ints {p : Int → Prop} : ∀ {ds ys : List D}, Pw (fun _ y => ∃ c : Int, y = .int c ∧ p c) ds ys → ∃ cs : List Int, ys = cs.map D.int ∧ (∀ c ∈ cs, p c) ∧ cs.length = ds.length
  | _, _, .nil => ⟨[], rfl, fun x hx => (nomatch hx), rfl⟩
  | _, _, .cons h t => by
    obtain ⟨x, rfl, hx⟩ := h
    obtain ⟨xs, rfl, h1, h2⟩ := pw_ints t
    refine ⟨x :: xs, rfl, fun y hy => ?_, by simp [h2]⟩
    rcases List.mem_cons.mp hy with rfl | hy
    · exact hx
    · exact h1 y hy
theorem pw_pts {p : Int × Int → Prop} : ∀ {ds ys : List D}, Pw (fun _ y => ∃ c : Int × Int, y = pt c ∧ p c) ds ys → ∃ cs : List (Int × Int), ys = cs.map pt ∧ (∀ c ∈ cs, p c) ∧ cs.length = ds.length
  | _, _, .nil => ⟨[], rfl, fun x hx => (nomatch hx), rfl⟩
  | _, _, .cons h t => by
    obtain ⟨x, rfl, hx⟩ := h
    obtain ⟨xs, rfl, h1, h2⟩ := pw_pts t
    refine ⟨x :: xs, rfl, fun y hy => ?_, by simp [h2]⟩
    rcases List.mem_cons.mp hy with rfl | hy
    · exact hx
    · exact h1 y hy
theorem eight_of {cs : List Int} (h : cs.length = 8) : ∃ a b c d e f g i, cs = [a, b, c, d, e, f, g, i] := by
  match cs, h with
  | [a, b, c, d, e, f, g, i], _ => exact ⟨a, b, c, d, e, f, g, i, rfl⟩
theorem names_wp {ns : List Int} {a : Addr} {n : Nat} {t : Dk} {Q : D → Dk → Prop} {X : Str → Fds → Dk → Prop} (g : Gd ns a n t) (hc : n < 10000000) (h : ∀ (x y : Str) (t' : Dk), Nm 30 x → Nm 30 y → Gd ns a (n + 50) t' → Q (.lst [.str x, .str y]) t') :
    oE (m__law_names [.at a] t) Q X := by
  unfold m__law_names b__law_names
  simp
  unfold Nxt
  simp
  refine take_wp g (by omega) (many_of (by decide) (by decide)) fun k t1 k0 k1 g1 => ?_
  obtain ⟨z, ez, z0, z1⟩ : ∃ z : Int, atI [D.int 0, D.int 1, D.int 3, D.int 11] k = some (.int z) ∧ 0 ≤ z ∧ z ≤ 11 := by
    have : k = 0 ∨ k = 1 ∨ k = 2 ∨ k = 3 := by omega
    rcases this with rfl | rfl | rfl | rfl
    · exact ⟨0, rfl, by decide, by decide⟩
    · exact ⟨1, rfl, by decide, by decide⟩
    · exact ⟨3, rfl, by decide, by decide⟩
    · exact ⟨11, rfl, by decide, by decide⟩
  simp [ez]
  have hlen : (rngD 0 z.toNat).length = z.toNat := by simp [rngD]
  refine ⟨by omega, by rw [hlen]; omega, comp_wp (p := fun _ y => ∃ x, y = .str x ∧ Nm 1 x) (k := 1) (B := n + 200) _ (fun d hd m t1 g1 hm => ⟨_, rfl, ?_⟩) _ t1 g1 (by omega) fun ys t' hys g' => ?_⟩
  · simp [wipeR]
    refine take_wp g1 (by omega) (many_of (by decide) (by decide)) fun r t2 r0 r1 g2 => ?_
    obtain ⟨x, e, hx⟩ := letter_at r0 r1
    exact ⟨_, e, ⟨x, rfl, hx⟩, g2⟩
  · obtain ⟨xs, rfl, hx, hl⟩ := pw_nm hys
    rw [hlen] at hl g'
    have hj := nm_join xs hx
    rw [hl, Nat.one_mul] at hj
    simp only [join_ok hx (by omega), Option.some.injEq, exists_eq_left']
    generalize Txt.join "" xs = st at *
    replace hj := hj.mono (show z.toNat ≤ 11 by omega)
    have sl : st.length ≤ 11 := hj.le
    have fl : fLen [.str st] = some (.int (st.length : Nat)) := by
      show (if lim2 st.length = true then some (D.int (st.length : Nat)) else none) = _
      rw [if_pos (lim2_nm hj (by decide))]
    unfold Nxt
    simp [fl]
    refine take_wp g' (by omega) (many_of (by omega) (by omega)) fun at_ t3 a0 a1 g3 => ?_
    unfold Nxt
    simp
    refine take_wp g3 (by omega) (many_of (by decide) (by decide)) fun u t4 u0 u1 g4 => ?_
    unfold Nxt
    simp
    refine take_wp g4 (by omega) (many_of (by decide) (by decide)) fun v t5 v0 v1 g5 => ?_
    have f := fmod_pos (a := u + 1 + v) (b := 26) (by decide)
    simp
    generalize (u + 1 + v).fmod 26 = w at *
    obtain ⟨x1, e1, hx1⟩ := letter_at u0 u1
    obtain ⟨x2, e2, hx2⟩ := letter_at f.1 f.2
    unfold Nxt
    have c1 := fun lo hi => cut_nm (lo := lo) (hi := hi) hj (by omega)
    have k1 := hj.cut none (some at_)
    have k2 := hj.cut (some at_) none
    simp [c1, e1, e2, add_nm k1 hx1 (by omega), add_nm k1 hx2 (by omega), add_nm (k1.app hx1) k2 (by omega), add_nm (k1.app hx2) k2 (by omega)]
    exact h _ _ _ (((k1.app hx1).app k2).mono (by omega)) (((k1.app hx2).app k2).mono (by omega)) (g5.le (by omega))
structure B15 where
  x : Str
  qs : List (Int × Int)
  m : Int
  rl : D
  px : Rat
  py : Rat
  vx : Rat
  vy : Rat
def B15.row (b : B15) : D := .tup [.str b.x, .tup (b.qs.map pt), .int b.m, b.rl, S2 b.px b.py, S2 b.vx b.vy]
structure B15.Ok (n m : Nat) (b : B15) : Prop where
  hx : Nm 30 b.x
  cv : Cvx b.qs
  hp : ∀ q ∈ b.qs, Ptb q
  hl : b.qs.length ≤ 16
  s1 : Sz n b.px
  s2 : Sz n b.py
  s3 : Sz m b.vx
  s4 : Sz m b.vy
theorem B15.Ok.le {n m n' m' : Nat} {b : B15} (o : b.Ok n m) (h : n ≤ n') (h' : m ≤ m') : b.Ok n' m' := ⟨o.hx, o.cv, o.hp, o.hl, o.s1.le h, o.s2.le h, o.s3.le h', o.s4.le h'⟩
@[simp] theorem B15.ix0 {b : B15} : dIx b.row (.int 0) = some (.str b.x) := rfl
@[simp] theorem B15.ix1 {b : B15} : dIx b.row (.int 1) = some (.tup (b.qs.map pt)) := rfl
@[simp] theorem B15.ix4 {b : B15} : dIx b.row (.int 4) = some (S2 b.px b.py) := rfl
@[simp] theorem B15.ix5 {b : B15} : dIx b.row (.int 5) = some (S2 b.vx b.vy) := rfl
theorem Sz.zero0 {n : Nat} (h : 1 ≤ n) : Sz n 0 := ⟨by show (0 : Nat) < 2 ^ n; exact Nat.pow_pos (by decide), by show 1 < 2 ^ n; exact Nat.one_lt_two_pow (by omega)⟩
theorem nw_sz {p q : Int} {n : Nat} (h : p ≠ 0 ∨ q ≠ 0) (hp : p.natAbs < 2 ^ n) (hq : q.natAbs < 2 ^ n) : (nw p q).1.natAbs < 2 ^ n ∧ (nw p q).2.natAbs < 2 ^ n := by
  obtain ⟨g, hg, _, e1, e2⟩ := nw_mul h
  have l : ∀ x y : Int, x = g * y → y.natAbs ≤ x.natAbs := fun x y e => by
    rw [e, Int.natAbs_mul]; exact Nat.le_mul_of_pos_left _ (by omega)
  have := l _ _ e1
  have := l _ _ e2
  omega
theorem drawn_wp {ns : List Int} {a : Addr} {n : Nat} {t : Dk} {s : Int} {Q : D → Dk → Prop} {X : Str → Fds → Dk → Prop} (g : Gd ns a n t) (hc : n < 10000000) (hs : s = 0 ∨ s = 1 ∨ s = 2) (h : ∀ (r : Rat) (t' : Dk), Sz 203 r → Gd ns a (n + 50) t' → Q (R r) t') :
    oE (m__law_drawn [.at a, .int s] t) Q X := by
  obtain ⟨m, em, hm⟩ : ∃ m : Int, atI [D.int 0, D.int 2, D.int 20] s = some (.int m) ∧ (m = 0 ∨ m = 2 ∨ m = 20) := by
    rcases hs with rfl | rfl | rfl
    · exact ⟨0, rfl, .inl rfl⟩
    · exact ⟨2, rfl, .inr (.inl rfl)⟩
    · exact ⟨20, rfl, .inr (.inr rfl)⟩
  unfold m__law_drawn b__law_drawn
  simp [em]
  unfold Nxt
  simp
  by_cases h0 : m = 0
  · right
    refine ⟨h0, take_wp g (by omega) (many_of (by decide) (by decide)) fun u t1 u0 u1 g1 => ?_⟩
    simp
    refine take_wp g1 (by omega) (many_of (by decide) (by decide)) fun v t2 v0 v1 g2 => ?_
    refine take_wp g2 (by omega) (many_of (by decide) (by decide)) fun w t3 w0 w1 g3 => ?_
    have b0 : 0 ≤ v * w := Int.mul_nonneg v0 w0
    have b1 : v * w ≤ 3 * w := Int.mul_le_mul_of_nonneg_right (by omega) w0
    simp
    refine ⟨small_mul (i := v) (j := w) (a := 20) (b := 20) (by omega) (by omega) (by decide) (by decide) (by decide), ?_⟩
    generalize v * w = p at *
    rw [law_share_pos (by omega) (up8 (n := 10) (by omega) (by decide))]
    exact h _ _ ((divInt_sz (n := 10) (by omega) (by omega) (by omega)).le (by decide)) (g3.le (by omega))
  · left
    refine ⟨h0, ?_⟩
    unfold Nxt
    simp
    refine take_wp g (by omega) (many_of (by decide) (by decide)) fun u t1 u0 u1 g1 => ?_
    simp
    refine ⟨small_mul (i := 2) (j := u) (a := 20) (b := 20) (by omega) (by omega) (by decide) (by decide) (by decide), ?_⟩
    unfold Nxt
    simp
    refine long_wp g1 (by omega) (by omega) (by omega) fun v t2 v0 v1 g2 => ?_
    have vs : v.natAbs < 2 ^ 200 := by
      have q1 : 1000 ^ m.toNat ≤ 1000 ^ 20 := Nat.pow_le_pow_right (by decide) (by omega)
      have q : 1000 ^ 20 ≤ 2 ^ 200 := by decide
      omega
    have us : (1 - 2 * u).natAbs < 2 ^ 1 := by omega
    simp
    refine ⟨mulOk_sz us vs (by decide), ?_⟩
    refine take_wp g2 (by omega) (many_of (by omega) (by omega)) fun w t3 w0 w1 g3 => ?_
    refine long_wp g3 (by omega) (by omega) (by omega) fun x t4 x0 x1 g4 => ?_
    have xs : x.natAbs < 2 ^ 200 := by
      have q1 : 1000 ^ w.toNat ≤ 1000 ^ 20 := Nat.pow_le_pow_right (by decide) (by omega)
      have q : 1000 ^ 20 ≤ 2 ^ 200 := by decide
      omega
    simp
    have x1s : (1 + x).natAbs < 2 ^ 201 := by omega
    have uv : ((1 - 2 * u) * v).natAbs < 2 ^ 201 := sz_mul us vs |> fun z => by rw [Nat.add_comm] at z; exact z
    rw [law_share_pos (by omega) (up8 x1s (by decide))]
    exact h _ _ ((divInt_sz (n := 201) (by omega) uv x1s).le (by decide)) (g4.le (by omega))
theorem cut4 {b : B15} : dCutA b.row none (some 4) = some (.tup [.str b.x, .tup (b.qs.map pt), .int b.m, b.rl]) := rfl
theorem at_nat' {qs : List (Int × Int)} {i : Int} (h0 : 0 ≤ i) (h1 : i < qs.length) : ∃ p ∈ qs, atI (qs.map pt) i = some (pt p) := by
  obtain ⟨j, rfl⟩ : ∃ j : Nat, i = j := ⟨i.toNat, by omega⟩
  exact ⟨q0 qs j, List.mem_of_getElem? (q0_at (by omega)), at_pts (by omega)⟩
def rz (w : Int × Int) (qs : List (Int × Int)) : Int := ((qs.map (hw w)).max?).getD 0
theorem rz_some {w : Int × Int} {qs : List (Int × Int)} (h : qs ≠ []) : (qs.map (hw w)).max? = some (rz w qs) := by
  unfold rz
  cases e : (qs.map (hw w)).max? with
  | none =>
    rw [List.max?_eq_none_iff] at e
    exact absurd (List.map_eq_nil_iff.mp e) h
  | some m => rfl
theorem rz_mem {w : Int × Int} {qs : List (Int × Int)} (h : qs ≠ []) : ∃ c ∈ qs, hw w c = rz w qs := by
  have := List.max?_mem (rz_some (w := w) h)
  obtain ⟨c, hc, e⟩ := List.mem_map.mp this
  exact ⟨c, hc, e⟩
theorem rz_ge {w : Int × Int} {qs : List (Int × Int)} {c : Int × Int} (h : c ∈ qs) : hw w c ≤ rz w qs := by
  have hn : qs ≠ [] := fun z => by rw [z] at h; cases h
  exact (List.max?_le_iff (rz_some hn)).mp (Int.le_refl _) _ (List.mem_map.mpr ⟨c, h, rfl⟩)
theorem hw_sz {w c : Int × Int} {n : Nat} (h1 : w.1.natAbs < 2 ^ n) (h2 : w.2.natAbs < 2 ^ n) (hc : Ptb c) : (hw w c).natAbs < 2 ^ (n + 22) := sz_add (sz_mul h1 hc.1) (sz_mul h2 hc.2)
theorem rz_sz {w : Int × Int} {qs : List (Int × Int)} {n : Nat} (hn : qs ≠ []) (h1 : w.1.natAbs < 2 ^ n) (h2 : w.2.natAbs < 2 ^ n) (hp : ∀ q ∈ qs, Ptb q) : (rz w qs).natAbs < 2 ^ (n + 22) := by
  obtain ⟨c, hc, e⟩ := rz_mem (w := w) hn
  rw [← e]
  exact hw_sz h1 h2 (hp c hc)
theorem reach_ok {w : Int × Int} {qs : List (Int × Int)} {n : Nat} (hn : qs ≠ []) (h1 : w.1.natAbs < 2 ^ n) (h2 : w.2.natAbs < 2 ^ n) (hp : ∀ q ∈ qs, Ptb q) (hl : qs.length ≤ 1000) (hs : n ≤ 7000) : m_reach [.tup (qs.map pt), pt w] () = .ok (.int (rz w qs)) () := by
  have fm : fMaxL [.lst (qs.map fun c => .int (hw w c))] = some (.int (rz w qs)) := by
    show ((intsD (qs.map fun c => .int (hw w c))).bind fun ns => ns.max?.map D.int) = _
    rw [show (qs.map fun c => D.int (hw w c)) = (qs.map (hw w)).map D.int by rw [List.map_map]; rfl, intsD_map, Option.bind_some, rz_some hn]
    rfl
  apply oE_eq
  unfold m_reach b_reach
  simp
  refine ⟨by omega, comp_map (f := fun c => .int (hw w c)) (fun c hc => ?_) ?_⟩
  · have b := hp c hc
    refine ⟨_, rfl, ?_⟩
    simp [wipeR, pt_ix0, pt_ix1]
    exact ⟨mulOk_sz h1 b.1 (by omega), mulOk_sz h2 b.2 (by omega), rfl⟩
  · simp only [fm, Option.some.injEq, exists_eq_left', and_self]
def rateQ (b c : B15) (w : Int × Int) : Rat := (w.1 : Rat) * (c.vx - b.vx) + (w.2 : Rat) * (c.vy - b.vy)
def gapQ (b c : B15) (w : Int × Int) (t : Rat) : Rat := (w.1 : Rat) * (c.px - b.px) + (w.2 : Rat) * (c.py - b.py) - ((rz w b.qs + rz (ngp w) c.qs : Int) : Rat) + rateQ b c w * t
def Wsz (n : Nat) (w : Int × Int) : Prop := w.1.natAbs < 2 ^ n ∧ w.2.natAbs < 2 ^ n
theorem Wsz.neg {n : Nat} {w : Int × Int} (h : Wsz n w) : Wsz n (ngp w) := ⟨by show (-w.1).natAbs < _; rw [Int.natAbs_neg]; exact h.1, by show (-w.2).natAbs < _; rw [Int.natAbs_neg]; exact h.2⟩
theorem B15.Ok.ne {n m : Nat} {b : B15} (o : b.Ok n m) : b.qs ≠ [] := fun z => by have := o.cv.len3; rw [z] at this; simp at this
section
variable {b c : B15} {w : Int × Int} {k n m : Nat} (ob : b.Ok n m) (oc : c.Ok n m) (hwz : Wsz k w)
include ob oc hwz
theorem rate_sd : Sd (k + 4 * m + 4) (4 * m + 2) (rateQ b c w) :=
  Sd.along hwz.1 hwz.2 (oc.s3.sub ob.s3).sd (oc.s4.sub ob.s4).sd (by omega) (by omega) (by omega)
theorem room_sd : Sd (k + 4 * n + 4) (4 * n + 2) ((w.1 : Rat) * (c.px - b.px) + (w.2 : Rat) * (c.py - b.py)) :=
  Sd.along hwz.1 hwz.2 (oc.s1.sub ob.s1).sd (oc.s2.sub ob.s2).sd (by omega) (by omega) (by omega)
theorem shut_sd : Sd (k + 23) 1 ((rz w b.qs + rz (ngp w) c.qs : Int) : Rat) := Sd.int (sz_add (rz_sz ob.ne hwz.1 hwz.2 ob.hp) (rz_sz oc.ne hwz.neg.1 hwz.neg.2 oc.hp))
theorem gap0_sd : Sd (k + 4 * n + 30) (4 * n + 3) (gapQ b c w 0) := by
  unfold gapQ
  rw [Rat.mul_zero, Rat.add_zero]
  exact (room_sd ob oc hwz).sub (shut_sd ob oc hwz) (by omega) (by omega) (by omega)
omit ob oc hwz in
theorem gap_split (t : Rat) : gapQ b c w t = gapQ b c w 0 + rateQ b c w * t := by unfold gapQ; rw [Rat.mul_zero, Rat.add_zero]
theorem rate_ok (h : k + 8 * m ≤ 800000) (hm : m ≤ 1999) : m_rate [b.row, c.row, pt w] () = .ok (R (rateQ b c w)) () := by
  have e1 := spot_minus_S oc.s3.sd oc.s4.sd ob.s3.sd ob.s4.sd (by omega) (by omega)
  have e2 := along_S hwz.1 hwz.2 (oc.s3.sub ob.s3).sd (oc.s4.sub ob.s4).sd (by omega) (by omega)
  apply oE_eq
  unfold m_rate b_rate
  simp [e1]
  rw [show pt w = Wy w.1 w.2 from rfl, e2]
  rfl
theorem gap_ok {t : Rat} {l e : Nat} (ht : Sd l e t) (h : k + n + m + l ≤ 30000) (h' : 4 * n + 4 * m + e + 5 ≤ 8000) (hk : k ≤ 7000) : m_gap [b.row, c.row, pt w, R t] () = .ok (R (gapQ b c w t)) () := by
  have e1 := spot_minus_S oc.s1.sd oc.s2.sd ob.s1.sd ob.s2.sd (by omega) (by omega)
  have e2 := along_S hwz.1 hwz.2 (oc.s1.sub ob.s1).sd (oc.s2.sub ob.s2).sd (by omega) (by omega)
  have e3 := reach_ok ob.ne hwz.1 hwz.2 ob.hp (by have := ob.hl; omega) (by omega)
  have e4 := reach_ok oc.ne hwz.neg.1 hwz.neg.2 oc.hp (by have := oc.hl; omega) (by omega)
  have e5 := rate_ok ob oc hwz (by omega) (by omega)
  have e6 := minus_S (room_sd ob oc hwz) (shut_sd ob oc hwz) (by omega) (by omega)
  have e7 := times_S (rate_sd ob oc hwz) ht (by omega) (by omega)
  have g0 := gap0_sd ob oc hwz
  have e8 := plus_S g0 ((rate_sd ob oc hwz).mul ht) (by omega) (by omega)
  rw [← gap_split] at e8
  unfold gapQ at e8
  rw [Rat.mul_zero, Rat.add_zero] at e8
  rw [show Wy w.1 w.2 = pt w from rfl] at e2
  apply oE_eq
  unfold m_gap b_gap
  simp [e1, e2]
  unfold Nxt
  simp [e3, turned_way_ok, e4]
  unfold Nxt
  rw [← R_int] at e6
  rw [Rat.intCast_add] at e8
  simp at e6
  simp [e6, e5, e7, e8]
  unfold gapQ
  rw [Rat.intCast_add]
end
theorem rate_neg (b c : B15) (w : Int × Int) : rateQ c b (ngp w) = rateQ b c w := by
  unfold rateQ ngp
  simp only [Rat.intCast_neg]
  grind
theorem gap_neg (b c : B15) (w : Int × Int) (t : Rat) : gapQ c b (ngp w) t = gapQ b c w t := by
  have h := rate_neg b c w
  unfold gapQ
  rw [h, ngp_ngp]
  unfold ngp
  simp only [Rat.intCast_neg, Rat.intCast_add]
  grind
theorem sw_wsz {qs : List (Int × Int)} {w : Int × Int} (C : Cvx qs) (hp : ∀ q ∈ qs, Ptb q) (h : w ∈ sw qs) : Wsz 22 w := by
  obtain ⟨i, hi, rfl⟩ := List.mem_map.mp h
  have hi := List.mem_range.mp hi
  have hm : (i + 1) % qs.length < qs.length := Nat.mod_lt _ (by omega)
  have a := hp _ (List.mem_of_getElem? (q0_at hi))
  have b := hp _ (List.mem_of_getElem? (q0_at hm))
  exact nw_sz (side_ne (C.ne hi)) (sub_small b.2 a.2) (sub_small a.1 b.1)
theorem Wsz.le {n m : Nat} {w : Int × Int} (h : Wsz n w) (hm : n ≤ m) : Wsz m w := ⟨Nat.lt_of_lt_of_le h.1 (Nat.pow_le_pow_right (by decide) hm), Nat.lt_of_lt_of_le h.2 (Nat.pow_le_pow_right (by decide) hm)⟩
theorem pwy_wsz {qs rs : List (Int × Int)} {w : Int × Int} (C1 : Cvx qs) (C2 : Cvx rs) (hp1 : ∀ q ∈ qs, Ptb q) (hp2 : ∀ q ∈ rs, Ptb q) (h : w ∈ pwy qs rs) : Wsz 22 w := by
  rcases pwy_mem.mp h with h | h
  · exact sw_wsz C1 hp1 h
  · have := (sw_wsz C2 hp2 h).neg
    rwa [ngp_ngp] at this
theorem pwy_len {qs rs : List (Int × Int)} : (pwy qs rs).length ≤ qs.length + rs.length := by
  have h1 := (sP_perm (addn (sw qs) (sw rs))).length_eq
  have h2 := addn_len (l := sw qs) (sw rs)
  rw [sw_len, sw_len] at h2
  show (sP _).length ≤ _
  omega
def cx (a b : Int × Int) : Int := a.1 * b.2 - a.2 * b.1
def dt (a b : Int × Int) : Int := a.1 * b.1 + a.2 * b.2
theorem Cvx.cone {qs : List (Int × Int)} (C : Cvx qs) (u : Int × Int) : ∃ a N1 N2, a ∈ qs ∧ N1 ∈ sw qs ∧ N2 ∈ sw qs ∧ (∀ x ∈ qs, hw N1 x ≤ hw N1 a) ∧ (∀ x ∈ qs, hw N2 x ≤ hw N2 a) ∧ 0 < cx N1 N2 ∧ 0 ≤ cx N1 u ∧ 0 ≤ cx u N2 ∧ ∀ x ∈ qs, hw u x ≤ hw u a := by
  have h3 := C.len3
  have hn : qs ≠ [] := fun z => by rw [z] at h3; simp at h3
  obtain ⟨a, ha, ea⟩ := rz_mem (w := u) hn
  have am : ∀ x ∈ qs, hw u x ≤ hw u a := fun x hx => by rw [ea]; exact rz_ge hx
  obtain ⟨i, hi, rfl⟩ := List.mem_iff_getElem.mp ha
  have e0 : qs[i] = q0 qs i := by
    have := q0_at hi
    rw [List.getElem?_eq_getElem hi] at this
    exact Option.some.inj this
  rw [e0] at am
  have hp : (i + qs.length - 1) % qs.length < qs.length := Nat.mod_lt _ (by omega)
  have hnx : (i + 1) % qs.length < qs.length := Nat.mod_lt _ (by omega)
  have ep : ((i + qs.length - 1) % qs.length + 1) % qs.length = i := by
    by_cases z : i = 0
    · rw [z, Nat.zero_add, Nat.mod_eq_of_lt (show qs.length - 1 < qs.length by omega), show qs.length - 1 + 1 = qs.length by omega, Nat.mod_self]
    · rw [show i + qs.length - 1 = (i - 1) + qs.length by omega, Nat.add_mod_right, Nat.mod_eq_of_lt (show i - 1 < qs.length by omega), show i - 1 + 1 = i by omega, Nat.mod_eq_of_lt hi]
  have pn : (i + 1) % qs.length ≠ (i + qs.length - 1) % qs.length := fun z => by
    by_cases z0 : i = 0
    · rw [z0, Nat.zero_add, Nat.zero_add, Nat.mod_eq_of_lt (by omega), Nat.mod_eq_of_lt (by omega)] at z; omega
    · rw [show i + qs.length - 1 = (i - 1) + qs.length by omega, Nat.add_mod_right, Nat.mod_eq_of_lt (show i - 1 < qs.length by omega)] at z
      by_cases z1 : i + 1 = qs.length
      · rw [z1, Nat.mod_self] at z; omega
      · rw [Nat.mod_eq_of_lt (by omega)] at z; omega
  have pn2 : (i + 1) % qs.length ≠ i := fun z => by
    by_cases z1 : i + 1 = qs.length
    · rw [z1, Nat.mod_self] at z; omega
    · rw [Nat.mod_eq_of_lt (by omega)] at z; omega
  have mem : ∀ x ∈ qs, ∃ k, k < qs.length ∧ x = q0 qs k := fun x hx => by
    obtain ⟨k, hk, rfl⟩ := List.mem_iff_getElem.mp hx
    refine ⟨k, hk, ?_⟩
    have := q0_at hk
    rw [List.getElem?_eq_getElem hk] at this
    exact Option.some.inj this
  have f2 := fun k hk => C.far_le (i := i) (k := k) hi hk
  have f1 := fun k hk => C.far_le (i := (i + qs.length - 1) % qs.length) (k := k) hp hk
  have f1e := C.far_eq (i := (i + qs.length - 1) % qs.length) hp
  rw [ep] at f1e
  have ne1 := C.ne hp
  have ne2 := C.ne hi
  have tn := C.cv ((i + qs.length - 1) % qs.length) ((i + 1) % qs.length) _ _ _ (q0_at hp) (q0_at (Nat.mod_lt _ (by omega))) (q0_at hnx) pn (by rw [ep]; exact pn2)
  rw [ep] at tn ne1 f1
  have s1 := List.mem_of_getElem? (sw_at hp)
  have s2 := List.mem_of_getElem? (sw_at hi)
  rw [ep] at s1
  have u1 := am _ (List.mem_of_getElem? (q0_at hp))
  have u2 := am _ (List.mem_of_getElem? (q0_at hnx))
  obtain ⟨g1, p1, _, x1, y1⟩ := nw_mul (side_ne ne1)
  obtain ⟨g2, p2, _, x2, y2⟩ := nw_mul (side_ne ne2)
  refine ⟨_, _, _, List.mem_of_getElem? (q0_at hi), s1, s2, fun x hx => ?_, fun x hx => ?_, ?_, ?_, ?_, am⟩
  · obtain ⟨k, hk, rfl⟩ := mem x hx
    rw [f1e]; exact f1 k hk
  · obtain ⟨k, hk, rfl⟩ := mem x hx
    exact f2 k hk
  all_goals
    unfold sideway
    generalize nw ((q0 qs i).2 - (q0 qs ((i + qs.length - 1) % qs.length)).2) ((q0 qs ((i + qs.length - 1) % qs.length)).1 - (q0 qs i).1) = N1 at *
    generalize nw ((q0 qs ((i + 1) % qs.length)).2 - (q0 qs i).2) ((q0 qs i).1 - (q0 qs ((i + 1) % qs.length)).1) = N2 at *
    generalize q0 qs ((i + qs.length - 1) % qs.length) = A at *
    generalize q0 qs ((i + 1) % qs.length) = E at *
    generalize q0 qs i = B at *
    obtain ⟨a1, a2⟩ := A
    obtain ⟨b1, b2⟩ := B
    obtain ⟨c1, c2⟩ := E
    obtain ⟨n1, n2⟩ := N1
    obtain ⟨m1, m2⟩ := N2
    obtain ⟨v1, v2⟩ := u
    simp only [cx, lf, hw] at *
  · have id : (b1 - a1) * (c2 - a2) - (b2 - a2) * (c1 - a1) = g1 * (g2 * (n1 * m2 - n2 * m1)) := by
      have e1 : b1 - a1 = -(g1 * n2) := by omega
      have e2 : c2 - a2 = g2 * m1 + g1 * n1 := by omega
      have e3 : c1 - a1 = -(g2 * m2) + -(g1 * n2) := by omega
      rw [e1, e2, e3, x1]
      grind
    rw [id] at tn
    exact Int.pos_of_mul_pos_right (Int.pos_of_mul_pos_right tn p1) p2
  · have id : g1 * (n1 * v2 - n2 * v1) = (v1 * b1 + v2 * b2) - (v1 * a1 + v2 * a2) := by
      have : g1 * (n1 * v2 - n2 * v1) = (g1 * n1) * v2 - (g1 * n2) * v1 := by grind
      rw [this, ← x1, ← y1]
      grind
    have : 0 ≤ g1 * (n1 * v2 - n2 * v1) := by omega
    exact Int.nonneg_of_mul_nonneg_right this p1
  · have id : g2 * (v1 * m2 - v2 * m1) = (v1 * b1 + v2 * b2) - (v1 * c1 + v2 * c2) := by
      have : g2 * (v1 * m2 - v2 * m1) = v1 * (g2 * m2) - v2 * (g2 * m1) := by grind
      rw [this, ← x2, ← y2]
      grind
    have : 0 ≤ g2 * (v1 * m2 - v2 * m1) := by omega
    exact Int.nonneg_of_mul_nonneg_right this p2
theorem cone_best {qs : List (Int × Int)} {a N1 N2 w : Int × Int} (h1 : ∀ x ∈ qs, hw N1 x ≤ hw N1 a) (h2 : ∀ x ∈ qs, hw N2 x ≤ hw N2 a) (hc : 0 < cx N1 N2) (k1 : 0 ≤ cx N1 w) (k2 : 0 ≤ cx w N2) : ∀ x ∈ qs, hw w x ≤ hw w a := fun x hx => by
  have e1 := Int.mul_nonneg k2 (show 0 ≤ hw N1 a - hw N1 x by have := h1 x hx; omega)
  have e2 := Int.mul_nonneg k1 (show 0 ≤ hw N2 a - hw N2 x by have := h2 x hx; omega)
  have id : cx N1 N2 * (hw w a - hw w x) = cx w N2 * (hw N1 a - hw N1 x) + cx N1 w * (hw N2 a - hw N2 x) := by unfold cx hw; grind
  have : 0 ≤ cx N1 N2 * (hw w a - hw w x) := by omega
  have := Int.nonneg_of_mul_nonneg_right this hc
  omega
theorem best_rz {qs : List (Int × Int)} {a w : Int × Int} (ha : a ∈ qs) (h : ∀ x ∈ qs, hw w x ≤ hw w a) : rz w qs = hw w a := by
  obtain ⟨x, hx, e⟩ := rz_mem (w := w) (qs := qs) (fun z => by rw [z] at ha; cases ha)
  have := rz_ge (w := w) ha
  have := h x hx
  omega
def dq (w : Int × Int) (px py : Rat) : Rat := (w.1 : Rat) * px + (w.2 : Rat) * py
def hz (qs rs : List (Int × Int)) (w : Int × Int) : Int := rz w qs + rz (ngp w) rs
theorem hz_ge {qs rs : List (Int × Int)} {w a c : Int × Int} (ha : a ∈ qs) (hc : c ∈ rs) : hw w a - hw w c ≤ hz qs rs w := by
  have h1 := rz_ge (w := w) ha
  have h2 := rz_ge (w := ngp w) hc
  have : hw (ngp w) c = -hw w c := by unfold hw ngp; grind
  unfold hz
  omega
theorem cast_hw (w : Int × Int) (a : Int × Int) : ((hw w a : Int) : Rat) = dq w ((a.1 : Int) : Rat) ((a.2 : Int) : Rat) := by
  unfold hw dq
  rw [Rat.intCast_add, Rat.intCast_mul, Rat.intCast_mul]
theorem sat_par {qs rs : List (Int × Int)} {px py : Rat} {u w : Int × Int} (hq : qs ≠ []) (hr : rs ≠ []) (h : dq w px py < (hz qs rs w : Int)) (h0 : cx u w = 0) (h1 : 0 < dt u w) : dq u px py < (hz qs rs u : Int) := by
  obtain ⟨a, ha, ea⟩ := rz_mem (w := w) hq
  obtain ⟨c, hc, ec⟩ := rz_mem (w := ngp w) hr
  have hge := hz_ge (w := u) ha hc
  have ez : hz qs rs w = hw w a - hw w c := by
    have : hw (ngp w) c = -hw w c := by unfold hw ngp; grind
    unfold hz
    omega
  have wp : 0 < dt w w := by
    have q1 : ∀ z : Int, 0 ≤ z * z := fun z => by rw [← Int.natAbs_mul_self]; omega
    have q3 : ∀ z : Int, z * z = 0 → z = 0 := fun z e => (Int.mul_eq_zero.mp e).elim id id
    have := q1 w.1
    have := q1 w.2
    apply Classical.byContradiction
    intro n
    unfold dt at n h1
    have e1 := q3 w.1 (by omega)
    have e2 := q3 w.2 (by omega)
    rw [e1, e2] at h1
    omega
  have par : ∀ x y : Rat, ((dt w w : Int) : Rat) * dq u x y = ((dt u w : Int) : Rat) * dq w x y := fun x y => by
    have h0' : ((cx u w : Int) : Rat) = 0 := by rw [h0]; rfl
    unfold dt dq
    unfold cx at h0'
    simp only [Rat.intCast_add, Rat.intCast_mul, Rat.intCast_sub] at h0' ⊢
    generalize (w.1 : Rat) = w1 at *
    generalize (w.2 : Rat) = w2 at *
    generalize (u.1 : Rat) = u1 at *
    generalize (u.2 : Rat) = u2 at *
    have : (w1 * w1 + w2 * w2) * (u1 * x + u2 * y) - (u1 * w1 + u2 * w2) * (w1 * x + w2 * y) = (u1 * w2 - u2 * w1) * (w2 * x - w1 * y) := by grind
    rw [h0', Rat.zero_mul] at this
    grind
  have wpq : 0 < ((dt w w : Int) : Rat) := Rat.intCast_pos.mpr wp
  have upq : 0 < ((dt u w : Int) : Rat) := Rat.intCast_pos.mpr h1
  have e1 := par px py
  have e2 := par ((a.1 : Int) : Rat) ((a.2 : Int) : Rat)
  have e3 := par ((c.1 : Int) : Rat) ((c.2 : Int) : Rat)
  rw [← cast_hw, ← cast_hw] at e2 e3
  rw [ez, Rat.intCast_sub] at h
  have hge' : ((hw u a : Int) : Rat) - ((hw u c : Int) : Rat) ≤ ((hz qs rs u : Int) : Rat) := by rw [← Rat.intCast_sub]; exact Rat.intCast_le_intCast.mpr hge
  have m := Rat.mul_lt_mul_of_pos_left h upq
  have key : ((dt w w : Int) : Rat) * dq u px py < ((dt w w : Int) : Rat) * (((hw u a : Int) : Rat) - ((hw u c : Int) : Rat)) := by
    rw [e1]
    have : ((dt w w : Int) : Rat) * (((hw u a : Int) : Rat) - ((hw u c : Int) : Rat)) = ((dt u w : Int) : Rat) * (((hw w a : Int) : Rat) - ((hw w c : Int) : Rat)) := by grind
    rw [this]
    exact m
  have lt : dq u px py < ((hw u a : Int) : Rat) - ((hw u c : Int) : Rat) := by
    apply Classical.byContradiction
    intro n
    have := Rat.mul_le_mul_of_nonneg_left (Rat.not_lt.mp n) (Rat.le_of_lt wpq)
    exact absurd key (Rat.not_lt.mpr this)
  exact Std.lt_of_lt_of_le lt hge'
theorem sat_cone {qs rs : List (Int × Int)} {px py : Rat} {u L U a c : Int × Int} (ha : a ∈ qs) (hc : c ∈ rs) (hL : dq L px py < (hz qs rs L : Int)) (hU : dq U px py < (hz qs rs U : Int)) (eL : hz qs rs L = hw L a - hw L c) (eU : hz qs rs U = hw U a - hw U c) (h1 : 0 < cx L u) (h2 : 0 < cx u U) (h3 : 0 < cx L U) : dq u px py < (hz qs rs u : Int) := by
  have hge := hz_ge (w := u) ha hc
  have id : ∀ x y : Rat, ((cx L U : Int) : Rat) * dq u x y = ((cx u U : Int) : Rat) * dq L x y + ((cx L u : Int) : Rat) * dq U x y := fun x y => by
    unfold cx dq
    simp only [Rat.intCast_sub, Rat.intCast_mul]
    grind
  have p1 : 0 < ((cx L u : Int) : Rat) := Rat.intCast_pos.mpr h1
  have p2 : 0 < ((cx u U : Int) : Rat) := Rat.intCast_pos.mpr h2
  have p3 : 0 < ((cx L U : Int) : Rat) := Rat.intCast_pos.mpr h3
  have e1 := id px py
  have e2 := id ((a.1 : Int) : Rat) ((a.2 : Int) : Rat)
  have e3 := id ((c.1 : Int) : Rat) ((c.2 : Int) : Rat)
  rw [← cast_hw, ← cast_hw, ← cast_hw] at e2 e3
  rw [eL, Rat.intCast_sub] at hL
  rw [eU, Rat.intCast_sub] at hU
  have m1 := Rat.mul_lt_mul_of_pos_left hL p2
  have m2 := Rat.mul_lt_mul_of_pos_left hU p1
  have hge' : ((hw u a : Int) : Rat) - ((hw u c : Int) : Rat) ≤ ((hz qs rs u : Int) : Rat) := by rw [← Rat.intCast_sub]; exact Rat.intCast_le_intCast.mpr hge
  have key : ((cx L U : Int) : Rat) * dq u px py < ((cx L U : Int) : Rat) * (((hw u a : Int) : Rat) - ((hw u c : Int) : Rat)) := by
    rw [e1]
    have : ((cx L U : Int) : Rat) * (((hw u a : Int) : Rat) - ((hw u c : Int) : Rat)) = ((cx u U : Int) : Rat) * (((hw L a : Int) : Rat) - ((hw L c : Int) : Rat)) + ((cx L u : Int) : Rat) * (((hw U a : Int) : Rat) - ((hw U c : Int) : Rat)) := by grind
    rw [this]
    grind
  have lt : dq u px py < ((hw u a : Int) : Rat) - ((hw u c : Int) : Rat) := by
    apply Classical.byContradiction
    intro n
    have := Rat.mul_le_mul_of_nonneg_left (Rat.not_lt.mp n) (Rat.le_of_lt p3)
    exact absurd key (Rat.not_lt.mpr this)
  exact Std.lt_of_lt_of_le lt hge'
theorem cx_par {N1 N2 u : Int × Int} (h1 : 0 < cx N1 N2) (h2 : 0 ≤ cx N1 u) (h3 : cx u N2 = 0) (hu : u ≠ (0, 0)) : 0 < dt u N2 := by
  have id : dt N2 N2 * cx N1 u = dt u N2 * cx N1 N2 + (N1.1 * N2.1 + N1.2 * N2.2) * -cx u N2 := by unfold dt cx; grind
  rw [h3, Int.neg_zero, Int.mul_zero, Int.add_zero] at id
  have sq : ∀ z : Int, 0 ≤ z * z := fun z => by rw [← Int.natAbs_mul_self]; omega
  have d0 : 0 ≤ dt N2 N2 := by have := sq N2.1; have := sq N2.2; unfold dt; omega
  have e := Int.mul_nonneg d0 h2
  rw [id] at e
  have ge : 0 ≤ dt u N2 := Int.nonneg_of_mul_nonneg_left e h1
  apply Classical.byContradiction
  intro n
  have z : dt u N2 = 0 := by omega
  have q3 : ∀ z : Int, z * z = 0 → z = 0 := fun z e => (Int.mul_eq_zero.mp e).elim (fun z => z) (fun z => z)
  have i1 : dt N2 N2 * u.1 = dt u N2 * N2.1 + cx u N2 * N2.2 := by unfold dt cx; grind
  have i2 : dt N2 N2 * u.2 = dt u N2 * N2.2 - cx u N2 * N2.1 := by unfold dt cx; grind
  rw [z, h3] at i1 i2
  have nz : dt N2 N2 ≠ 0 := fun e => by
    have a1 := sq N2.1
    have a2 := sq N2.2
    unfold dt at e
    have e1 := q3 N2.1 (by omega)
    have e2 := q3 N2.2 (by omega)
    unfold cx at h1
    rw [e1, e2] at h1
    omega
  apply hu
  have u1 : u.1 = 0 := (Int.mul_eq_zero.mp (i1.trans (by omega))).resolve_left nz
  have u2 : u.2 = 0 := (Int.mul_eq_zero.mp (i2.trans (by omega))).resolve_left nz
  exact Prod.ext u1 u2
theorem cx_anti (a b : Int × Int) : cx a b = -cx b a := by unfold cx; grind
theorem cx_ngp (a b : Int × Int) : cx (ngp a) (ngp b) = cx a b := by unfold cx ngp; grind
def rfl2 (v : Int × Int) : Int × Int := (v.1, -v.2)
theorem cx_par' {N1 N2 u : Int × Int} (h1 : 0 < cx N1 N2) (h2 : 0 ≤ cx u N2) (h3 : cx N1 u = 0) (hu : u ≠ (0, 0)) : 0 < dt u N1 := by
  have e : ∀ a b, cx (rfl2 a) (rfl2 b) = cx b a := fun a b => by unfold cx rfl2; grind
  have := cx_par (N1 := rfl2 N2) (N2 := rfl2 N1) (u := rfl2 u) (by rw [e]; exact h1) (by rw [e]; exact h2) (by rw [e]; exact h3) (fun z => hu (by
    have z1 := congrArg Prod.fst z
    have z2 := congrArg Prod.snd z
    have : u.1 = 0 := z1
    have : -u.2 = 0 := z2
    exact Prod.ext (by assumption) (by show u.2 = 0; omega)))
  have e : dt (rfl2 u) (rfl2 N1) = dt u N1 := by unfold dt rfl2; grind
  omega
theorem hw_ngp (w x : Int × Int) : hw (ngp w) x = -hw w x := by unfold hw ngp; grind
theorem sat {qs rs : List (Int × Int)} {px py : Rat} (C1 : Cvx qs) (C2 : Cvx rs) (h : ∀ w ∈ pwy qs rs, dq w px py < (hz qs rs w : Int)) (u : Int × Int) (hu : u ≠ (0, 0)) : dq u px py < (hz qs rs u : Int) := by
  have n1 : qs ≠ [] := fun z => by have := C1.len3; rw [z] at this; simp at this
  have n2 : rs ≠ [] := fun z => by have := C2.len3; rw [z] at this; simp at this
  obtain ⟨a, N1, N2, ha, w1, w2, b1, b2, cn, u1, u2, bu⟩ := C1.cone u
  obtain ⟨c, m1, m2, hc, v1, v2, d1, d2, cm, t1, t2, du⟩ := C2.cone (ngp u)
  -- the second shape's ways turned round
  have pN : ∀ w ∈ sw qs, dq w px py < (hz qs rs w : Int) := fun w hw => h w (pwy_mem.mpr (.inl hw))
  have pM : ∀ w ∈ sw rs, dq (ngp w) px py < (hz qs rs (ngp w) : Int) := fun w hw => h _ (pwy_mem.mpr (.inr (by rw [ngp_ngp]; exact hw)))
  generalize hM1 : ngp m1 = M1 at *
  generalize hM2 : ngp m2 = M2 at *
  have em1 : m1 = ngp M1 := by rw [← hM1, ngp_ngp]
  have em2 : m2 = ngp M2 := by rw [← hM2, ngp_ngp]
  have cM : 0 < cx M1 M2 := by rw [← hM1, ← hM2, cx_ngp]; exact cm
  have tM1 : 0 ≤ cx M1 u := by
    rw [em1, cx_ngp] at t1; exact t1
  have tM2 : 0 ≤ cx u M2 := by
    rw [em2, cx_ngp] at t2; exact t2
  have qN1 := pN _ w1
  have qN2 := pN _ w2
  have qM1 := pM _ v1
  have qM2 := pM _ v2
  rw [hM1] at qM1
  rw [hM2] at qM2
  -- a way along one of the four
  by_cases z2 : cx u N2 = 0
  · exact sat_par n1 n2 qN2 z2 (cx_par cn u1 z2 hu)
  by_cases z4 : cx u M2 = 0
  · exact sat_par n1 n2 qM2 z4 (cx_par cM tM1 z4 hu)
  by_cases z1 : cx N1 u = 0
  · exact sat_par n1 n2 qN1 (by rw [cx_anti, z1]; rfl) (cx_par' cn u2 z1 hu)
  by_cases z3 : cx M1 u = 0
  · exact sat_par n1 n2 qM1 (by rw [cx_anti, z3]; rfl) (cx_par' cM tM2 z3 hu)
  have best : ∀ w, 0 ≤ cx N1 w → 0 ≤ cx w N2 → 0 ≤ cx M1 w → 0 ≤ cx w M2 → hz qs rs w = hw w a - hw w c := fun w k1 k2 k3 k4 => by
    have e1 := best_rz ha (cone_best b1 b2 cn k1 k2)
    have e2 := best_rz hc (cone_best (w := ngp w) d1 d2 cm (by rw [em1, cx_ngp]; exact k3) (by rw [em2, cx_ngp]; exact k4))
    rw [hw_ngp] at e2
    unfold hz
    omega
  have p1 : 0 < cx N1 u := by omega
  have p2 : 0 < cx u N2 := by omega
  have p3 : 0 < cx M1 u := by omega
  have p4 : 0 < cx u M2 := by omega
  have self : ∀ w, cx w w = 0 := fun w => by unfold cx; grind
  -- the upper one
  have up : ∃ U, dq U px py < (hz qs rs U : Int) ∧ 0 < cx u U ∧ 0 ≤ cx U N2 ∧ 0 ≤ cx U M2 ∧ 0 < cx N1 U ∧ 0 < cx M1 U := by
    by_cases k : 0 ≤ cx N2 M2
    · refine ⟨N2, qN2, p2, by rw [self]; exact Int.le_refl _, k, cn, ?_⟩
      have id : cx M1 N2 * cx u M2 = cx M1 u * cx N2 M2 + cx M1 M2 * cx u N2 := by unfold cx; grind
      have e1 := Int.mul_nonneg (Int.le_of_lt p3) k
      have e2 := Int.mul_pos cM p2
      exact Int.pos_of_mul_pos_left (show 0 < cx M1 N2 * cx u M2 by omega) p4
    · have k' : 0 < cx M2 N2 := by rw [cx_anti]; omega
      refine ⟨M2, qM2, p4, Int.le_of_lt k', by rw [self]; exact Int.le_refl _, ?_, cM⟩
      have id : cx N1 M2 * cx u N2 = cx N1 u * cx M2 N2 + cx N1 N2 * cx u M2 := by unfold cx; grind
      have e1 := Int.mul_pos p1 k'
      have e2 := Int.mul_pos cn p4
      exact Int.pos_of_mul_pos_left (show 0 < cx N1 M2 * cx u N2 by omega) p2
  have low : ∃ L, dq L px py < (hz qs rs L : Int) ∧ 0 < cx L u ∧ 0 ≤ cx N1 L ∧ 0 ≤ cx M1 L ∧ 0 < cx L N2 ∧ 0 < cx L M2 ∧ (L = N1 ∨ L = M1) := by
    by_cases k : 0 ≤ cx M1 N1
    · refine ⟨N1, qN1, p1, by rw [self]; exact Int.le_refl _, k, cn, ?_, .inl rfl⟩
      have id : cx N1 M2 * cx M1 u = cx M1 N1 * cx u M2 + cx N1 u * cx M1 M2 := by unfold cx; grind
      have e1 := Int.mul_nonneg k (Int.le_of_lt p4)
      have e2 := Int.mul_pos p1 cM
      exact Int.pos_of_mul_pos_left (show 0 < cx N1 M2 * cx M1 u by omega) p3
    · have k' : 0 < cx N1 M1 := by rw [cx_anti]; omega
      refine ⟨M1, qM1, p3, Int.le_of_lt k', by rw [self]; exact Int.le_refl _, ?_, cM, .inr rfl⟩
      have id : cx M1 N2 * cx N1 u = cx N1 M1 * cx u N2 + cx M1 u * cx N1 N2 := by unfold cx; grind
      have e1 := Int.mul_pos k' p2
      have e2 := Int.mul_pos p3 cn
      exact Int.pos_of_mul_pos_left (show 0 < cx M1 N2 * cx N1 u by omega) p1
  obtain ⟨U, hU, U1, U2, U3, U4, U5⟩ := up
  obtain ⟨L, hL, L1, L2, L3, L4, L5, eqL⟩ := low
  exact sat_cone ha hc hL hU (best L L2 (Int.le_of_lt L4) L3 (Int.le_of_lt L5)) (best U (Int.le_of_lt U4) U2 (Int.le_of_lt U5) U3) L1 U1 (by rcases eqL with rfl | rfl; exact U4; exact U5)
theorem dq_sub (w : Int × Int) (x y u v : Rat) : dq w (x - u) (y - v) = dq w x y - dq w u v := by unfold dq; grind
theorem dq_ngp (w : Int × Int) (x y : Rat) : dq (ngp w) x y = -dq w x y := by
  unfold dq ngp
  simp only [Rat.intCast_neg]
  grind
def sumX (qs : List (Int × Int)) : Int := (qs.map (·.1)).sum
def sumY (qs : List (Int × Int)) : Int := (qs.map (·.2)).sum
theorem sum_le {w : Int × Int} {m : Int} : ∀ qs : List (Int × Int), (∀ x ∈ qs, hw w x ≤ m) → w.1 * sumX qs + w.2 * sumY qs ≤ qs.length * m ∧ ((∃ x ∈ qs, hw w x < m) → w.1 * sumX qs + w.2 * sumY qs < qs.length * m)
  | [], _ => ⟨by simp [sumX, sumY], fun ⟨x, hx, _⟩ => by cases hx⟩
  | q :: qs, h => by
    obtain ⟨i1, i2⟩ := sum_le qs fun x hx => h x (List.mem_cons_of_mem _ hx)
    have hq := h q List.mem_cons_self
    have e1 : sumX (q :: qs) = q.1 + sumX qs := by unfold sumX; simp
    have e2 : sumY (q :: qs) = q.2 + sumY qs := by unfold sumY; simp
    have e : w.1 * sumX (q :: qs) + w.2 * sumY (q :: qs) = hw w q + (w.1 * sumX qs + w.2 * sumY qs) := by rw [e1, e2]; unfold hw; grind
    have el : ((q :: qs).length : Int) * m = m + qs.length * m := by rw [List.length_cons]; push_cast; grind
    rw [e, el]
    refine ⟨by omega, fun ⟨x, hx, hl⟩ => ?_⟩
    rcases List.mem_cons.mp hx with rfl | hx
    · omega
    · have := i2 ⟨x, hx, hl⟩
      omega
def midX (qs : List (Int × Int)) : Rat := ((sumX qs : Int) : Rat) / ((qs.length : Int) : Rat)
def midY (qs : List (Int × Int)) : Rat := ((sumY qs : Int) : Rat) / ((qs.length : Int) : Rat)
theorem mid_le {qs : List (Int × Int)} (hn : qs ≠ []) (w : Int × Int) : dq w (midX qs) (midY qs) ≤ (rz w qs : Int) ∧ ((∃ x ∈ qs, hw w x < rz w qs) → dq w (midX qs) (midY qs) < (rz w qs : Int)) := by
  obtain ⟨i1, i2⟩ := sum_le (w := w) (m := rz w qs) qs fun x hx => rz_ge hx
  have hl : 0 < qs.length := List.length_pos_iff.mpr hn
  have lp : 0 < ((qs.length : Int) : Rat) := Rat.intCast_pos.mpr (by omega)
  have e : dq w (midX qs) (midY qs) * ((qs.length : Int) : Rat) = ((w.1 * sumX qs + w.2 * sumY qs : Int) : Rat) := by
    unfold dq midX midY
    rw [Rat.intCast_add, Rat.intCast_mul, Rat.intCast_mul]
    have ne : ((qs.length : Int) : Rat) ≠ 0 := fun z => by rw [z] at lp; exact absurd lp (by decide)
    grind
  constructor
  · apply Classical.byContradiction
    intro n
    have := Rat.mul_lt_mul_of_pos_right (Rat.not_le.mp n) lp
    rw [e, ← Rat.intCast_mul, Rat.intCast_lt_intCast] at this
    have : rz w qs * qs.length = qs.length * rz w qs := Int.mul_comm _ _
    omega
  · intro hx
    have lt := i2 hx
    apply Classical.byContradiction
    intro n
    have := Rat.mul_le_mul_of_nonneg_right (Rat.not_lt.mp n) (Rat.le_of_lt lp)
    rw [e, ← Rat.intCast_mul, Rat.intCast_le_intCast] at this
    have : rz w qs * qs.length = qs.length * rz w qs := Int.mul_comm _ _
    omega
theorem side_strict {qs : List (Int × Int)} (C : Cvx qs) {w : Int × Int} (h : w ∈ sw qs) : ∃ x ∈ qs, hw w x < rz w qs := by
  obtain ⟨i, hi, rfl⟩ := List.mem_map.mp h
  have hi := List.mem_range.mp hi
  obtain ⟨k, hk, h1, h2⟩ := C.third hi
  have := C.far hi hk h1 h2
  exact ⟨_, List.mem_of_getElem? (q0_at hk), Int.lt_of_lt_of_le this (rz_ge (List.mem_of_getElem? (q0_at hi)))⟩
theorem eq_cross {r s : Rat} : r = s ↔ r.num * s.den = s.num * r.den := by
  have h1 := r.den_pos
  have h2 := s.den_pos
  constructor
  · intro h; subst h; rfl
  · intro h
    rw [← Rat.num_divInt_den r, ← Rat.num_divInt_den s, Rat.divInt_eq_divInt_iff (by omega) (by omega)]
    exact h
def cmpR (r s : Rat) : Int := if r = s then 0 else if r < s then -1 else 1
theorem cmpR_neg {r s : Rat} : cmpR r s < 0 ↔ r < s := by
  unfold cmpR
  by_cases e : r = s
  · rw [if_pos e, e]; exact ⟨fun z => by omega, fun z => absurd z (Rat.not_lt.mpr Rat.le_refl)⟩
  · rw [if_neg e]
    by_cases l : r < s
    · rw [if_pos l]; exact ⟨fun _ => l, fun _ => by decide⟩
    · rw [if_neg l]; exact ⟨fun z => by omega, fun z => absurd z l⟩
theorem cmpR_pos {r s : Rat} : 0 < cmpR r s ↔ s < r := by
  unfold cmpR
  by_cases e : r = s
  · rw [if_pos e, e]; exact ⟨fun z => by omega, fun z => absurd z (Rat.not_lt.mpr Rat.le_refl)⟩
  · rw [if_neg e]
    by_cases l : r < s
    · rw [if_pos l]; exact ⟨fun z => by omega, fun z => by grind⟩
    · rw [if_neg l]; exact ⟨fun z => by grind, fun _ => by decide⟩
def rho (g r : Int × Int → Rat) (w : Int × Int) : Rat := -(g w) / r w
section
variable {g r : Int × Int → Rat}
def LowS (g r : Int × Int → Rat) (dn : List (Int × Int)) (low win : D) : Prop :=
  (low = .non ∧ win = .non ∧ ∀ w ∈ dn, 0 ≤ r w) ∨ ∃ w ∈ dn, low = R (rho g r w) ∧ win = pt w ∧ r w < 0 ∧ ∀ w' ∈ dn, r w' < 0 → rho g r w' ≤ rho g r w
def HighS (g r : Int × Int → Rat) (dn : List (Int × Int)) (high : D) : Prop :=
  (high = .non ∧ ∀ w ∈ dn, r w ≤ 0) ∨ ∃ w ∈ dn, high = R (rho g r w) ∧ 0 < r w ∧ ∀ w' ∈ dn, 0 < r w' → rho g r w ≤ rho g r w'
theorem LowS.skip {dn : List (Int × Int)} {low win : D} {w : Int × Int} (h : LowS g r dn low win) (hw : 0 ≤ r w) : LowS g r (dn ++ [w]) low win := by
  rcases h with ⟨h1, h2, h3⟩ | ⟨x, hx, h1, h2, h3, h4⟩
  · exact .inl ⟨h1, h2, fun y hy => by rcases List.mem_append.mp hy with hy | hy; exact h3 y hy; rw [List.mem_singleton.mp hy]; exact hw⟩
  · exact .inr ⟨x, List.mem_append_left _ hx, h1, h2, h3, fun y hy hl => by
      rcases List.mem_append.mp hy with hy | hy
      · exact h4 y hy hl
      · rw [List.mem_singleton.mp hy] at hl; exact absurd hl (Rat.not_lt.mpr hw)⟩
theorem HighS.skip {dn : List (Int × Int)} {high : D} {w : Int × Int} (h : HighS g r dn high) (hw : r w ≤ 0) : HighS g r (dn ++ [w]) high := by
  rcases h with ⟨h1, h3⟩ | ⟨x, hx, h1, h3, h4⟩
  · exact .inl ⟨h1, fun y hy => by rcases List.mem_append.mp hy with hy | hy; exact h3 y hy; rw [List.mem_singleton.mp hy]; exact hw⟩
  · exact .inr ⟨x, List.mem_append_left _ hx, h1, h3, fun y hy hl => by
      rcases List.mem_append.mp hy with hy | hy
      · exact h4 y hy hl
      · rw [List.mem_singleton.mp hy] at hl; exact absurd hl (Rat.not_lt.mpr hw)⟩
end
theorem order_S {r s : Rat} {n d m e : Nat} (h1 : Sd n d r) (h2 : Sd m e s) (h : n + e + m + d ≤ 900000) : m_order [R r, R s] () = .ok (.int (cmpR r s)) () := by
  apply oE_eq
  unfold m_order b_order
  simp [Nxt, mulW h1.nu h2.den (by omega), mulW h2.nu h1.den (by omega), ← eq_cross, ← Rat.lt_iff]
  unfold cmpR
  by_cases e : r = s
  · simp [e]
  · by_cases l : r < s
    · simp [e, l]
    · simp [e, l]
theorem over_S {r s : Rat} {n d m e : Nat} (h0 : s ≠ 0) (h1 : Sd n d r) (h2 : Sd m e s) (h : n + e + m + d ≤ 900000) (hd : d + m ≤ 8000) : m_over [R r, R s] () = .ok (R (r / s)) () := by
  apply oE_eq
  unfold m_over b_over
  simp [Nxt, num_ne h0]
  rw [share_R (den_num_ne r h0) (sz_mulN h1.den h2.nu hd), ← div_divInt]
  exact ⟨mulW h1.nu h2.den (by omega), mulW h1.den h2.nu (by omega), rfl⟩
section
variable {g r : Int × Int → Rat}
end
theorem nw_gcd {p q : Int} (h : p ≠ 0 ∨ q ≠ 0) : Int.gcd (nw p q).1 (nw p q).2 = 1 := by
  obtain ⟨g, hg, eg, e1, e2⟩ := nw_mul h
  have e : (Int.gcd p q) = g.natAbs * Int.gcd (nw p q).1 (nw p q).2 := by
    have k : Int.gcd (g * (nw p q).1) (g * (nw p q).2) = g.natAbs * Int.gcd (nw p q).1 (nw p q).2 := Int.gcd_mul_left ..
    rw [← e1, ← e2] at k
    exact k
  have gp : (Int.gcd p q : Nat) = g.natAbs := by omega
  have : g.natAbs * Int.gcd (nw p q).1 (nw p q).2 = g.natAbs * 1 := by omega
  exact Nat.eq_of_mul_eq_mul_left (by omega) this
theorem gcd_ne0 {w : Int × Int} (h : Int.gcd w.1 w.2 = 1) : w ≠ (0, 0) := fun z => by rw [z] at h; simp at h
theorem gcd_ngp {w : Int × Int} (h : Int.gcd w.1 w.2 = 1) : Int.gcd (ngp w).1 (ngp w).2 = 1 := by
  show Int.gcd (-w.1) (-w.2) = 1
  rw [Int.gcd_neg, Int.neg_gcd]; exact h
theorem sw_gcd {qs : List (Int × Int)} {w : Int × Int} (C : Cvx qs) (h : w ∈ sw qs) : Int.gcd w.1 w.2 = 1 := by
  obtain ⟨i, hi, rfl⟩ := List.mem_map.mp h
  exact nw_gcd (side_ne (C.ne (List.mem_range.mp hi)))
theorem pwy_gcd {qs rs : List (Int × Int)} {w : Int × Int} (C1 : Cvx qs) (C2 : Cvx rs) (h : w ∈ pwy qs rs) : Int.gcd w.1 w.2 = 1 := by
  rcases pwy_mem.mp h with h | h
  · exact sw_gcd C1 h
  · have := gcd_ngp (sw_gcd C2 h)
    rwa [ngp_ngp] at this
theorem gap_dq (b c : B15) (w : Int × Int) (t : Rat) : gapQ b c w t = dq w ((c.px - b.px) + (c.vx - b.vx) * t) ((c.py - b.py) + (c.vy - b.vy) * t) - ((hz b.qs c.qs w : Int) : Rat) := by
  unfold gapQ rateQ dq hz
  grind
def OverAt (b c : B15) (t : Rat) : Prop := ∀ w ∈ pwy b.qs c.qs, gapQ b c w t < 0
theorem lmax : ∀ (l : List Rat), l ≠ [] → ∃ m ∈ l, ∀ x ∈ l, x ≤ m
  | [], h => absurd rfl h
  | [a], _ => ⟨a, List.mem_cons_self, fun x hx => by rw [List.mem_singleton.mp hx]; exact Rat.le_refl⟩
  | a :: b :: l, _ => by
    obtain ⟨m, hm, h⟩ := lmax (b :: l) (by simp)
    by_cases c : a ≤ m
    · exact ⟨m, List.mem_cons_of_mem _ hm, fun x hx => (List.mem_cons.mp hx).elim (fun e => by rw [e]; exact c) (h x)⟩
    · have c := Rat.not_le.mp c
      exact ⟨a, List.mem_cons_self, fun x hx => (List.mem_cons.mp hx).elim (fun e => by rw [e]; exact Rat.le_refl) fun hx => by have := h x hx; grind⟩
theorem lmin (l : List Rat) (hn : l ≠ []) : ∃ m ∈ l, ∀ x ∈ l, m ≤ x := by
  obtain ⟨m, hm, h⟩ := lmax (l.map fun x => -x) (by simpa using hn)
  obtain ⟨y, hy, rfl⟩ := List.mem_map.mp hm
  refine ⟨y, hy, fun x hx => ?_⟩
  have := h (-x) (List.mem_map.mpr ⟨x, hx, rfl⟩)
  grind
theorem between (L U : List Rat) (h : ∀ l ∈ L, ∀ u ∈ U, l < u) : ∃ x, (∀ l ∈ L, l < x) ∧ ∀ u ∈ U, x < u := by
  by_cases hL : L = []
  · by_cases hU : U = []
    · subst hL hU
      exact ⟨0, fun l hl => absurd hl List.not_mem_nil, fun l hl => absurd hl List.not_mem_nil⟩
    · obtain ⟨m, _, hm⟩ := lmin U hU
      subst hL
      exact ⟨m - 1, fun l hl => absurd hl List.not_mem_nil, fun u hu => by have := hm u hu; grind⟩
  · obtain ⟨M, hM, hm⟩ := lmax L hL
    by_cases hU : U = []
    · subst hU
      exact ⟨M + 1, fun l hl => by have := hm l hl; grind, fun l hl => absurd hl List.not_mem_nil⟩
    · obtain ⟨m, hmU, hm2⟩ := lmin U hU
      have lt := h M hM m hmU
      refine ⟨(M + m) / 2, fun l hl => ?_, fun u hu => ?_⟩
      · have := hm l hl
        grind
      · have := hm2 u hu
        grind
theorem quot_lt {a c x : Rat} (ha : a ≠ 0) : a * (c / a) = c := by
  rw [Rat.mul_comm]; exact Rat.div_mul_cancel ha
theorem cross_lt {a c a' c' x y : Rat} (ha : 0 < a) (hb : a' < 0) (e1 : a' * x = c') (e2 : a * y = c) (p : 0 < -a' * c + a * c') : x < y := by
  apply Classical.byContradiction
  intro z
  have z := Rat.not_lt.mp z
  have m := Rat.mul_le_mul_of_nonneg_right z (Rat.le_of_lt (Rat.mul_pos ha (show 0 < -a' by grind)))
  have k1 : y * (a * -a') = -a' * c := by rw [← e2]; grind
  have k2 : x * (a * -a') = -(a * c') := by rw [← e1]; grind
  rw [k1, k2] at m
  grind
theorem lt_up_of {a c x y : Rat} (ha : 0 < a) (e : a * y = c) (h : x < y) : a * x < c := by
  have := Rat.mul_lt_mul_of_pos_right h ha
  grind
theorem lt_dn_of {a c x y : Rat} (ha : a < 0) (e : a * y = c) (h : y < x) : a * x < c := by
  have := Rat.mul_lt_mul_of_pos_right h (show 0 < -a by grind)
  grind
theorem fm1 {P : Rat → Rat → Prop} (add : ∀ a c a' c', P a c → P a' c' → P (a + a') (c + c')) (mul : ∀ t a c, 0 < t → P a c → P (t * a) (t * c)) (no : ∀ c, P 0 c → 0 < c) (T : List (Rat × Rat)) (hT : ∀ t ∈ T, P t.1 t.2) : ∃ x, ∀ t ∈ T, t.1 * x < t.2 := by
  obtain ⟨x, h1, h2⟩ := between ((T.filter fun t => decide (t.1 < 0)).map fun t => t.2 / t.1) ((T.filter fun t => decide (0 < t.1)).map fun t => t.2 / t.1) (fun l hl u hu => by
    obtain ⟨s, hs, rfl⟩ := List.mem_map.mp hl
    obtain ⟨t, ht, rfl⟩ := List.mem_map.mp hu
    obtain ⟨hs1, hs2⟩ := List.mem_filter.mp hs
    obtain ⟨ht1, ht2⟩ := List.mem_filter.mp ht
    have s0 : s.1 < 0 := of_decide_eq_true hs2
    have t0 : 0 < t.1 := of_decide_eq_true ht2
    have e1 := quot_lt (c := s.2) (x := 0) (show s.1 ≠ 0 by grind)
    have e2 := quot_lt (c := t.2) (x := 0) (show t.1 ≠ 0 by grind)
    have p := add _ _ _ _ (mul (-s.1) t.1 t.2 (by grind) (hT t ht1)) (mul t.1 s.1 s.2 t0 (hT s hs1))
    rw [show -s.1 * t.1 + t.1 * s.1 = 0 by grind] at p
    exact cross_lt t0 s0 e1 e2 (no _ p))
  refine ⟨x, fun t ht => ?_⟩
  by_cases c1 : t.1 < 0
  · have := h1 _ (List.mem_map.mpr ⟨t, List.mem_filter.mpr ⟨ht, decide_eq_true c1⟩, rfl⟩)
    exact lt_dn_of c1 (quot_lt (c := t.2) (x := 0) (show t.1 ≠ 0 by grind)) this
  · by_cases c2 : 0 < t.1
    · have := h2 _ (List.mem_map.mpr ⟨t, List.mem_filter.mpr ⟨ht, decide_eq_true c2⟩, rfl⟩)
      exact lt_up_of c2 (quot_lt (c := t.2) (x := 0) (show t.1 ≠ 0 by grind)) this
    · have e : t.1 = 0 := by grind
      have := hT t ht
      rw [e] at this
      have := no _ this
      rw [e]
      grind
theorem fm2 {P : Rat → Rat → Rat → Prop} (add : ∀ a b c a' b' c', P a b c → P a' b' c' → P (a + a') (b + b') (c + c')) (mul : ∀ t a b c, 0 < t → P a b c → P (t * a) (t * b) (t * c)) (no : ∀ c, P 0 0 c → 0 < c) (S : List (Rat × Rat × Rat)) (hS : ∀ s ∈ S, P s.1 s.2.1 s.2.2) : ∃ x y, ∀ s ∈ S, s.1 * x + s.2.1 * y < s.2.2 := by
  obtain ⟨x, hx⟩ := fm1 (P := fun a c => P a 0 c) (fun a c a' c' h h' => by
      have := add _ _ _ _ _ _ h h'
      rw [show (0 : Rat) + 0 = 0 by grind] at this
      exact this) (fun t a c ht h => by
      have := mul t _ _ _ ht h
      rw [show t * 0 = 0 by grind] at this
      exact this) no
    (((S.filter fun s => decide (s.2.1 = 0)).map fun s => (s.1, s.2.2)) ++ (S.filter fun s => decide (0 < s.2.1)).flatMap fun u => (S.filter fun s => decide (s.2.1 < 0)).map fun l => (-l.2.1 * u.1 + u.2.1 * l.1, -l.2.1 * u.2.2 + u.2.1 * l.2.2)) (fun t ht => by
      rcases List.mem_append.mp ht with ht | ht
      · obtain ⟨s, hs, rfl⟩ := List.mem_map.mp ht
        obtain ⟨h1, h2⟩ := List.mem_filter.mp hs
        have := hS s h1
        rw [of_decide_eq_true h2] at this
        exact this
      · obtain ⟨u, hu, ht⟩ := List.mem_flatMap.mp ht
        obtain ⟨l, hl, rfl⟩ := List.mem_map.mp ht
        obtain ⟨u1, u2⟩ := List.mem_filter.mp hu
        obtain ⟨l1, l2⟩ := List.mem_filter.mp hl
        have u0 : 0 < u.2.1 := of_decide_eq_true u2
        have l0 : l.2.1 < 0 := of_decide_eq_true l2
        have := add _ _ _ _ _ _ (mul (-l.2.1) _ _ _ (by grind) (hS u u1)) (mul u.2.1 _ _ _ u0 (hS l l1))
        rw [show -l.2.1 * u.2.1 + u.2.1 * l.2.1 = 0 by grind] at this
        exact this)
  obtain ⟨y, h1, h2⟩ := between ((S.filter fun s => decide (s.2.1 < 0)).map fun s => (s.2.2 - s.1 * x) / s.2.1) ((S.filter fun s => decide (0 < s.2.1)).map fun s => (s.2.2 - s.1 * x) / s.2.1) (fun a ha b hb => by
    obtain ⟨l, hl, rfl⟩ := List.mem_map.mp ha
    obtain ⟨u, hu, rfl⟩ := List.mem_map.mp hb
    have h := hx _ (List.mem_append_right _ (List.mem_flatMap.mpr ⟨u, hu, List.mem_map.mpr ⟨l, hl, rfl⟩⟩))
    have u0 : 0 < u.2.1 := of_decide_eq_true (List.mem_filter.mp hu).2
    have l0 : l.2.1 < 0 := of_decide_eq_true (List.mem_filter.mp hl).2
    have e1 := quot_lt (c := l.2.2 - l.1 * x) (x := 0) (show l.2.1 ≠ 0 by grind)
    have e2 := quot_lt (c := u.2.2 - u.1 * x) (x := 0) (show u.2.1 ≠ 0 by grind)
    dsimp only at h
    refine cross_lt u0 l0 e1 e2 ?_
    clear e1 e2 hx add mul no hS
    grind)
  refine ⟨x, y, fun s hs => ?_⟩
  by_cases c1 : s.2.1 < 0
  · have := h1 _ (List.mem_map.mpr ⟨s, List.mem_filter.mpr ⟨hs, decide_eq_true c1⟩, rfl⟩)
    have := lt_dn_of c1 (quot_lt (c := s.2.2 - s.1 * x) (x := 0) (show s.2.1 ≠ 0 by grind)) this
    clear hx h1 h2 add mul no hS
    grind
  · by_cases c2 : 0 < s.2.1
    · have := h2 _ (List.mem_map.mpr ⟨s, List.mem_filter.mpr ⟨hs, decide_eq_true c2⟩, rfl⟩)
      have := lt_up_of c2 (quot_lt (c := s.2.2 - s.1 * x) (x := 0) (show s.2.1 ≠ 0 by grind)) this
      clear hx h1 h2 add mul no hS
      grind
    · have e : s.2.1 = 0 := by grind
      have := hx _ (List.mem_append_left _ (List.mem_map.mpr ⟨s, List.mem_filter.mpr ⟨hs, decide_eq_true e⟩, rfl⟩))
      dsimp only at this
      rw [e]
      grind
theorem nume17 (r : Rat) : ((r.num : Int) : Rat) = ((r.den : Int) : Rat) * r := by
  have := Rat.num_divInt_den r
  rw [Rat.divInt_eq_div] at this
  have n0 : ((r.den : Int) : Rat) ≠ 0 := fun z => by
    have h := Rat.intCast_inj.mp (show ((r.den : Int) : Rat) = ((0 : Int) : Rat) from z)
    have := r.den_pos
    omega
  have e := Rat.div_mul_cancel (a := (r.num : Rat)) n0
  rw [this, Rat.mul_comm] at e
  exact e.symm
def Cst (qs rs : List (Int × Int)) (px py : Rat) (a b c : Rat) : Prop := ∃ a1 b1 c1 a2 b2 c2 : Rat, a = a1 + a2 ∧ b = b1 + b2 ∧ c = c1 + c2 + (a2 * px + b2 * py) ∧ (∀ v ∈ qs, a1 * ((v.1 : Int) : Rat) + b1 * ((v.2 : Int) : Rat) ≤ c1) ∧ (∀ v ∈ rs, a2 * ((v.1 : Int) : Rat) + b2 * ((v.2 : Int) : Rat) ≤ c2) ∧ a1 * midX qs + b1 * midY qs + (a2 * midX rs + b2 * midY rs) < c1 + c2
theorem hw_cast (w v : Int × Int) : ((hw w v : Int) : Rat) = (w.1 : Rat) * ((v.1 : Int) : Rat) + (w.2 : Rat) * ((v.2 : Int) : Rat) := by
  rw [cast_hw]; rfl
theorem cst_add {qs rs : List (Int × Int)} {px py a b c a' b' c' : Rat} (h : Cst qs rs px py a b c) (h' : Cst qs rs px py a' b' c') : Cst qs rs px py (a + a') (b + b') (c + c') := by
  obtain ⟨a1, b1, c1, a2, b2, c2, e1, e2, e3, h1, h2, h3⟩ := h
  obtain ⟨x1, y1, z1, x2, y2, z2, f1, f2, f3, k1, k2, k3⟩ := h'
  refine ⟨a1 + x1, b1 + y1, c1 + z1, a2 + x2, b2 + y2, c2 + z2, by grind, by grind, by grind, fun v hv => ?_, fun v hv => ?_, by grind⟩
  · have := h1 v hv; have := k1 v hv; grind
  · have := h2 v hv; have := k2 v hv; grind
theorem mul_le_l {t x y : Rat} (ht : 0 < t) (h : x ≤ y) : t * x ≤ t * y := Rat.mul_le_mul_of_nonneg_left h (Rat.le_of_lt ht)
theorem mul_lt_l {t x y : Rat} (ht : 0 < t) (h : x < y) : t * x < t * y := Rat.mul_lt_mul_of_pos_left h ht
theorem cst_mul {qs rs : List (Int × Int)} {px py t a b c : Rat} (ht : 0 < t) (h : Cst qs rs px py a b c) : Cst qs rs px py (t * a) (t * b) (t * c) := by
  obtain ⟨a1, b1, c1, a2, b2, c2, e1, e2, e3, h1, h2, h3⟩ := h
  refine ⟨t * a1, t * b1, t * c1, t * a2, t * b2, t * c2, by grind, by grind, by grind, fun v hv => ?_, fun v hv => ?_, ?_⟩
  · have := mul_le_l ht (h1 v hv); grind
  · have := mul_le_l ht (h2 v hv); grind
  · have := mul_lt_l ht h3; grind
theorem cst_no {qs rs : List (Int × Int)} {px py : Rat} (C1 : Cvx qs) (C2 : Cvx rs) (h : ∀ w ∈ pwy qs rs, dq w px py < (hz qs rs w : Int)) (c : Rat) (hc : Cst qs rs px py 0 0 c) : 0 < c := by
  obtain ⟨a1, b1, c1, a2, b2, c2, e1, e2, e3, h1, h2, h3⟩ := hc
  have ea : a2 = -a1 := by grind
  have eb : b2 = -b1 := by grind
  subst ea eb
  apply Classical.byContradiction
  intro z
  have z := Rat.not_lt.mp z
  by_cases h0 : a1 = 0 ∧ b1 = 0
  · obtain ⟨rfl, rfl⟩ := h0
    grind
  · obtain ⟨u, hu⟩ : ∃ u : Int × Int, u = (a1.num * b1.den, b1.num * a1.den) := ⟨_, rfl⟩
    have d1 : (0 : Rat) < ((a1.den : Int) : Rat) := Rat.intCast_pos.mpr (by have := a1.den_pos; omega)
    have d2 : (0 : Rat) < ((b1.den : Int) : Rat) := Rat.intCast_pos.mpr (by have := b1.den_pos; omega)
    have k1 : ((u.1 : Int) : Rat) = (((a1.den : Int) : Rat) * ((b1.den : Int) : Rat)) * a1 := by
      rw [hu]
      show ((a1.num * b1.den : Int) : Rat) = _
      rw [Rat.intCast_mul, nume17]
      grind
    have k2 : ((u.2 : Int) : Rat) = (((a1.den : Int) : Rat) * ((b1.den : Int) : Rat)) * b1 := by
      rw [hu]
      show ((b1.num * a1.den : Int) : Rat) = _
      rw [Rat.intCast_mul, nume17]
      grind
    have n0 := Rat.mul_pos d1 d2
    generalize ((a1.den : Int) : Rat) * ((b1.den : Int) : Rat) = n at *
    have un : u ≠ (0, 0) := fun e => by
      rw [e] at k1 k2
      have r0 : ((0 : Int) : Rat) = 0 := rfl
      rw [r0] at k1 k2
      apply h0
      constructor
      · rcases Rat.mul_eq_zero.mp k1.symm with q | q
        · grind
        · exact q
      · rcases Rat.mul_eq_zero.mp k2.symm with q | q
        · grind
        · exact q
    have s := sat C1 C2 h u un
    obtain ⟨v, hv, ev⟩ := rz_mem (w := u) (qs := qs) (fun z => by have := C1.len3; rw [z] at this; simp at this)
    obtain ⟨v', hv', ev'⟩ := rz_mem (w := ngp u) (qs := rs) (fun z => by have := C2.len3; rw [z] at this; simp at this)
    have m1 := mul_le_l n0 (h1 v hv)
    have m2 := mul_le_l n0 (h2 v' hv')
    unfold hz at s
    rw [← ev, ← ev', Rat.intCast_add, hw_cast, hw_cast, dq] at s
    have g1 : (((ngp u).1 : Int) : Rat) = -(u.1 : Rat) := by show ((-u.1 : Int) : Rat) = _; rw [Rat.intCast_neg]
    have g2 : (((ngp u).2 : Int) : Rat) = -(u.2 : Rat) := by show ((-u.2 : Int) : Rat) = _; rw [Rat.intCast_neg]
    rw [g1, g2, k1, k2] at s
    have m3 := mul_le_l n0 z
    rw [e3] at m3
    clear h h1 h2 h3 C1 C2 hv hv' ev ev' un h0 hu k1 k2 g1 g2 d1 d2 e1 e2 e3 z
    generalize ((v.1 : Int) : Rat) = x1 at *
    generalize ((v.2 : Int) : Rat) = y1 at *
    generalize ((v'.1 : Int) : Rat) = x2 at *
    generalize ((v'.2 : Int) : Rat) = y2 at *
    have f1 : n * (a1 * x1 + b1 * y1) = n * a1 * x1 + n * b1 * y1 := by grind
    have f2 : n * (-a1 * x2 + -b1 * y2) = -(n * a1) * x2 + -(n * b1) * y2 := by grind
    have f3 : n * (c1 + c2 + (-a1 * px + -b1 * py)) = n * c1 + n * c2 - (n * a1 * px + n * b1 * py) := by grind
    rw [f1] at m1
    rw [f2] at m2
    rw [f3] at m3
    grind
theorem inner {qs rs : List (Int × Int)} {px py : Rat} (C1 : Cvx qs) (C2 : Cvx rs) (h : ∀ w ∈ pwy qs rs, dq w px py < (hz qs rs w : Int)) : ∃ x y, (∀ w ∈ sw qs, dq w x y < (rz w qs : Int)) ∧ ∀ w ∈ sw rs, dq w (x - px) (y - py) < (rz w rs : Int) := by
  have n1 : qs ≠ [] := fun z => by have := C1.len3; rw [z] at this; simp at this
  have n2 : rs ≠ [] := fun z => by have := C2.len3; rw [z] at this; simp at this
  have le : ∀ {w v : Int × Int} {qs : List (Int × Int)}, v ∈ qs → (w.1 : Rat) * ((v.1 : Int) : Rat) + (w.2 : Rat) * ((v.2 : Int) : Rat) ≤ ((rz w qs : Int) : Rat) := fun {w v qs} hv => by
    rw [← hw_cast]; exact Rat.intCast_le_intCast.mpr (rz_ge hv)
  obtain ⟨x, y, hxy⟩ := fm2 (P := Cst qs rs px py) (fun _ _ _ _ _ _ h h' => cst_add h h') (fun _ _ _ _ ht h => cst_mul ht h) (cst_no C1 C2 h) ((sw qs).map (fun w => (((w.1 : Int) : Rat), ((w.2 : Int) : Rat), ((rz w qs : Int) : Rat))) ++ (sw rs).map fun w => (((w.1 : Int) : Rat), ((w.2 : Int) : Rat), ((rz w rs : Int) : Rat) + dq w px py)) (fun s hs => by
    rcases List.mem_append.mp hs with hs | hs
    · obtain ⟨w, hw', rfl⟩ := List.mem_map.mp hs
      have m := (mid_le n1 w).2 (side_strict C1 hw')
      unfold dq at m
      refine ⟨(w.1 : Rat), (w.2 : Rat), ((rz w qs : Int) : Rat), 0, 0, 0, by grind, by grind, by grind, fun v hv => le hv, fun v hv => by grind, by grind⟩
    · obtain ⟨w, hw', rfl⟩ := List.mem_map.mp hs
      have m := (mid_le n2 w).2 (side_strict C2 hw')
      unfold dq at m
      refine ⟨0, 0, 0, (w.1 : Rat), (w.2 : Rat), ((rz w rs : Int) : Rat), by grind, by grind, by unfold dq; grind, fun v hv => by grind, fun v hv => le hv, by grind⟩)
  refine ⟨x, y, fun w hw' => ?_, fun w hw' => ?_⟩
  · exact hxy _ (List.mem_append_left _ (List.mem_map.mpr ⟨w, hw', rfl⟩))
  · have := hxy _ (List.mem_append_right _ (List.mem_map.mpr ⟨w, hw', rfl⟩))
    rw [dq_sub]
    dsimp only at this
    unfold dq at *
    grind
theorem cvx_nd {qs : List (Int × Int)} (C : Cvx qs) : qs.Nodup := by
  unfold List.Nodup
  rw [List.pairwise_iff_getElem]
  intro i j hi hj lt e
  have n3 := C.len3
  have e1 : qs[i]? = some qs[i] := List.getElem?_eq_getElem hi
  have e2 : qs[j]? = some qs[j] := List.getElem?_eq_getElem hj
  have hn : (i + 1) % qs.length < qs.length := Nat.mod_lt _ (by omega)
  have e3 : qs[(i + 1) % qs.length]? = some qs[(i + 1) % qs.length] := List.getElem?_eq_getElem hn
  by_cases c : j = (i + 1) % qs.length
  · have := C.ne hi
    apply this
    have a1 := q0_at hi
    have a2 := q0_at hn
    rw [e1] at a1
    rw [e3] at a2
    rw [← Option.some.inj a1, ← Option.some.inj a2]
    subst c
    exact e
  · have := C.cv i j _ _ _ e1 e3 e2 (by omega) c
    rw [← e] at this
    unfold lf at this
    grind
theorem nd_len {α : Type} [DecidableEq α] : ∀ {xs ys : List α}, xs.Nodup → (∀ x ∈ xs, x ∈ ys) → xs.length ≤ ys.length
  | [], _, _, _ => Nat.zero_le _
  | x :: xs, ys, nd, h => by
    rw [List.nodup_cons] at nd
    have hx := h x List.mem_cons_self
    have ih := nd_len (xs := xs) (ys := ys.erase x) nd.2 fun y hy => (List.mem_erase_of_ne (fun e => nd.1 (by rw [← e]; exact hy))).mpr (h y (List.mem_cons_of_mem _ hy))
    rw [List.length_erase_of_mem hx] at ih
    have := List.length_pos_of_mem hx
    rw [List.length_cons]
    omega
theorem eight_wp17 {ns : List Int} {a : Addr} {n : Nat} {t : Dk} {m : Int} {Q : D → Dk → Prop} {X : Str → Fds → Dk → Prop} (g : Gd ns a n t) (hc : n < 100000000) (h0 : 1 ≤ m) (h1 : m ≤ 340000) (h : ∀ (qs : List (Int × Int)) (t' : Dk), Cvx qs → (∀ q ∈ qs, Ptb q) → qs.length ≤ 8 → Gd ns a (n + 24) t' → Q (.tup (qs.map pt)) t') :
    oE (m__law_eight [.at a, .int m] t) Q X := by
  unfold m__law_eight b__law_eight
  simp
  refine ⟨small_mul (i := 2) (j := m) (a := 20) (b := 20) (by decide) (by omega) (by decide) (by decide) (by decide), ?_⟩
  unfold Nxt
  simp
  have hlen : (rngD 0 8).length = 8 := rfl
  refine ⟨by decide, comp_wp (p := fun _ y => ∃ c : Int, y = .int c ∧ (1 ≤ c ∧ c ≤ m)) (k := 3) (B := n + 100) _ (fun d hd k t1 g1 hm => ⟨_, rfl, ?_⟩) n t g (by rw [hlen]; omega) fun ys t' hys g' => ?_⟩
  · simp [wipeR]
    refine number_wp g1 (by omega) (by omega) (by omega) fun r t2 r0 r1 g2 => ?_
    have f := fmod_pos (a := (r.natAbs : Int)) (b := m) (by omega)
    simp
    exact ⟨by omega, ⟨by omega, by omega⟩, g2⟩
  · obtain ⟨cs, rfl, hcs, hcl⟩ := pw_ints hys
    obtain ⟨a0, b0, c0, d0, e0, f0, g0, i0, rfl⟩ := eight_of (hcl.trans hlen)
    simp only [List.mem_cons, List.not_mem_nil, or_false, forall_eq_or_imp, forall_eq] at hcs
    obtain ⟨ha, hb, hc', hd, he, hf, hg, hi⟩ := hcs
    unfold Nxt
    simp
    unfold Nxt
    simp [fTup]
    refine h [(0, a0), (b0, 0), (2 * m + 1 - c0, 0), (2 * m + 1, d0), (2 * m + 1, 2 * m + 1 - e0), (2 * m + 1 - f0, 2 * m + 1), (g0, 2 * m + 1), (0, 2 * m + 1 - i0)] t' (eight_cvx rfl ha hb hc' hd he hf hg hi) (fun q hq => ?_) (by simp) (by rw [hlen] at g'; exact g')
    simp only [List.mem_cons, List.not_mem_nil, or_false] at hq
    rcases hq with rfl | rfl | rfl | rfl | rfl | rfl | rfl | rfl <;> exact ⟨by show Int.natAbs _ < _; omega, by show Int.natAbs _ < _; omega⟩
theorem shape_wp17 {ns : List Int} {a : Addr} {n : Nat} {t : Dk} {z : Int} {Q : D → Dk → Prop} {X : Str → Fds → Dk → Prop} (g : Gd ns a n t) (hc : n < 10000000) (h0 : 5 ≤ z) (h1 : z ≤ 1000000) (h : ∀ (qs : List (Int × Int)) (t' : Dk), Cvx qs → (∀ q ∈ qs, Ptb q) → qs.length ≤ 8 → Gd ns a (n + 100) t' → Q (.tup (qs.map pt)) t') :
    oE (m__law_shape [.at a, .int z] t) Q X := by
  unfold m__law_shape b__law_shape
  simp
  refine take_wp g (by omega) (many_of (by decide) (by decide)) fun k t1 k0 k1 g1 => ?_
  unfold Nxt
  simp
  by_cases hk : k = 0
  · right
    refine ⟨hk, number_wp g1 (by omega) (by omega) (by omega) fun x t2 x0 x1 g2 => ?_⟩
    simp
    refine number_wp g2 (by omega) (by omega) (by omega) fun y t3 y0 y1 g3 => ?_
    simp
    unfold Nxt
    simp
    refine number_wp g3 (by omega) (by omega) (by omega) fun u t4 u0 u1 g4 => ?_
    simp
    refine number_wp g4 (by omega) (by omega) (by omega) fun v t5 v0 v1 g5 => ?_
    simp
    unfold Nxt
    simp
    refine h [(-(x.natAbs : Int), -(y.natAbs : Int)), (-(x.natAbs : Int) + (1 + (u.natAbs : Int)), -(y.natAbs : Int)), (-(x.natAbs : Int) + (1 + (u.natAbs : Int)), -(y.natAbs : Int) + (1 + (v.natAbs : Int))), (-(x.natAbs : Int), -(y.natAbs : Int) + (1 + (v.natAbs : Int)))] t5 (box_cvx (by omega) (by omega)) (fun q hq => ?_) (by simp) (g5.le (by omega))
    simp only [List.mem_cons, List.not_mem_nil, or_false] at hq
    rcases hq with rfl | rfl | rfl | rfl <;> exact ⟨by show Int.natAbs _ < _; omega, by show Int.natAbs _ < _; omega⟩
  · left
    refine ⟨hk, ?_⟩
    unfold Nxt
    simp
    by_cases hk1 : k = 1
    · right
      refine ⟨hk1, ?_⟩
      have hd : z.fdiv 3 = z / 3 := by rw [Int.fdiv_eq_ediv_of_nonneg _ (by decide)]
      rw [hd]
      exact ⟨small_div (b := 4) (by decide) (by decide) (by decide) (by decide), eight_wp17 g1 (by omega) (by omega) (by omega) fun qs t' c p l g' => h qs t' c p l (g'.le (by omega))⟩
    · left
      refine ⟨hk1, ?_⟩
      unfold Nxt
      simp
      refine take_wp g1 (by omega) (many_of (by decide) (by decide)) fun j t2 j0 j1 g2 => ?_
      simp
      unfold Nxt
      simp
      have hlen : (rngD 0 (3 + j).toNat).length = (3 + j).toNat := by simp [rngD]
      refine ⟨by omega, by rw [hlen]; omega, comp_wp (p := fun _ y => ∃ c : Int × Int, y = pt c ∧ Ptb c) (k := 6) (B := n + 200) _ (fun d hd k t1 g1 hm => ⟨_, rfl, ?_⟩) _ t2 g2 (by rw [hlen]; omega) fun ys t' hys g' => ?_⟩
      · simp [wipeR]
        refine number_wp g1 (by omega) (by omega) (by omega) fun x t2 x0 x1 g2 => ?_
        refine number_wp g2 (by omega) (by omega) (by omega) fun y t3 y0 y1 g3 => ?_
        exact ⟨⟨x, y, rfl, ⟨by show x.natAbs < _; omega, by show y.natAbs < _; omega⟩⟩, g3⟩
      · obtain ⟨ps, rfl, hps, hpl⟩ := pw_pts hys
        rw [hlen] at hpl g'
        obtain ⟨us, vs, e1, e2, hm, l1, l2, hcv⟩ := hull_core hps (by omega)
        have er : dRev (.lst ((sP ps).map pt)) = some ((sP ps).reverse.map pt) := by
          show some ((sP ps).map pt).reverse = _
          rw [List.map_reverse]
        simp [sort_sP]
        unfold Nxt
        simp [e1, er]
        rw [← List.map_reverse, e2]
        simp [fTup]
        refine ⟨by omega, ?_⟩
        unfold Nxt
        simp
        by_cases hl3 : us.length + vs.length < 3
        · right
          refine ⟨by omega, h [(-1, 0), (2, 0), (0, 2)] t' tri_cvx (fun q hq => ?_) (by simp) (g'.le (by omega))⟩
          simp only [List.mem_cons, List.not_mem_nil, or_false] at hq
          rcases hq with rfl | rfl | rfl <;> exact ⟨by decide, by decide⟩
        · left
          refine ⟨by omega, ?_⟩
          unfold Nxt
          simp
          have := h (us ++ vs) t' (hcv (by omega)) (fun q hq => hps q (hm q hq)) (Nat.le_trans (nd_len (cvx_nd (hcv (by omega))) hm) (by omega)) (g'.le (by omega))
          rwa [List.map_append] at this
theorem row_wp17 {ns : List Int} {a : Addr} {n : Nat} {t : Dk} {x : Str} {z s : Int} {f : Bool} {Q : D → Dk → Prop} {X : Str → Fds → Dk → Prop} (g : Gd ns a n t) (hc : n < 1000000) (hx : Nm 30 x) (h0 : 5 ≤ z) (h1 : z ≤ 1000000) (hs : s = 0 ∨ s = 1 ∨ s = 2) (h : ∀ (b : B15) (t' : Dk), b.Ok 212 212 → b.qs.length ≤ 8 → b.x = x → Gd ns a (n + 500) t' → Q b.row t') :
    oE (m__law_row [.at a, .str x, .int z, .int s, .bl f] t) Q X := by
  unfold m__law_row b__law_row
  simp
  refine take_wp g (by omega) (many_of (by decide) (by decide)) fun k t1 k0 k1 g1 => ?_
  unfold Nxt
  simp
  refine shape_wp17 g1 (by omega) h0 h1 fun qs t2 cv hp hl g2 => ?_
  unfold Nxt
  simp
  refine drawn_wp g2 (by omega) hs fun px t3 spx g3 => ?_
  refine drawn_wp g3 (by omega) hs fun py t4 spy g4 => ?_
  unfold Nxt
  simp
  have tail : Nxt (sSeq (sAsg (gN 8) (e2 dAdd (eC (.int 1)) (e2 dMulI (eCallS m__law_take [] (aCons (eVar 0) (aCons (eC (.int 1000)) aNil))) (e2 dAdd (eC (.int 1)) (eCallS m__law_take [] (aCons (eVar 0) (aCons (eC (.int 999)) aNil)))))))
  (sSeq (sIf (tOr2 (e1 asB (e2 dNe (eVarW 5) (eC (.int 1)))) (e1 truth (eVarW 4))) (sRet (eTup (aCons (eVar 1) (aCons (eVar 6) (aCons (eVar 8) (aCons (eC .non) (aCons (eVar 7) (aCons (eTup (aCons (eCallS m__law_drawn [] (aCons (eVar 0) (aCons (eVar 3) aNil))) (aCons (eCallS m__law_drawn [] (aCons (eVar 0) (aCons (eVar 3) aNil))) aNil))) aNil)))))))) sSkip)
  (sSeq (sPar 9 10 (e2 dAdd (eC (.int 1)) (eCallS m__law_take [] (aCons (eVar 0) (aCons (eC (.int 9)) aNil)))) (e2 dSub (eCallS m__law_take [] (aCons (eVar 0) (aCons (eC (.int 19)) aNil))) (eC (.int 9))))
  (sSeq (sAsg (gN 11) (e2 dIx (eLst (e1 lim (aCons (eCall m__law_way [] (aCons (eVar 9) (aCons (eVar 10) aNil))) (aCons (eCall m__law_way [] (aCons (eVar 10) (aCons (eVar 9) aNil))) aNil)))) (eCallS m__law_take [] (aCons (eVar 0) (aCons (eC (.int 2)) aNil)))))
  (sSeq (sAsg (gN 12) (eCall m__law_spot [] (aCons (eCall m__law_spot_times [] (aCons (eTup (aCons (eTup (aCons (e2 dIx (eVarW 11) (eC (.int 0))) (aCons (eC (.int 1)) aNil))) (aCons (eTup (aCons (e2 dIx (eVarW 11) (eC (.int 1))) (aCons (eC (.int 1)) aNil))) aNil))) (aCons (eCallS m__law_drawn [] (aCons (eVar 0) (aCons (eVar 3) aNil))) aNil))) aNil)))
  (sRet (eTup (aCons (eVar 1) (aCons (eVar 6) (aCons (eVar 8) (aCons (eVar 11) (aCons (eVar 7) (aCons (eVar 12) aNil))))))))))))) [.val (.at a), .val (.str x), .val (.int z), .val (.int s), .val (.bl f), .val (.int k), .val (.tup (qs.map pt)), .val (.tup [R px, R py]), .no, .no, .no, .no, .no] t4 { nx := fun _ t => Q .non t, rt := Q, ex := fun n fs _ t => X n fs t } := by
    unfold Nxt
    simp
    refine take_wp g4 (by omega) (many_of (by decide) (by decide)) fun u t5 u0 u1 g5 => ?_
    refine take_wp g5 (by omega) (many_of (by decide) (by decide)) fun v t6 v0 v1 g6 => ?_
    simp
    refine ⟨small_mul (i := u) (j := 1 + v) (a := 20) (b := 20) (by omega) (by omega) (by decide) (by decide) (by decide), ?_⟩
    generalize 1 + u * (1 + v) = mass
    unfold Nxt
    simp
    have fin1 : oE (m__law_drawn [.at a, .int s] t6) (fun d t => oE (m__law_drawn [.at a, .int s] t) (fun e t => Q (.tup [.str x, .tup (qs.map pt), .int mass, .non, .tup [R px, R py], .tup [d, e]]) t) X) X := by
      refine drawn_wp g6 (by omega) hs fun vx t7 svx g7 => ?_
      refine drawn_wp g7 (by omega) hs fun vy t8 svy g8 => ?_
      exact h ⟨x, qs, mass, .non, px, py, vx, vy⟩ t8 ⟨hx, cv, hp, Nat.le_trans hl (by decide), spx.le (by decide), spy.le (by decide), svx.le (by decide), svy.le (by decide)⟩ hl rfl (g8.le (by omega))
    by_cases hk : k = 1
    · simp [hk]
      cases f with
      | true => simp; exact fin1
      | false =>
        simp
        unfold Nxt
        simp
        refine take_wp g6 (by omega) (many_of (by decide) (by decide)) fun p t7 p0 p1 g7 => ?_
        simp
        refine take_wp g7 (by omega) (many_of (by decide) (by decide)) fun q t8 q0 q1 g8 => ?_
        simp
        have hpq : (1 + p) ≠ 0 ∨ (q - 9) ≠ 0 := .inl (by omega)
        have pb : (1 + p).natAbs < 2 ^ 5 := by omega
        have qb : (q - 9).natAbs < 2 ^ 5 := by omega
        have w1 := law_way_nw hpq (up8 pb (by decide)) (up8 qb (by decide))
        have w2 := law_way_nw hpq.symm (up8 qb (by decide)) (up8 pb (by decide))
        unfold Nxt
        simp [w1, w2]
        refine take_wp g8 (by omega) (many_of (by decide) (by decide)) fun i t9 i0 i1 g9 => ?_
        obtain ⟨w, ew, ws1, ws2⟩ : ∃ w : Int × Int, atI [pt (nw (1 + p) (q - 9)), pt (nw (q - 9) (1 + p))] i = some (pt w) ∧ w.1.natAbs < 2 ^ 5 ∧ w.2.natAbs < 2 ^ 5 := by
          have z1 := nw_sz hpq pb qb
          have z2 := nw_sz hpq.symm qb pb
          have : i = 0 ∨ i = 1 := by omega
          rcases this with rfl | rfl
          · exact ⟨_, rfl, z1.1, z1.2⟩
          · exact ⟨_, rfl, z2.1, z2.2⟩
        simp [ew]
        unfold Nxt
        simp [pt_ix0, pt_ix1]
        refine drawn_wp g9 (by omega) hs fun r t10 sr g10 => ?_
        obtain ⟨d, ed, hd⟩ := sp_times (IsSp.mk (IsFr.int ws1) (IsFr.int ws2)) (IsFr.of sr) (by decide)
        rw [ed]
        simp [sp_spot hd (by decide)]
        unfold Nxt
        simp
        have sz := hd.sd
        exact h ⟨x, qs, mass, pt w, px, py, _, _⟩ t10 ⟨hx, cv, hp, Nat.le_trans hl (by decide), spx.le (by decide), spy.le (by decide), sz.1.sz (by decide) (by decide), sz.2.sz (by decide) (by decide)⟩ hl rfl (g10.le (by omega))
    · simp [hk]
      exact fin1
  by_cases hk : k = 0
  · simp [hk]
    cases f with
    | true =>
      simp
      rw [hk] at tail
      exact tail
    | false =>
      simp
      exact h ⟨x, qs, 0, .non, px, py, 0, 0⟩ t4 ⟨hx, cv, hp, Nat.le_trans hl (by decide), spx.le (by decide), spy.le (by decide), Sz.zero0 (by decide), Sz.zero0 (by decide)⟩ hl rfl (g4.le (by omega))
  · simp [hk]
    exact tail
def Dv (E : Nat) (r : Rat) : Prop := ∃ z : Int, (z : Rat) = ((E : Int) : Rat) * r
theorem Dv.add {E : Nat} {r s : Rat} (h : Dv E r) (h' : Dv E s) : Dv E (r + s) := by
  obtain ⟨z, e⟩ := h
  obtain ⟨y, f⟩ := h'
  exact ⟨z + y, by rw [Rat.intCast_add, e, f]; grind⟩
theorem Dv.neg {E : Nat} {r : Rat} (h : Dv E r) : Dv E (-r) := by
  obtain ⟨z, e⟩ := h
  exact ⟨-z, by rw [Rat.intCast_neg, e]; grind⟩
theorem Dv.sub {E : Nat} {r s : Rat} (h : Dv E r) (h' : Dv E s) : Dv E (r - s) := by rw [Rat.sub_eq_add_neg]; exact h.add h'.neg
theorem Dv.int (E : Nat) (k : Int) : Dv E (k : Rat) := ⟨(E : Int) * k, by rw [Rat.intCast_mul]⟩
theorem Dv.mul {E F : Nat} {r s : Rat} (h : Dv E r) (h' : Dv F s) : Dv (E * F) (r * s) := by
  obtain ⟨z, e⟩ := h
  obtain ⟨y, f⟩ := h'
  refine ⟨z * y, ?_⟩
  have : (((E * F : Nat) : Int) : Rat) = ((E : Int) : Rat) * ((F : Int) : Rat) := by rw [← Rat.intCast_mul]; rfl
  rw [Rat.intCast_mul, e, f, this]
  grind
theorem Dv.mono {E F : Nat} {r : Rat} (h : Dv E r) (d : E ∣ F) : Dv F r := by
  obtain ⟨z, e⟩ := h
  obtain ⟨k, rfl⟩ := d
  refine ⟨z * k, ?_⟩
  have : (((E * k : Nat) : Int) : Rat) = ((E : Int) : Rat) * ((k : Int) : Rat) := by rw [← Rat.intCast_mul]; rfl
  rw [Rat.intCast_mul, e, this]
  grind
theorem Dv.of (r : Rat) : Dv r.den r := ⟨r.num, nume17 r⟩
theorem Dv.ofden {E : Nat} {r : Rat} (h : r.den ∣ E) : Dv E r := (Dv.of r).mono h
theorem Dv.den {E : Nat} {r : Rat} (h : Dv E r) : r.den ∣ E := by
  obtain ⟨z, e⟩ := h
  have e1 := nume17 r
  have e2 : z * (r.den : Int) = (E : Int) * r.num := by
    apply Rat.intCast_inj.mp
    rw [Rat.intCast_mul, Rat.intCast_mul, e1, e]
    grind
  have e4 : r.den ∣ E * r.num.natAbs := by
    have := congrArg Int.natAbs e2
    rw [Int.natAbs_mul, Int.natAbs_mul, Int.natAbs_natCast, Int.natAbs_natCast] at this
    exact ⟨z.natAbs, by rw [← this, Nat.mul_comm]⟩
  exact Nat.Coprime.dvd_of_dvd_mul_right r.reduced.symm e4
theorem Dv.muli {E : Nat} {r : Rat} (k : Int) (h : Dv E r) : Dv E ((k : Rat) * r) := by
  have := (Dv.int 1 k).mul h
  rw [Nat.one_mul] at this
  exact this
theorem dv_inv {u v : Int} (u0 : 0 ≤ u) (u1 : u < 6) (v0 : 0 ≤ v) : Dv 60 (Rat.divInt ((Rat.divInt (1 + u) (1 + v)).den : Int) (Rat.divInt (1 + u) (1 + v)).num) := by
  obtain ⟨k, hk⟩ : ∃ k : Int, (1 + u) * k = 60 := by
    have : u = 0 ∨ u = 1 ∨ u = 2 ∨ u = 3 ∨ u = 4 ∨ u = 5 := by omega
    rcases this with rfl | rfl | rfl | rfl | rfl | rfl
    · exact ⟨60, rfl⟩
    · exact ⟨30, rfl⟩
    · exact ⟨20, rfl⟩
    · exact ⟨15, rfl⟩
    · exact ⟨12, rfl⟩
    · exact ⟨10, rfl⟩
  have a0 : (0 : Rat) < ((1 + u : Int) : Rat) := Rat.intCast_pos.mpr (by omega)
  have b0 : (0 : Rat) < ((1 + v : Int) : Rat) := Rat.intCast_pos.mpr (by omega)
  have hn := nume17 (Rat.divInt (1 + u) (1 + v))
  have d0 : (0 : Rat) < (((Rat.divInt (1 + u) (1 + v)).den : Int) : Rat) := Rat.intCast_pos.mpr (by have := (Rat.divInt (1 + u) (1 + v)).den_pos; omega)
  have ew : Rat.divInt (1 + u) (1 + v) * ((1 + v : Int) : Rat) = ((1 + u : Int) : Rat) := by
    rw [Rat.divInt_eq_div]; exact Rat.div_mul_cancel (by grind)
  refine ⟨k * (1 + v), ?_⟩
  rw [Rat.divInt_eq_div, hn, Rat.intCast_mul]
  generalize (((Rat.divInt (1 + u) (1 + v)).den : Int) : Rat) = d at *
  generalize Rat.divInt (1 + u) (1 + v) = w at *
  have hk' : ((1 + u : Int) : Rat) * (k : Rat) = 60 := by rw [← Rat.intCast_mul, hk]; rfl
  generalize ((1 + u : Int) : Rat) = a at *
  generalize ((1 + v : Int) : Rat) = b at *
  have w0 : d * w ≠ 0 := fun z => by
    rcases Rat.mul_eq_zero.mp z with q | q
    · grind
    · rw [q] at ew; grind
  have c := Rat.div_mul_cancel (a := d) w0
  generalize d / (d * w) = x at *
  have e1 : x * w = 1 := by
    have : d * (x * w - 1) = 0 := by grind
    rcases Rat.mul_eq_zero.mp this with q | q
    · grind
    · grind
  show (k : Rat) * b = 60 * x
  rw [← hk', ← ew]
  have : w * b * (k : Rat) * x = (k : Rat) * b * (x * w) := by grind
  rw [this, e1]; grind
theorem part_at17 {i : Int} (h0 : 0 ≤ i) (h1 : i < 4) : ∃ d r, atI [D.tup [.int 0, .int 1], D.tup [.int 0, .int 1], D.tup [.int 1, .int 2], D.tup [.int 1, .int 3]] i = some d ∧ IsFr 3 3 r d ∧ Dv 6 r := by
  have : i = 0 ∨ i = 1 ∨ i = 2 ∨ i = 3 := by omega
  rcases this with rfl | rfl | rfl | rfl
  · exact ⟨_, _, rfl, .mk (by decide) (by decide) (by decide), .ofden (by decide)⟩
  · exact ⟨_, _, rfl, .mk (by decide) (by decide) (by decide), .ofden (by decide)⟩
  · exact ⟨_, _, rfl, .mk (by decide) (by decide) (by decide), .ofden (by decide)⟩
  · exact ⟨_, _, rfl, .mk (by decide) (by decide) (by decide), .ofden (by decide)⟩
theorem some_at17 {i : Int} (h0 : 0 ≤ i) (h1 : i < 4) : ∃ d r, atI [D.tup [.int 0, .int 1], D.tup [.int 0, .int 1], D.tup [.int 1, .int 7], D.tup [.int (-1), .int 7]] i = some d ∧ IsFr 4 4 r d ∧ Dv 7 r := by
  have : i = 0 ∨ i = 1 ∨ i = 2 ∨ i = 3 := by omega
  rcases this with rfl | rfl | rfl | rfl
  · exact ⟨_, _, rfl, .mk (by decide) (by decide) (by decide), .ofden (by decide)⟩
  · exact ⟨_, _, rfl, .mk (by decide) (by decide) (by decide), .ofden (by decide)⟩
  · exact ⟨_, _, rfl, .mk (by decide) (by decide) (by decide), .ofden (by decide)⟩
  · exact ⟨_, _, rfl, .mk (by decide) (by decide) (by decide), .ofden (by decide)⟩
structure DB (E : Nat) (b c : B15) : Prop where
  pos : 0 < E
  lt : E < 2 ^ 1720
  b1 : Dv E b.px
  b2 : Dv E b.py
  b3 : Dv E b.vx
  b4 : Dv E b.vy
  c1 : Dv E c.px
  c2 : Dv E c.py
  c3 : Dv E c.vx
  c4 : Dv E c.vy
def kD (b c : B15) : Nat := b.px.den * b.py.den * (b.vx.den * b.vy.den) * (c.px.den * c.py.den * (c.vx.den * c.vy.den)) * 2520
theorem pair_wp17 {ns : List Int} {a : Addr} {n : Nat} {t : Dk} {Q : D → Dk → Prop} {X : Str → Fds → Dk → Prop} (g : Gd ns a n t) (hc : n < 100000) (h : ∀ (b c : B15) (w : Rat) (t' : Dk), b.Ok 250 730 → c.Ok 250 730 → b.qs.length ≤ 8 → c.qs.length ≤ 8 → (∃ E, DB E b c) → 0 < w → Sz 4 w → Gd ns a (n + 2000) t' → Q (.tup [b.row, c.row, R w]) t') :
    oE (m__law_pair [.at a] t) Q X := by
  unfold m__law_pair b__law_pair
  simp
  refine take_wp g (by omega) (many_of (by decide) (by decide)) fun near t1 n0 n1 g1 => ?_
  refine take_wp g1 (by omega) (many_of (by decide) (by decide)) fun aim t2 a0 a1 g2 => ?_
  unfold Nxt
  simp
  refine take_wp g2 (by omega) (many_of (by decide) (by decide)) fun i t3 i0 i1 g3 => ?_
  obtain ⟨s, es, hs⟩ : ∃ s : Int, atI [D.int 0, D.int 0, D.int 0, D.int 1, D.int 2] i = some (.int s) ∧ (s = 0 ∨ s = 1 ∨ s = 2) := by
    have : i = 0 ∨ i = 1 ∨ i = 2 ∨ i = 3 ∨ i = 4 := by omega
    rcases this with rfl | rfl | rfl | rfl | rfl
    · exact ⟨0, rfl, by decide⟩
    · exact ⟨0, rfl, by decide⟩
    · exact ⟨0, rfl, by decide⟩
    · exact ⟨1, rfl, by decide⟩
    · exact ⟨2, rfl, by decide⟩
  simp [es]
  unfold Nxt
  simp
  refine take_wp g3 (by omega) (many_of (by decide) (by decide)) fun j t4 j0 j1 g4 => ?_
  obtain ⟨z, ez, z0, z1⟩ : ∃ z : Int, atI [D.int 5, D.int 5, D.int 30, D.int 1000000] j = some (.int z) ∧ 5 ≤ z ∧ z ≤ 1000000 := by
    have : j = 0 ∨ j = 1 ∨ j = 2 ∨ j = 3 := by omega
    rcases this with rfl | rfl | rfl | rfl
    · exact ⟨5, rfl, by decide, by decide⟩
    · exact ⟨5, rfl, by decide, by decide⟩
    · exact ⟨30, rfl, by decide, by decide⟩
    · exact ⟨1000000, rfl, by decide, by decide⟩
  simp [ez]
  unfold Nxt
  simp
  refine names_wp g4 (by omega) fun x y t5 hx hy g5 => ?_
  unfold Nxt
  simp
  refine row_wp17 g5 (by omega) hx z0 z1 hs fun b t6 ob hb8 eb g6 => ?_
  unfold Nxt
  simp
  refine row_wp17 g6 (by omega) hy z0 z1 hs fun c t7 oc hc8 ec g7 => ?_
  unfold Nxt
  simp
  refine take_wp g7 (by omega) (many_of (by decide) (by decide)) fun u t8 u0 u1 g8 => ?_
  simp
  refine take_wp g8 (by omega) (many_of (by decide) (by decide)) fun v t9 v0 v1 g9 => ?_
  simp
  rw [law_share_pos (by omega) (up8 (n := 4) (by omega) (by decide))]
  have wsz : Sz 4 (Rat.divInt (1 + u) (1 + v)) := divInt_sz (by omega) (by omega) (by omega)
  have w0 : 0 < Rat.divInt (1 + u) (1 + v) := by
    rw [Rat.divInt_eq_div, Rat.div_def]
    exact Rat.mul_pos (Rat.intCast_pos.mpr (by omega)) (Rat.inv_pos.mpr (Rat.intCast_pos.mpr (by omega)))
  have wi60 := dv_inv (v := v) u0 u1 v0
  generalize Rat.divInt (1 + u) (1 + v) = w at *
  have bl3 := ob.cv.len3
  have cl3 := oc.cv.len3
  unfold Nxt
  simp
  refine take_wp g9 (by omega) (many_of (by omega) (by have := ob.hl; omega)) fun k t10 k0 k1 g10 => ?_
  obtain ⟨p1, m1, e1⟩ := at_nat' k0 k1
  have f := fmod_pos (a := k + 1) (b := (b.qs.length : Int)) (by omega)
  obtain ⟨p2, m2, e2⟩ := at_nat' f.1 f.2
  have bne : b.qs ≠ [] := fun z => by rw [z] at bl3; simp at bl3
  have cne : c.qs ≠ [] := fun z => by rw [z] at cl3; simp at cl3
  have ef : Int.fmod (k + 1) (b.qs.length : Int) = (k + 1) % (b.qs.length : Int) := by rw [Int.fmod_eq_emod_of_nonneg _ (by omega)]
  unfold Nxt
  simp [e1, bne]
  try rw [e2]
  try (rw [← ef, e2])
  simp
  have q1 := ob.hp p1 m1
  have q2 := ob.hp p2 m2
  unfold Nxt
  simp [pt_ix0, pt_ix1]
  unfold Nxt
  simp
  refine take_wp g10 (by omega) (many_of (by omega) (by have := oc.hl; omega)) fun l t11 l0 l1 g11 => ?_
  obtain ⟨p3, m3, e3⟩ := at_nat' l0 l1
  have q3 := oc.hp p3 m3
  simp [e3]
  unfold Nxt
  simp
  refine take_wp g11 (by omega) (many_of (by decide) (by decide)) fun o t12 o0 o1 g12 => ?_
  obtain ⟨dp, rp, ep, hpp, drp⟩ := part_at17 o0 o1
  simp [ep]
  obtain ⟨sx, sy, side, dsx, dsy⟩ : ∃ sx sy : Rat, IsSp 22 1 sx sy (.tup [.tup [.int (p2.1 - p1.1), .int 1], .tup [.int (p2.2 - p1.2), .int 1]]) ∧ Dv 1 sx ∧ Dv 1 sy := ⟨_, _, IsSp.mk (.int (sub_small q2.1 q1.1)) (.int (sub_small q2.2 q1.2)), .int _ _, .int _ _⟩
  obtain ⟨ox, oy, off, dox, doy⟩ : ∃ ox oy : Rat, IsSp 22 1 ox oy (.tup [.tup [.int (p1.1 - p3.1), .int 1], .tup [.int (p1.2 - p3.2), .int 1]]) ∧ Dv 1 ox ∧ Dv 1 oy := ⟨_, _, IsSp.mk (.int (sub_small q1.1 q3.1)) (.int (sub_small q1.2 q3.2)), .int _ _, .int _ _⟩
  obtain ⟨s1, es1, hs1⟩ := sp_plus (N := 240) (M := 213) (IsSp.of ob.s1 ob.s2) off (by decide) (by decide) (by decide) (by decide)
  obtain ⟨s2, es2, hs2⟩ := sp_times side hpp (by decide)
  obtain ⟨s3, es3, hs3⟩ := sp_plus (N := 245) (M := 217) hs1 hs2 (by decide) (by decide) (by decide) (by decide)
  generalize D.tup [.tup [.int (p2.1 - p1.1), .int 1], .tup [.int (p2.2 - p1.2), .int 1]] = sd at *
  have d3x : Dv (b.px.den * 42) (b.px + ox + sx * rp) := ((((Dv.of b.px).mono ⟨42, rfl⟩).add (dox.mono (Nat.one_dvd _))).add ((dsx.mul drp).mono (Nat.dvd_trans (show 1 * 6 ∣ 42 by decide) ⟨b.px.den, Nat.mul_comm _ _⟩)))
  have d3y : Dv (b.py.den * 42) (b.py + oy + sy * rp) := ((((Dv.of b.py).mono ⟨42, rfl⟩).add (doy.mono (Nat.one_dvd _))).add ((dsy.mul drp).mono (Nat.dvd_trans (show 1 * 6 ∣ 42 by decide) ⟨b.py.den, Nat.mul_comm _ _⟩)))
  have e42 : ∀ a e : Nat, a * 42 ∣ a * e * 42 := fun a e => ⟨e, by rw [Nat.mul_right_comm]⟩
  have e42' : ∀ a e : Nat, e ∣ a * e * 42 := fun a e => ⟨a * 42, by rw [Nat.mul_comm a e, Nat.mul_assoc]⟩
  unfold Nxt
  simp [pt_ix0, pt_ix1, es1]
  unfold Nxt
  simp [es2, es3]
  unfold Nxt
  simp
  unfold Nxt
  rw [oS_seq]
  obtain ⟨M1, hM1⟩ : ∃ M : Rho → Dk → Prop, M = fun ρ t => ∃ (px py : Rat) (s18 : Slot), Sz 250 px ∧ Sz 250 py ∧ (Dv (b.px.den * c.px.den * 42) px ∧ Dv (b.py.den * c.py.den * 42) py) ∧ Gd ns a (n + 1200) t ∧ ρ = [.val (.at a), .val (.int near), .val (.int aim), .val (.int s), .val (.int z), .val (.lst [.str x, .str y]), .val b.row, .val c.row, .val (R w), .val (.int k), .val (pt p1), .val (pt p2), .val sd, .val (pt p3), .val dp, .val s3, .val (S2 px py), .val (S2 c.vx c.vy), s18, .no] := ⟨_, rfl⟩
  refine oS_cut M1 ?_ ?_
  · simp
    by_cases hn : 1 < near
    · right
      refine ⟨hn, ?_⟩
      unfold Nxt
      simp
      refine take_wp g12 (by omega) (many_of (by decide) (by decide)) fun i1 t13 i10 i11 g13 => ?_
      obtain ⟨d1, r1, ed1, hd1, dr1⟩ := some_at17 i10 i11
      simp [ed1]
      refine take_wp g13 (by omega) (many_of (by decide) (by decide)) fun i2 t14 i20 i21 g14 => ?_
      obtain ⟨d2, r2, ed2, hd2, dr2⟩ := some_at17 i20 i21
      simp [ed2]
      obtain ⟨s4, es4, hs4⟩ := sp_plus (N := 250) (M := 221) hs3 (IsSp.mk hd1 hd2) (by decide) (by decide) (by decide) (by decide)
      simp [es4, sp_spot hs4 (by decide)]
      rw [hM1]
      exact ⟨_, _, _, hs4.sd.1.sz (by decide) (by decide), hs4.sd.2.sz (by decide) (by decide), ⟨(d3x.add (dr1.mono (Nat.dvd_trans (show 7 ∣ 42 by decide) ⟨b.px.den, Nat.mul_comm _ _⟩))).mono (e42 _ _), (d3y.add (dr2.mono (Nat.dvd_trans (show 7 ∣ 42 by decide) ⟨b.py.den, Nat.mul_comm _ _⟩))).mono (e42 _ _)⟩, g14.le (by omega), rfl⟩
    · left
      refine ⟨by omega, ?_⟩
      rw [hM1]
      exact ⟨_, _, _, oc.s1.le (by decide), oc.s2.le (by decide), ⟨(Dv.of c.px).mono (e42' _ _), (Dv.of c.py).mono (e42' _ _)⟩, g12.le (by omega), rfl⟩
  rw [hM1]
  rintro ρ t ⟨px, py, s18, hpx, hpy, ⟨dpx, dpy⟩, gg, rfl⟩
  have eB : ∀ a e f g : Nat, f ∣ a * e * f * g * 2520 := fun a e f g => ⟨a * e * g * 2520, by ac_rfl⟩
  have eC : ∀ a e f g : Nat, g ∣ a * e * f * g * 2520 := fun a e f g => ⟨a * e * f * 2520, by ac_rfl⟩
  have eK : ∀ a e f g : Nat, a * e * 42 * 60 ∣ a * e * f * g * 2520 := fun a e f g => ⟨f * g, by rw [show (2520 : Nat) = 42 * 60 from rfl]; ac_rfl⟩
  dsimp only
  unfold Nxt
  rw [oS_seq]
  obtain ⟨M2, hM2⟩ : ∃ M : Rho → Dk → Prop, M = fun ρ t => ∃ (vx vy : Rat), Sz 730 vx ∧ Sz 730 vy ∧ (Dv (b.px.den * c.px.den * b.vx.den * c.vx.den * 2520) vx ∧ Dv (b.py.den * c.py.den * b.vy.den * c.vy.den * 2520) vy) ∧ Gd ns a (n + 1200) t ∧ ρ = [.val (.at a), .val (.int near), .val (.int aim), .val (.int s), .val (.int z), .val (.lst [.str x, .str y]), .val b.row, .val c.row, .val (R w), .val (.int k), .val (pt p1), .val (pt p2), .val sd, .val (pt p3), .val dp, .val s3, .val (S2 px py), .val (S2 vx vy), s18, .no] := ⟨_, rfl⟩
  refine oS_cut M2 ?_ ?_
  · simp
    by_cases hn : aim = 1
    · right
      refine ⟨hn, ?_⟩
      rw [hM2]
      exact ⟨_, _, ob.s3.le (by decide), ob.s4.le (by decide), ⟨(Dv.of b.vx).mono (eB _ _ _ _), (Dv.of b.vy).mono (eB _ _ _ _)⟩, gg, rfl⟩
    · left
      refine ⟨hn, ?_⟩
      rw [hM2]
      exact ⟨_, _, oc.s3.le (by decide), oc.s4.le (by decide), ⟨(Dv.of c.vx).mono (eC _ _ _ _), (Dv.of c.vy).mono (eC _ _ _ _)⟩, gg, rfl⟩
  rw [hM2]
  rintro ρ t ⟨vx, vy, hvx, hvy, hdv, gg, rfl⟩
  dsimp only
  unfold Nxt
  rw [oS_seq]
  obtain ⟨M3, hM3⟩ : ∃ M : Rho → Dk → Prop, M = fun ρ t => ∃ (vx vy : Rat), Sz 730 vx ∧ Sz 730 vy ∧ (Dv (b.px.den * c.px.den * b.vx.den * c.vx.den * 2520) vx ∧ Dv (b.py.den * c.py.den * b.vy.den * c.vy.den * 2520) vy) ∧ Gd ns a (n + 1300) t ∧ ρ = [.val (.at a), .val (.int near), .val (.int aim), .val (.int s), .val (.int z), .val (.lst [.str x, .str y]), .val b.row, .val c.row, .val (R w), .val (.int k), .val (pt p1), .val (pt p2), .val sd, .val (pt p3), .val dp, .val s3, .val (S2 px py), .val (S2 vx vy), s18, .no] := ⟨_, rfl⟩
  refine oS_cut M3 ?_ ?_
  · simp
    by_cases hn : aim = 2
    · right
      refine ⟨hn, take_wp gg (by omega) (many_of (by decide) (by decide)) fun i1 t13 i10 i11 g13 => ?_⟩
      simp
      obtain ⟨s4, es4, hs4⟩ := sp_times side (IsFr.mk (n := 3) (d := 3) (a := i1 - 4) (b := 3) (by decide) (by omega) (by decide)) (by decide)
      obtain ⟨s5, es5, hs5⟩ := sp_plus (N := 690) (M := 690) (IsSp.of ob.s3 ob.s4) hs4 (by decide) (by decide) (by decide) (by decide)
      rw [es4]
      simp [es5, sp_spot hs5 (by decide)]
      rw [hM3]
      have d3 : Dv 3 (Rat.divInt (i1 - 4) 3) := ⟨i1 - 4, by rw [Rat.divInt_eq_div, Rat.mul_comm]; exact (Rat.div_mul_cancel (by decide)).symm⟩
      have e3 : ∀ a e f g : Nat, 1 * 3 ∣ a * e * f * g * 2520 := fun a e f g => Nat.dvd_trans (show 1 * 3 ∣ 2520 by decide) ⟨a * e * f * g, Nat.mul_comm _ _⟩
      exact ⟨_, _, hs5.sd.1.sz (by decide) (by decide), hs5.sd.2.sz (by decide) (by decide), ⟨((Dv.of b.vx).mono (eB _ _ _ _)).add ((dsx.mul d3).mono (e3 _ _ _ _)), ((Dv.of b.vy).mono (eB _ _ _ _)).add ((dsy.mul d3).mono (e3 _ _ _ _))⟩, g13.le (by omega), rfl⟩
    · left
      refine ⟨hn, ?_⟩
      rw [hM3]
      exact ⟨_, _, hvx, hvy, hdv, gg.le (by omega), rfl⟩
  clear hvx hvy hdv
  clear gg
  rw [hM3]
  rintro ρ t ⟨vx, vy, hvx, hvy, hdv, gg, rfl⟩
  dsimp only
  unfold Nxt
  rw [oS_seq]
  obtain ⟨M4, hM4⟩ : ∃ M : Rho → Dk → Prop, M = fun ρ t => ∃ (vx vy : Rat) (s19 : Slot), Sz 730 vx ∧ Sz 730 vy ∧ (Dv (b.px.den * c.px.den * b.vx.den * c.vx.den * 2520) vx ∧ Dv (b.py.den * c.py.den * b.vy.den * c.vy.den * 2520) vy) ∧ Gd ns a (n + 1300) t ∧ ρ = [.val (.at a), .val (.int near), .val (.int aim), .val (.int s), .val (.int z), .val (.lst [.str x, .str y]), .val b.row, .val c.row, .val (R w), .val (.int k), .val (pt p1), .val (pt p2), .val sd, .val (pt p3), .val dp, .val s3, .val (S2 px py), .val (S2 vx vy), s18, s19] := ⟨_, rfl⟩
  refine oS_cut M4 ?_ ?_
  · simp
    by_cases hn : 2 < aim
    · right
      refine ⟨hn, ?_⟩
      have m1 : IsFr 1 1 (-1) (.tup [.int (-1), .int 1]) := IsFr.int (k := -1) (by decide)
      obtain ⟨s4, es4, hs4⟩ := sp_times (IsSp.of hpx hpy) m1 (by decide)
      obtain ⟨s5, es5, hs5⟩ := sp_plus (N := 500) (M := 470) hs3 hs4 (by decide) (by decide) (by decide) (by decide)
      have wn : 0 < w.num := by
        have := (Rat.lt_iff 0 w).mp w0
        simpa using this
      have wi : IsFr 4 4 (Rat.divInt w.den w.num) (.tup [.int (w.den : Int), .int w.num]) := IsFr.mk wn wsz.den wsz.nu
      obtain ⟨s6, es6, hs6⟩ := sp_times hs5 wi (by decide)
      obtain ⟨s7, es7, hs7⟩ := sp_plus (N := 725) (M := 690) (IsSp.of ob.s3 ob.s4) hs6 (by decide) (by decide) (by decide) (by decide)
      rw [es4]
      simp [es5]
      unfold Nxt
      simp
      rw [es6]
      simp [es7, sp_spot hs7 (by decide)]
      rw [hM4]
      have nn : ∀ r : Rat, r * -1 = -r := fun r => by grind
      have tx := ((d3x.mono (e42 _ c.px.den)).add (show Dv (b.px.den * c.px.den * 42) (px * -1) by rw [nn]; exact dpx.neg)).mul wi60
      have ty := ((d3y.mono (e42 _ c.py.den)).add (show Dv (b.py.den * c.py.den * 42) (py * -1) by rw [nn]; exact dpy.neg)).mul wi60
      exact ⟨_, _, _, hs7.sd.1.sz (by decide) (by decide), hs7.sd.2.sz (by decide) (by decide), ⟨((Dv.of b.vx).mono (eB _ _ _ _)).add (tx.mono (eK _ _ _ _)), ((Dv.of b.vy).mono (eB _ _ _ _)).add (ty.mono (eK _ _ _ _))⟩, gg, rfl⟩
    · left
      refine ⟨by omega, ?_⟩
      rw [hM4]
      exact ⟨_, _, _, hvx.le (by decide), hvy.le (by decide), hdv, gg, rfl⟩
  clear hvx hvy hdv
  clear gg
  rw [hM4]
  rintro ρ t ⟨vx, vy, s19, hvx, hvy, hdv, gg, rfl⟩
  dsimp only
  unfold Nxt
  simp [cut4]
  refine h b ⟨c.x, c.qs, c.m, c.rl, px, py, vx, vy⟩ w t (ob.le (by decide) (by decide)) ⟨oc.hx, oc.cv, oc.hp, oc.hl, hpx.le (by decide), hpy.le (by decide), hvx, hvy⟩ hb8 hc8 ?_ w0 wsz (gg.le (by omega))
  refine ⟨kD b c, ?_, ?_, ?_, ?_, ?_, ?_, ?_, ?_, ?_, ?_⟩
  · unfold kD
    have := Nat.mul_pos (Nat.mul_pos (Nat.mul_pos b.px.den_pos b.py.den_pos) (Nat.mul_pos b.vx.den_pos b.vy.den_pos)) (Nat.mul_pos (Nat.mul_pos c.px.den_pos c.py.den_pos) (Nat.mul_pos c.vx.den_pos c.vy.den_pos))
    omega
  · have p2 : ∀ {x y m k : Nat}, x < 2 ^ m → y < 2 ^ k → x * y < 2 ^ (m + k) := fun h h' => by rw [Nat.pow_add]; exact Nat.mul_lt_mul'' h h'
    have a1 := p2 (p2 ob.s1.sd.de ob.s2.sd.de) (p2 ob.s3.sd.de ob.s4.sd.de)
    have a2 := p2 (p2 oc.s1.sd.de oc.s2.sd.de) (p2 oc.s3.sd.de oc.s4.sd.de)
    exact Nat.lt_of_lt_of_le (p2 (p2 a1 a2) (show 2520 < 2 ^ 12 by decide)) (Nat.pow_le_pow_right (by decide) (by decide))
  · exact (Dv.of b.px).mono ⟨b.py.den * (b.vx.den * b.vy.den) * (c.px.den * c.py.den * (c.vx.den * c.vy.den)) * 2520, by unfold kD; ac_rfl⟩
  · exact (Dv.of b.py).mono ⟨b.px.den * (b.vx.den * b.vy.den) * (c.px.den * c.py.den * (c.vx.den * c.vy.den)) * 2520, by unfold kD; ac_rfl⟩
  · exact (Dv.of b.vx).mono ⟨b.px.den * b.py.den * b.vy.den * (c.px.den * c.py.den * (c.vx.den * c.vy.den)) * 2520, by unfold kD; ac_rfl⟩
  · exact (Dv.of b.vy).mono ⟨b.px.den * b.py.den * b.vx.den * (c.px.den * c.py.den * (c.vx.den * c.vy.den)) * 2520, by unfold kD; ac_rfl⟩
  · exact (dpx.mono (show _ ∣ b.px.den * c.px.den * 2520 from Nat.mul_dvd_mul_left _ (by decide))).mono ⟨b.py.den * (b.vx.den * b.vy.den) * (c.py.den * (c.vx.den * c.vy.den)), by unfold kD; ac_rfl⟩
  · exact (dpy.mono (show _ ∣ b.py.den * c.py.den * 2520 from Nat.mul_dvd_mul_left _ (by decide))).mono ⟨b.px.den * (b.vx.den * b.vy.den) * (c.px.den * (c.vx.den * c.vy.den)), by unfold kD; ac_rfl⟩
  · exact hdv.1.mono ⟨b.py.den * b.vy.den * (c.py.den * c.vy.den), by unfold kD; ac_rfl⟩
  · exact hdv.2.mono ⟨b.px.den * b.vx.den * (c.px.den * c.vx.den), by unfold kD; ac_rfl⟩
abbrev Pt17 := Rat × Rat
def lw (w : Int × Int) (v : Pt17) : Rat := (w.1 : Rat) * v.1 + (w.2 : Rat) * v.2
def Xz (z a b : Pt17) : Rat := (a.1 - z.1) * (b.2 - z.2) - (a.2 - z.2) * (b.1 - z.1)
def crs (w : Int × Int) (k : Rat) (p c : Pt17) : Pt17 := (p.1 + (c.1 - p.1) * ((k - lw w p) / (lw w c - lw w p)), p.2 + (c.2 - p.2) * ((k - lw w p) / (lw w c - lw w p)))
def cutA (w : Int × Int) (k : Rat) (p : Pt17) : List Pt17 → List Pt17
  | [] => []
  | c :: cs => (if decide (lw w c ≤ k) = decide (lw w p ≤ k) then [] else [crs w k p c]) ++ ((if lw w c ≤ k then [c] else []) ++ cutA w k c cs)
def lst (p : Pt17) : List Pt17 → Pt17
  | [] => p
  | c :: cs => lst c cs
def cut (w : Int × Int) (k : Rat) (V : List Pt17) : List Pt17 := cutA w k (lst (0, 0) V) V
abbrev Ln17 := (Int × Int) × Rat
def Lk (Λ : List Ln17) (a b : Pt17) : Prop := ∃ l ∈ Λ, lw l.1 a = l.2 ∧ lw l.1 b = l.2
def Ch (z : Pt17) (Λ : List Ln17) (p : Pt17) : List Pt17 → Prop
  | [] => True
  | c :: cs => (p = c ∨ 0 < Xz z p c) ∧ Lk Λ p c ∧ Ch z Λ c cs
def St17 (w : Int × Int) (k : Rat) (z p q : Pt17) : Prop := (lw w p ≤ k ∧ q = p) ∨ (k < lw w p ∧ lw w q = k ∧ 0 < Xz z q p)
theorem Xz_self (z a : Pt17) : Xz z a a = 0 := by unfold Xz; grind
theorem Xz_trans {w : Int × Int} {z a b c : Pt17} (ha : lw w z < lw w a) (hb : lw w z < lw w b) (hc : lw w z < lw w c) (h1 : 0 < Xz z a b) (h2 : 0 < Xz z b c) : 0 < Xz z a c := by
  have id : (lw w b - lw w z) * Xz z a c = (lw w a - lw w z) * Xz z b c + (lw w c - lw w z) * Xz z a b := by unfold lw Xz; grind
  have e1 := Rat.mul_pos (show 0 < lw w a - lw w z by grind) h2
  have e2 := Rat.mul_pos (show 0 < lw w c - lw w z by grind) h1
  have hb' : 0 < lw w b - lw w z := by grind
  apply Classical.byContradiction
  intro n
  have n := Rat.not_lt.mp n
  have := Rat.mul_le_mul_of_nonneg_left n (Rat.le_of_lt hb')
  rw [id] at this
  grind
theorem crs_mean {w : Int × Int} {k : Rat} {p c : Pt17} (h : (lw w p ≤ k ∧ k < lw w c) ∨ (lw w c ≤ k ∧ k < lw w p)) : ∃ t : Rat, 0 ≤ t ∧ t ≤ 1 ∧ crs w k p c = (p.1 + (c.1 - p.1) * t, p.2 + (c.2 - p.2) * t) ∧ lw w p + (lw w c - lw w p) * t = k := by
  refine ⟨(k - lw w p) / (lw w c - lw w p), ?_, ?_, rfl, ?_⟩
  all_goals
    generalize lw w p = a at *
    generalize lw w c = b at *
    have n0 : b - a ≠ 0 := by grind
    have e : (k - a) / (b - a) * (b - a) = k - a := Rat.div_mul_cancel n0
    generalize (k - a) / (b - a) = t at *
  · apply Classical.byContradiction
    intro n
    have n := Rat.not_le.mp n
    rcases h with ⟨h1, h2⟩ | ⟨h1, h2⟩
    · have := Rat.mul_lt_mul_of_pos_right n (show 0 < b - a by grind); grind
    · have := Rat.mul_lt_mul_of_pos_right n (show 0 < a - b by grind); grind
  · apply Classical.byContradiction
    intro n
    have n := Rat.not_le.mp n
    rcases h with ⟨h1, h2⟩ | ⟨h1, h2⟩
    · have := Rat.mul_lt_mul_of_pos_right n (show 0 < b - a by grind); grind
    · have := Rat.mul_lt_mul_of_pos_right n (show 0 < a - b by grind); grind
  · grind
theorem lw_mean (w : Int × Int) (p c : Pt17) (t : Rat) : lw w (p.1 + (c.1 - p.1) * t, p.2 + (c.2 - p.2) * t) = lw w p + (lw w c - lw w p) * t := by unfold lw; grind
theorem lk_mean {Λ : List Ln17} {p c : Pt17} (t : Rat) (h : Lk Λ p c) : Lk Λ p (p.1 + (c.1 - p.1) * t, p.2 + (c.2 - p.2) * t) ∧ Lk Λ (p.1 + (c.1 - p.1) * t, p.2 + (c.2 - p.2) * t) c := by
  obtain ⟨l, hl, h1, h2⟩ := h
  have e : lw l.1 (p.1 + (c.1 - p.1) * t, p.2 + (c.2 - p.2) * t) = l.2 := by rw [lw_mean, h1, h2]; grind
  exact ⟨⟨l, hl, h1, e⟩, ⟨l, hl, e, h2⟩⟩
theorem X_mean1 (z p c : Pt17) (t : Rat) : Xz z p (p.1 + (c.1 - p.1) * t, p.2 + (c.2 - p.2) * t) = t * Xz z p c := by unfold Xz; grind
theorem X_mean2 (z p c : Pt17) (t : Rat) : Xz z (p.1 + (c.1 - p.1) * t, p.2 + (c.2 - p.2) * t) c = (1 - t) * Xz z p c := by unfold Xz; grind
theorem mean0 (p c : Pt17) : (p.1 + (c.1 - p.1) * 0, p.2 + (c.2 - p.2) * 0) = p := by ext <;> grind
theorem mean1 (p c : Pt17) : (p.1 + (c.1 - p.1) * 1, p.2 + (c.2 - p.2) * 1) = c := by ext <;> grind
theorem lst_app (p : Pt17) : ∀ (a b : List Pt17), lst p (a ++ b) = lst (lst p a) b
  | [], b => rfl
  | x :: a, b => lst_app x a b
theorem lst_mem (p : Pt17) : ∀ {a : List Pt17}, a ≠ [] → lst p a ∈ a
  | [x], _ => List.mem_cons_self
  | x :: y :: a, _ => List.mem_cons_of_mem _ (lst_mem x (a := y :: a) (by simp))
theorem lst_ne (p q : Pt17) : ∀ {a : List Pt17}, a ≠ [] → lst p a = lst q a
  | _ :: _, _ => rfl
theorem exit_ok {w : Int × Int} {k : Rat} {z p c : Pt17} {Λ : List Ln17} (h1 : lw w p ≤ k) (h2 : k < lw w c) (hX : 0 < Xz z p c) (hl : Lk Λ p c) :
    (p = crs w k p c ∨ 0 < Xz z p (crs w k p c)) ∧ Lk Λ p (crs w k p c) ∧ St17 w k z c (crs w k p c) := by
  obtain ⟨t, t0, t1, e, ek⟩ := crs_mean (w := w) (k := k) (.inl ⟨h1, h2⟩)
  rw [e]
  have t2 : t < 1 := by
    apply Classical.byContradiction
    intro n
    have : t = 1 := by grind
    rw [this] at ek
    grind
  refine ⟨?_, (lk_mean t hl).1, .inr ⟨h2, by rw [lw_mean, ek], ?_⟩⟩
  · by_cases h : t = 0
    · left; rw [h, mean0]
    · right
      rw [X_mean1]
      exact Rat.mul_pos (by grind) hX
  · rw [X_mean2]
    exact Rat.mul_pos (by grind) hX
theorem entry_ok {w : Int × Int} {k : Rat} {z p q c : Pt17} {Λ : List Ln17} (hz : lw w z < k) (hΛ : (w, k) ∈ Λ) (hp : k < lw w p) (hq : lw w q = k) (hqp : 0 < Xz z q p) (hc : lw w c ≤ k) (hX : 0 < Xz z p c) (hl : Lk Λ p c) :
    0 < Xz z q (crs w k p c) ∧ Lk Λ q (crs w k p c) ∧ (crs w k p c = c ∨ 0 < Xz z (crs w k p c) c) ∧ Lk Λ (crs w k p c) c := by
  obtain ⟨t, t0, t1, e, ek⟩ := crs_mean (w := w) (k := k) (.inr ⟨hc, hp⟩)
  rw [e]
  have t2 : 0 < t := by
    apply Classical.byContradiction
    intro n
    have : t = 0 := by grind
    rw [this] at ek
    grind
  have ey : lw w (p.1 + (c.1 - p.1) * t, p.2 + (c.2 - p.2) * t) = k := by rw [lw_mean, ek]
  refine ⟨?_, ⟨_, hΛ, hq, ey⟩, ?_, (lk_mean t hl).2⟩
  · refine Xz_trans (w := w) (b := p) (by grind) (by grind) (by grind) hqp ?_
    rw [X_mean1]
    exact Rat.mul_pos t2 hX
  · by_cases h : t = 1
    · left; rw [h, mean1]
    · right
      rw [X_mean2]
      exact Rat.mul_pos (by grind) hX
theorem X_of {z p c : Pt17} (h : p = c ∨ 0 < Xz z p c) (ne : p ≠ c) : 0 < Xz z p c := h.elim (fun e => absurd e ne) id
theorem cut_chain {w : Int × Int} {k : Rat} {z : Pt17} {Λ : List Ln17} (hz : lw w z < k) (hΛ : (w, k) ∈ Λ) : ∀ (V : List Pt17) (p q : Pt17), Ch z Λ p V → St17 w k z p q → Ch z Λ q (cutA w k p V) ∧ St17 w k z (lst p V) (lst q (cutA w k p V))
  | [], p, q, _, s => ⟨trivial, s⟩
  | c :: cs, p, q, ⟨h1, h2, h3⟩, s => by
    unfold cutA
    rcases s with ⟨hp, rfl⟩ | ⟨hp, hq, hqp⟩
    · by_cases hc : lw w c ≤ k
      · have ih := cut_chain hz hΛ cs c c h3 (.inl ⟨hc, rfl⟩)
        rw [if_pos (by simp [hc, hp]), if_pos hc]
        exact ⟨⟨h1, h2, ih.1⟩, ih.2⟩
      · have hc' := Rat.not_le.mp hc
        have ne : q ≠ c := fun e => by rw [e] at hp; exact hc hp
        have ex := exit_ok hp hc' (X_of h1 ne) h2
        have ih := cut_chain hz hΛ cs c _ h3 ex.2.2
        rw [if_neg (by simp [hc, hp]), if_neg hc]
        exact ⟨⟨ex.1, ex.2.1, ih.1⟩, ih.2⟩
    · have hp' : ¬ lw w p ≤ k := by grind
      by_cases hc : lw w c ≤ k
      · have ne : p ≠ c := fun e => by rw [e] at hp; grind
        have en := entry_ok hz hΛ hp hq hqp hc (X_of h1 ne) h2
        have ih := cut_chain hz hΛ cs c c h3 (.inl ⟨hc, rfl⟩)
        rw [if_neg (by simp [hc, hp']), if_pos hc]
        exact ⟨⟨.inr en.1, en.2.1, en.2.2.1, en.2.2.2, ih.1⟩, ih.2⟩
      · have hc' := Rat.not_le.mp hc
        have s' : St17 w k z c q := by
          refine .inr ⟨hc', hq, ?_⟩
          rcases h1 with e | h1
          · rw [← e]; exact hqp
          · exact Xz_trans (w := w) (b := p) (by grind) (by grind) (by grind) hqp h1
        have ih := cut_chain hz hΛ cs c q h3 s'
        rw [if_pos (by simp [hc, hp']), if_neg hc]
        exact ih
def NE (V : List Pt17) : Prop := ∃ a ∈ V, ∃ b ∈ V, a ≠ b
structure Ring (z : Pt17) (Λ : List Ln17) (V : List Pt17) : Prop where
  ch : Ch z Λ (lst (0, 0) V) V
  ne : NE V
theorem Ring.nn {z : Pt17} {Λ : List Ln17} {V : List Pt17} (R : Ring z Λ V) : V ≠ [] := fun e => by
  obtain ⟨a, ha, _⟩ := R.ne
  rw [e] at ha
  exact absurd ha List.not_mem_nil
theorem half_go {w : Int × Int} {z a : Pt17} {Λ : List Ln17} (ha : lw w z < lw w a) : ∀ (V : List Pt17) (p : Pt17), Ch z Λ p V → lw w z < lw w p → (∀ v ∈ V, lw w z < lw w v) → 0 < Xz z a p → 0 < Xz z a (lst p V)
  | [], _, _, _, _, h => h
  | c :: cs, p, ⟨h1, _, h3⟩, hp, hv, h => by
    have hc := hv c List.mem_cons_self
    refine half_go ha cs c h3 hc (fun v m => hv v (List.mem_cons_of_mem _ m)) ?_
    rcases h1 with rfl | h1
    · exact h
    · exact Xz_trans (w := w) ha hp hc h h1
theorem half_eq {w : Int × Int} {z a : Pt17} {Λ : List Ln17} (ha : lw w z < lw w a) : ∀ (V : List Pt17), Ch z Λ a V → (∀ v ∈ V, lw w z < lw w v) → (∀ v ∈ V, v = a) ∨ 0 < Xz z a (lst a V)
  | [], _, _ => .inl fun v hv => absurd hv List.not_mem_nil
  | c :: cs, ⟨h1, _, h3⟩, hv => by
    have hc := hv c List.mem_cons_self
    have hv' : ∀ v ∈ cs, lw w z < lw w v := fun v m => hv v (List.mem_cons_of_mem _ m)
    rcases h1 with rfl | h1
    · rcases half_eq ha cs h3 hv' with h | h
      · exact .inl fun v m => (List.mem_cons.mp m).elim id (h v)
      · exact .inr h
    · exact .inr (half_go ha cs c h3 hc hv' h1)
theorem Ring.not_all {w : Int × Int} {z : Pt17} {Λ : List Ln17} {V : List Pt17} (R : Ring z Λ V) : ¬ ∀ v ∈ V, lw w z < lw w v := fun h => by
  have m := lst_mem (0, 0) R.nn
  rcases half_eq (h _ m) V R.ch h with q | q
  · obtain ⟨a, ha, b, hb, ne⟩ := R.ne
    exact ne ((q a ha).trans (q b hb).symm)
  · rw [lst_ne (lst (0, 0) V) (0, 0) R.nn, Xz_self] at q
    exact absurd q (by decide)
theorem cut_end {w : Int × Int} {k : Rat} {z : Pt17} {Λ : List Ln17} (hz : lw w z < k) (hΛ : (w, k) ∈ Λ) : ∀ (V : List Pt17) (p q : Pt17), Ch z Λ p V → (∃ c ∈ V, lw w c ≤ k) → St17 w k z (lst p V) (lst q (cutA w k p V))
  | [], _, _, _, ⟨c, hc, _⟩ => absurd hc List.not_mem_nil
  | c :: cs, p, q, ⟨h1, h2, h3⟩, ⟨d, hd, hk⟩ => by
    unfold cutA
    rw [lst_app, lst_app]
    by_cases hc : lw w c ≤ k
    · rw [if_pos hc]
      exact (cut_chain hz hΛ cs c c h3 (.inl ⟨hc, rfl⟩)).2
    · rw [if_neg hc]
      rcases List.mem_cons.mp hd with e | hd
      · rw [e] at hk; exact absurd hk hc
      · exact cut_end hz hΛ cs c _ h3 ⟨d, hd, hk⟩
theorem entry_strict {w : Int × Int} {k : Rat} {z : Pt17} {Λ : List Ln17} (hz : lw w z < k) (hΛ : (w, k) ∈ Λ) : ∀ (V : List Pt17) (p q : Pt17), Ch z Λ p V → St17 w k z p q → k < lw w p → (∃ c ∈ V, lw w c ≤ k) → ∃ a ∈ q :: cutA w k p V, ∃ b ∈ cutA w k p V, 0 < Xz z a b
  | [], _, _, _, _, _, ⟨c, hc, _⟩ => absurd hc List.not_mem_nil
  | c :: cs, p, q, ⟨h1, h2, h3⟩, s, hp, ⟨d, hd, hk⟩ => by
    have hp' : ¬ lw w p ≤ k := by grind
    have s' := s
    rcases s with ⟨hp2, _⟩ | ⟨_, hq, hqp⟩
    · exact absurd hp2 hp'
    · unfold cutA
      by_cases hc : lw w c ≤ k
      · have ne : p ≠ c := fun e => by rw [e] at hp; grind
        have en := entry_ok hz hΛ hp hq hqp hc (X_of h1 ne) h2
        rw [if_neg (by simp [hc, hp']), if_pos hc]
        exact ⟨q, List.mem_cons_self, crs w k p c, by simp, en.1⟩
      · rw [if_pos (by simp [hc, hp']), if_neg hc]
        have hc' := Rat.not_le.mp hc
        have st := (cut_chain hz hΛ [c] p q ⟨h1, h2, trivial⟩ s').2
        have e0 : cutA w k p [c] = [] := by unfold cutA; rw [if_pos (by simp [hc, hp']), if_neg hc]; rfl
        rw [e0] at st
        rcases List.mem_cons.mp hd with e | hd
        · rw [e] at hk; exact absurd hk hc
        · exact entry_strict hz hΛ cs c q h3 st hc' ⟨d, hd, hk⟩
theorem some_strict {w : Int × Int} {k : Rat} {z : Pt17} {Λ : List Ln17} (hz : lw w z < k) (hΛ : (w, k) ∈ Λ) : ∀ (V : List Pt17) (p q : Pt17), Ch z Λ p V → St17 w k z p q → (∃ c ∈ V, k < lw w c) → lw w (lst p V) ≤ k → ∃ a ∈ q :: cutA w k p V, ∃ b ∈ cutA w k p V, 0 < Xz z a b
  | [], _, _, _, _, ⟨c, hc, _⟩, _ => absurd hc List.not_mem_nil
  | c :: cs, p, q, ⟨h1, h2, h3⟩, s, ⟨d, hd, hk⟩, hl => by
    have st := (cut_chain hz hΛ [c] p q ⟨h1, h2, trivial⟩ s).2
    have e0 : cutA w k p (c :: cs) = cutA w k p [c] ++ cutA w k c cs := by
      show _ ++ (_ ++ _) = (_ ++ (_ ++ [])) ++ _
      rw [List.append_nil, List.append_assoc]
    have lm : lst q (cutA w k p [c]) ∈ q :: cutA w k p [c] := by
      by_cases h : cutA w k p [c] = []
      · rw [h]; exact List.mem_cons_self
      · exact List.mem_cons_of_mem _ (lst_mem q h)
    have up : (∃ a ∈ lst q (cutA w k p [c]) :: cutA w k c cs, ∃ b ∈ cutA w k c cs, 0 < Xz z a b) → ∃ a ∈ q :: cutA w k p (c :: cs), ∃ b ∈ cutA w k p (c :: cs), 0 < Xz z a b := fun ⟨a, ha, b, hb, h⟩ => by
      rw [e0]
      refine ⟨a, ?_, b, List.mem_append_right _ hb, h⟩
      rcases List.mem_cons.mp ha with e | ha
      · rw [e]
        rcases List.mem_cons.mp lm with e2 | m
        · rw [e2]; exact List.mem_cons_self
        · exact List.mem_cons_of_mem _ (List.mem_append_left _ m)
      · exact List.mem_cons_of_mem _ (List.mem_append_right _ ha)
    refine up ?_
    by_cases hc : lw w c ≤ k
    · rcases List.mem_cons.mp hd with e | hd
      · rw [e] at hk; exact absurd hc (Rat.not_le.mpr hk)
      · exact some_strict hz hΛ cs c _ h3 st ⟨d, hd, hk⟩ hl
    · have hcs : cs ≠ [] := fun e => by rw [e] at hl; exact hc hl
      exact entry_strict hz hΛ cs c _ h3 st (Rat.not_le.mp hc) ⟨_, lst_mem c hcs, hl⟩
theorem cut_all {w : Int × Int} {k : Rat} : ∀ (V : List Pt17) (p : Pt17), lw w p ≤ k → (∀ c ∈ V, lw w c ≤ k) → cutA w k p V = V
  | [], _, _, _ => rfl
  | c :: cs, p, hp, h => by
    have hc := h c List.mem_cons_self
    unfold cutA
    rw [if_pos (by simp [hc, hp]), if_pos hc, cut_all cs c hc fun d hd => h d (List.mem_cons_of_mem _ hd)]
    rfl
theorem kept_mem {w : Int × Int} {k : Rat} : ∀ (V : List Pt17) (p c : Pt17), c ∈ V → lw w c ≤ k → c ∈ cutA w k p V
  | d :: ds, p, c, h, hk => by
    unfold cutA
    rcases List.mem_cons.mp h with rfl | h
    · rw [if_pos hk]; simp
    · exact List.mem_append_right _ (List.mem_append_right _ (kept_mem ds d c h hk))
theorem Ring.cut {w : Int × Int} {k : Rat} {z : Pt17} {Λ : List Ln17} {V : List Pt17} (R : Ring z Λ V) (hz : lw w z < k) (hΛ : (w, k) ∈ Λ) : Ring z Λ (cut w k V) := by
  have some_kept : ∃ c ∈ V, lw w c ≤ k := by
    apply Classical.byContradiction
    intro n
    refine R.not_all (w := w) fun v hv => ?_
    have : ¬ lw w v ≤ k := fun h => n ⟨v, hv, h⟩
    grind
  obtain ⟨c, hc, hk⟩ := some_kept
  have cm : c ∈ MM.cut w k V := kept_mem V _ c hc hk
  have cn : MM.cut w k V ≠ [] := fun e => by rw [e] at cm; exact absurd cm List.not_mem_nil
  have se := cut_end hz hΛ V (lst (0, 0) V) (0, 0) R.ch ⟨c, hc, hk⟩
  rw [lst_ne (lst (0, 0) V) (0, 0) R.nn] at se
  have sc := cut_chain hz hΛ V _ _ R.ch se
  refine ⟨sc.1, ?_⟩
  have lm : lst (0, 0) (MM.cut w k V) ∈ MM.cut w k V := lst_mem _ cn
  have fin : (∃ a ∈ lst (0, 0) (MM.cut w k V) :: MM.cut w k V, ∃ b ∈ MM.cut w k V, 0 < Xz z a b) → NE (MM.cut w k V) := fun ⟨a, ha, b, hb, h⟩ => by
    refine ⟨a, ?_, b, hb, fun e => ?_⟩
    · rcases List.mem_cons.mp ha with e | ha
      · rw [e]; exact lm
      · exact ha
    · rw [e, Xz_self] at h; exact absurd h (by decide)
  by_cases hr : ∃ c ∈ V, k < lw w c
  · by_cases hp : lw w (lst (0, 0) V) ≤ k
    · exact fin (some_strict hz hΛ V _ _ R.ch se hr (by rw [lst_ne (lst (0, 0) V) (0, 0) R.nn]; exact hp))
    · exact fin (entry_strict hz hΛ V _ _ R.ch se (Rat.not_le.mp hp) ⟨c, hc, hk⟩)
  · have all : ∀ c ∈ V, lw w c ≤ k := fun c hc => Rat.not_lt.mp fun h => hr ⟨c, hc, h⟩
    have : MM.cut w k V = V := cut_all V _ (all _ (lst_mem _ R.nn)) all
    rw [this]
    exact R.ne
theorem cut_mem {w : Int × Int} {k : Rat} : ∀ (V : List Pt17) (p v : Pt17), v ∈ cutA w k p V → (v ∈ V ∧ lw w v ≤ k) ∨ ∃ a b, a ∈ p :: V ∧ b ∈ V ∧ ((lw w a ≤ k ∧ k < lw w b) ∨ (lw w b ≤ k ∧ k < lw w a)) ∧ v = crs w k a b ∧ ∀ z Λ, Ch z Λ p V → Lk Λ a b
  | c :: cs, p, v, h => by
    unfold cutA at h
    rcases List.mem_append.mp h with h | h
    · split at h
      · exact absurd h List.not_mem_nil
      · rename_i ne
        rw [List.mem_singleton.mp h]
        refine .inr ⟨p, c, List.mem_cons_self, List.mem_cons_self, ?_, rfl, fun z Λ hc => hc.2.1⟩
        by_cases h1 : lw w c ≤ k
        · by_cases h2 : lw w p ≤ k
          · exact absurd (by simp [h1, h2]) ne
          · exact .inr ⟨h1, Rat.not_le.mp h2⟩
        · by_cases h2 : lw w p ≤ k
          · exact .inl ⟨h2, Rat.not_le.mp h1⟩
          · exact absurd (by simp [h1, h2]) ne
    · rcases List.mem_append.mp h with h | h
      · split at h
        · rename_i hk
          rw [List.mem_singleton.mp h]
          exact .inl ⟨List.mem_cons_self, hk⟩
        · exact absurd h List.not_mem_nil
      · rcases cut_mem cs c v h with ⟨h1, h2⟩ | ⟨a, b, h1, h2, h3, h4, h5⟩
        · exact .inl ⟨List.mem_cons_of_mem _ h1, h2⟩
        · exact .inr ⟨a, b, List.mem_cons_of_mem _ h1, List.mem_cons_of_mem _ h2, h3, h4, fun z Λ hc => h5 z Λ hc.2.2⟩
theorem crs_le {w w' : Int × Int} {k k' : Rat} {a b : Pt17} (h : (lw w a ≤ k ∧ k < lw w b) ∨ (lw w b ≤ k ∧ k < lw w a)) (ha : lw w' a ≤ k') (hb : lw w' b ≤ k') : lw w' (crs w k a b) ≤ k' ∧ lw w (crs w k a b) = k := by
  obtain ⟨t, t0, t1, e, ek⟩ := crs_mean h
  rw [e, lw_mean, lw_mean]
  refine ⟨?_, ek⟩
  have e1 := Rat.mul_le_mul_of_nonneg_right ha (show 0 ≤ 1 - t by grind)
  have e2 := Rat.mul_le_mul_of_nonneg_right hb t0
  grind
theorem crs_lines {w w' : Int × Int} {k κ : Rat} {a b : Pt17} (h : (lw w a ≤ k ∧ k < lw w b) ∨ (lw w b ≤ k ∧ k < lw w a)) (hw : w' ≠ (0, 0)) (ha : lw w' a = κ) (hb : lw w' b = κ) : w'.1 * w.2 - w'.2 * w.1 ≠ 0 ∧ lw w' (crs w k a b) = κ := by
  obtain ⟨t, t0, t1, e, ek⟩ := crs_mean h
  refine ⟨fun d => ?_, by rw [e, lw_mean, ha, hb]; grind⟩
  have n : lw w b - lw w a ≠ 0 := by grind
  have dR : (w'.1 : Rat) * (w.2 : Rat) - (w'.2 : Rat) * (w.1 : Rat) = 0 := by
    rw [← Rat.intCast_mul, ← Rat.intCast_mul, ← Rat.intCast_sub, d]; rfl
  have z1 : (w'.1 : Rat) * (lw w b - lw w a) = 0 := by unfold lw at *; grind
  have z2 : (w'.2 : Rat) * (lw w b - lw w a) = 0 := by unfold lw at *; grind
  have c1 : (w'.1 : Rat) = 0 := (Rat.mul_eq_zero.mp z1).elim id fun q => absurd q n
  have c2 : (w'.2 : Rat) = 0 := (Rat.mul_eq_zero.mp z2).elim id fun q => absurd q n
  apply hw
  ext
  · exact Rat.intCast_inj.mp (show ((w'.1 : Int) : Rat) = ((0 : Int) : Rat) from c1)
  · exact Rat.intCast_inj.mp (show ((w'.2 : Int) : Rat) = ((0 : Int) : Rat) from c2)
theorem cut_len {w : Int × Int} {k : Rat} : ∀ (V : List Pt17) (p : Pt17), (cutA w k p V).length ≤ 2 * V.length
  | [], _ => Nat.le_refl _
  | c :: cs, p => by
    unfold cutA
    rw [List.length_append, List.length_append, List.length_cons]
    have := cut_len (w := w) (k := k) cs c
    have h1 : (if decide (lw w c ≤ k) = decide (lw w p ≤ k) then ([] : List Pt17) else [crs w k p c]).length ≤ 1 := by split <;> simp
    have h2 : (if lw w c ≤ k then [c] else ([] : List Pt17)).length ≤ 1 := by split <;> simp
    omega
def sX (V : List Pt17) : Rat := V.foldr (fun v s => v.1 + s) 0
def sY (V : List Pt17) : Rat := V.foldr (fun v s => v.2 + s) 0
theorem sum_lw {w : Int × Int} {k : Rat} : ∀ (V : List Pt17), (∀ v ∈ V, lw w v ≤ k) → (w.1 : Rat) * sX V + (w.2 : Rat) * sY V ≤ ((V.length : Int) : Rat) * k ∧ ((∃ v ∈ V, lw w v < k) → (w.1 : Rat) * sX V + (w.2 : Rat) * sY V < ((V.length : Int) : Rat) * k)
  | [], _ => ⟨by show (w.1 : Rat) * 0 + (w.2 : Rat) * 0 ≤ 0 * k; grind, fun ⟨v, hv, _⟩ => absurd hv List.not_mem_nil⟩
  | v :: V, h => by
    obtain ⟨i1, i2⟩ := sum_lw V fun x hx => h x (List.mem_cons_of_mem _ hx)
    have hv := h v List.mem_cons_self
    have e1 : sX (v :: V) = v.1 + sX V := rfl
    have e2 : sY (v :: V) = v.2 + sY V := rfl
    have el : (((v :: V).length : Int) : Rat) = ((V.length : Int) : Rat) + 1 := by
      rw [List.length_cons, Int.natCast_add, Rat.intCast_add]; rfl
    rw [e1, e2, el]
    unfold lw at hv
    refine ⟨by grind, fun ⟨x, hx, hl⟩ => ?_⟩
    rcases List.mem_cons.mp hx with rfl | hx
    · unfold lw at hl; grind
    · have := i2 ⟨x, hx, hl⟩
      grind
theorem Ring.mean {w : Int × Int} {k : Rat} {z : Pt17} {Λ : List Ln17} {V : List Pt17} (R : Ring z Λ V) (hz : lw w z < k) (h : ∀ v ∈ V, lw w v ≤ k) : lw w (sX V * (1 / ((V.length : Int) : Rat)), sY V * (1 / ((V.length : Int) : Rat))) < k := by
  have ex : ∃ v ∈ V, lw w v < k := by
    apply Classical.byContradiction
    intro n
    refine R.not_all (w := w) fun v hv => ?_
    have h1 := h v hv
    have h2 : ¬ lw w v < k := fun q => n ⟨v, hv, q⟩
    grind
  have s := (sum_lw V h).2 ex
  have lp : 0 < V.length := List.length_pos_iff.mpr R.nn
  have l0 : (0 : Rat) < ((V.length : Int) : Rat) := Rat.intCast_pos.mpr (by omega)
  have e : ((V.length : Int) : Rat) * (1 / ((V.length : Int) : Rat)) = 1 := by
    rw [Rat.div_def, Rat.one_mul]; exact Rat.mul_inv_cancel _ (by grind)
  unfold lw
  dsimp only
  have i0 : (0 : Rat) < 1 / ((V.length : Int) : Rat) := by rw [Rat.div_def, Rat.one_mul]; exact Rat.inv_pos.mpr l0
  generalize ((V.length : Int) : Rat) = n at *
  generalize 1 / n = i at *
  have m := Rat.mul_lt_mul_of_pos_right s i0
  have f1 : n * k * i = k := by
    have : n * k * i = k * (n * i) := by grind
    rw [this, e, Rat.mul_one]
  rw [f1] at m
  have f2 : ((w.1 : Rat) * sX V + (w.2 : Rat) * sY V) * i = (w.1 : Rat) * (sX V * i) + (w.2 : Rat) * (sY V * i) := by grind
  rw [f2] at m
  exact m
theorem bls_all {α : Type} (xs : List α) (p : α → Bool) : blsD (xs.map fun x => .bl (p x)) = some (xs.map p) := by
  induction xs with
  | nil => rfl
  | cons x xs ih => simp [blsD, ih]
theorem sw_small {qs : List (Int × Int)} {w : Int × Int} (C : Cvx qs) (hp : ∀ q ∈ qs, Ptb q) (h : w ∈ sw qs) : w.1.natAbs < 2 ^ 22 ∧ w.2.natAbs < 2 ^ 22 := by
  obtain ⟨i, hi, rfl⟩ := List.mem_map.mp h
  have hi := List.mem_range.mp hi
  have hm : (i + 1) % qs.length < qs.length := Nat.mod_lt _ (by omega)
  have a := hp _ (List.mem_of_getElem? (q0_at hi))
  have b := hp _ (List.mem_of_getElem? (q0_at hm))
  exact nw_sz (side_ne (C.ne hi)) (sub_small b.2 a.2) (sub_small a.1 b.1)
def Ins (qs : List (Int × Int)) (x y : Rat) : Prop := ∀ w ∈ sw qs, dq w x y < ((rz w qs : Int) : Rat)
theorem ins_any {qs : List (Int × Int)} (C : Cvx qs) {x y : Rat} (h : Ins qs x y) {u : Int × Int} (hu : u ≠ (0, 0)) : dq u x y < ((rz u qs : Int) : Rat) := by
  obtain ⟨a, N1, N2, ha, w1, w2, b1, b2, cn, u1, u2, bu⟩ := C.cone u
  have i1 := h N1 w1
  have i2 := h N2 w2
  rw [best_rz ha b1] at i1
  rw [best_rz ha b2] at i2
  rw [best_rz ha bu]
  have id : ((cx N1 N2 : Int) : Rat) * dq u x y = ((cx u N2 : Int) : Rat) * dq N1 x y + ((cx N1 u : Int) : Rat) * dq N2 x y := by
    unfold cx dq
    simp only [Rat.intCast_sub, Rat.intCast_mul]
    generalize (N1.1 : Rat) = p at *
    generalize (N1.2 : Rat) = q at *
    generalize (N2.1 : Rat) = r at *
    generalize (N2.2 : Rat) = s at *
    generalize (u.1 : Rat) = m at *
    generalize (u.2 : Rat) = n at *
    grind
  have ih : cx N1 N2 * hw u a = cx u N2 * hw N1 a + cx N1 u * hw N2 a := by unfold cx hw; grind
  have ihr : ((cx N1 N2 : Int) : Rat) * ((hw u a : Int) : Rat) = ((cx u N2 : Int) : Rat) * ((hw N1 a : Int) : Rat) + ((cx N1 u : Int) : Rat) * ((hw N2 a : Int) : Rat) := by
    rw [← Rat.intCast_mul, ← Rat.intCast_mul, ← Rat.intCast_mul, ← Rat.intCast_add, ih]
  have nz : 0 < cx u N2 ∨ 0 < cx N1 u := by
    apply Classical.byContradiction
    intro z
    have z1 : cx u N2 = 0 := by omega
    have z2 : cx N1 u = 0 := by omega
    have e1 : cx N1 N2 * u.1 = cx u N2 * N1.1 + cx N1 u * N2.1 := by unfold cx; grind
    have e2 : cx N1 N2 * u.2 = cx u N2 * N1.2 + cx N1 u * N2.2 := by unfold cx; grind
    rw [z1, z2, Int.zero_mul, Int.zero_mul, Int.add_zero] at e1 e2
    exact hu (Prod.ext ((Int.mul_eq_zero.mp e1).resolve_left (by omega)) ((Int.mul_eq_zero.mp e2).resolve_left (by omega)))
  have K0 : 0 < ((cx N1 N2 : Int) : Rat) := Rat.intCast_pos.mpr cn
  have A0 : 0 ≤ ((cx u N2 : Int) : Rat) := Rat.intCast_nonneg.mpr u2
  have B0 : 0 ≤ ((cx N1 u : Int) : Rat) := Rat.intCast_nonneg.mpr u1
  have AB : 0 < ((cx u N2 : Int) : Rat) ∨ 0 < ((cx N1 u : Int) : Rat) := nz.imp Rat.intCast_pos.mpr Rat.intCast_pos.mpr
  clear ih nz
  generalize ((cx N1 N2 : Int) : Rat) = K at *
  generalize ((cx u N2 : Int) : Rat) = al at *
  generalize ((cx N1 u : Int) : Rat) = be at *
  generalize dq u x y = du at *
  generalize dq N1 x y = d1 at *
  generalize dq N2 x y = d2 at *
  generalize ((hw u a : Int) : Rat) = hu' at *
  generalize ((hw N1 a : Int) : Rat) = h1 at *
  generalize ((hw N2 a : Int) : Rat) = h2 at *
  apply Classical.byContradiction
  intro z
  have p0 := Rat.mul_nonneg (Rat.le_of_lt K0) (show 0 ≤ du - hu' by have := Rat.not_lt.mp z; grind)
  have p1 := Rat.mul_nonneg A0 (show 0 ≤ h1 - d1 by grind)
  have p2 := Rat.mul_nonneg B0 (show 0 ≤ h2 - d2 by grind)
  rcases AB with q | q
  · have := Rat.mul_pos q (show 0 < h1 - d1 by grind)
    grind
  · have := Rat.mul_pos q (show 0 < h2 - d2 by grind)
    grind
theorem is_whole_ok {d : D} (h : (tyN d).isSome = true) : m_is_whole [d] () = .ok (.bl (isWh d)) () := by
  obtain ⟨a, b, h1, h2, h3⟩ := isi_int h
  apply oE_eq
  unfold m_is_whole b_is_whole
  simp [Nxt, fIsi, h1, h2]
  cases a <;> cases b <;> simp_all
def Sm17 (w : Int × Int) : Prop := w.1.natAbs ≤ 2 ^ 22 ∧ w.2.natAbs ≤ 2 ^ 22
theorem det_le {w' w : Int × Int} (h' : Sm17 w') (h : Sm17 w) : (w'.1 * w.2 - w'.2 * w.1).natAbs ≤ 2 ^ 45 := by
  have a := Nat.mul_le_mul h'.1 h.2
  have b := Nat.mul_le_mul h'.2 h.1
  rw [← Int.natAbs_mul] at a b
  have e : (2 : Nat) ^ 45 = 2 ^ 22 * 2 ^ 22 + 2 ^ 22 * 2 ^ 22 := by decide
  omega
structure Cl (z : Pt17) (D : Nat) (K : Rat) (Λ : List Ln17) (E : Nat) (V : List Pt17) : Prop where
  ring : Ring z Λ V
  ln : ∀ l ∈ Λ, l.1 ≠ (0, 0) ∧ Sm17 l.1 ∧ Dv D l.2
  pt : ∀ v ∈ V, ∃ e : Nat, 0 < e ∧ e ≤ 2 ^ 45 ∧ Dv (e * D) v.1 ∧ Dv (e * D) v.2
  en : ∀ v ∈ V, Dv E v.1 ∧ Dv E v.2
  de : D ∣ E
  mag : ∀ v ∈ V, -K ≤ v.1 ∧ v.1 ≤ K ∧ -K ≤ v.2 ∧ v.2 ≤ K
  hs : ∀ l ∈ Λ, ∀ v ∈ V, lw l.1 v ≤ l.2
theorem Ch.mono {z : Pt17} {Λ Λ' : List Ln17} (h : ∀ l ∈ Λ, l ∈ Λ') : ∀ {V : List Pt17} {p : Pt17}, Ch z Λ p V → Ch z Λ' p V
  | [], _, _ => trivial
  | _ :: _, _, ⟨h1, ⟨l, hl, e⟩, h3⟩ => ⟨h1, ⟨l, h l hl, e⟩, h3.mono h⟩
theorem Ring.mono {z : Pt17} {Λ Λ' : List Ln17} {V : List Pt17} (R : Ring z Λ V) (h : ∀ l ∈ Λ, l ∈ Λ') : Ring z Λ' V := ⟨R.ch.mono h, R.ne⟩
theorem on_two {w' w : Int × Int} {κ k : Rat} {v : Pt17} {D : Nat} (h1 : lw w' v = κ) (h2 : lw w v = k) (d1 : Dv D κ) (d2 : Dv D k) : Dv ((w'.1 * w.2 - w'.2 * w.1).natAbs * D) v.1 ∧ Dv ((w'.1 * w.2 - w'.2 * w.1).natAbs * D) v.2 := by
  obtain ⟨x, ex⟩ := d1
  obtain ⟨y, ey⟩ := d2
  have eT : ((w'.1 * w.2 - w'.2 * w.1 : Int) : Rat) = (w'.1 : Rat) * (w.2 : Rat) - (w'.2 : Rat) * (w.1 : Rat) := by rw [Rat.intCast_sub, Rat.intCast_mul, Rat.intCast_mul]
  have sg : ∀ {r : Rat} {i d : Int}, (i : Rat) = ((d : Int) : Rat) * (((D : Int) : Rat) * r) → Dv (d.natAbs * D) r := fun {r i d} h => by
    have c : ((((d.natAbs * D : Nat)) : Int) : Rat) = ((d.natAbs : Int) : Rat) * ((D : Int) : Rat) := by rw [← Rat.intCast_mul]; rfl
    rcases Int.natAbs_eq d with e | e
    · refine ⟨i, ?_⟩
      rw [c, ← e, h]; grind
    · refine ⟨-i, ?_⟩
      have e' : ((d.natAbs : Int) : Rat) = -((d : Int) : Rat) := by rw [← Rat.intCast_neg]; congr 1; omega
      rw [c, e', Rat.intCast_neg, h]; grind
  unfold lw at h1 h2
  constructor
  · refine sg (i := x * w.2 - y * w'.2) ?_
    rw [eT, Rat.intCast_sub, Rat.intCast_mul, Rat.intCast_mul, ex, ey, ← h1, ← h2]
    grind
  · refine sg (i := y * w'.1 - x * w.1) ?_
    rw [eT, Rat.intCast_sub, Rat.intCast_mul, Rat.intCast_mul, ex, ey, ← h1, ← h2]
    grind
theorem cut_le {w w' : Int × Int} {k k' : Rat} {V : List Pt17} (nn : V ≠ []) (h : ∀ v ∈ V, lw w' v ≤ k') : ∀ v ∈ cut w k V, lw w' v ≤ k' ∧ lw w v ≤ k := fun v hv => by
  rcases cut_mem V _ v hv with ⟨h1, h2⟩ | ⟨a, b, h1, h2, h3, rfl, _⟩
  · exact ⟨h v h1, h2⟩
  · have ha : a ∈ V := by
      rcases List.mem_cons.mp h1 with e | h1
      · rw [e]; exact lst_mem _ nn
      · exact h1
    have := crs_le h3 (h a ha) (h b h2)
    exact ⟨this.1, by rw [this.2]; exact Rat.le_refl⟩
def Px17 (Λ : List Ln17) (w : Int × Int) (k : Rat) (v : Pt17) : Prop := ∃ l ∈ Λ, l.1.1 * w.2 - l.1.2 * w.1 ≠ 0 ∧ lw l.1 v = l.2 ∧ lw w v = k
def sW (w : Int × Int) (v : Pt17) : Rat := (w.1 : Rat) * v.2 - (w.2 : Rat) * v.1
theorem det_same {w' w : Int × Int} {κ k : Rat} {x y : Pt17} (hd : w'.1 * w.2 - w'.2 * w.1 ≠ 0) (h1 : lw w' x = κ) (h2 : lw w' y = κ) (h3 : lw w x = k) (h4 : lw w y = k) : x = y := by
  have dR : (w'.1 : Rat) * (w.2 : Rat) - (w'.2 : Rat) * (w.1 : Rat) ≠ 0 := fun z => hd (by
    apply Rat.intCast_inj.mp
    rw [Rat.intCast_sub, Rat.intCast_mul, Rat.intCast_mul, z]; rfl)
  unfold lw at *
  have e1 : ((w'.1 : Rat) * (w.2 : Rat) - (w'.2 : Rat) * (w.1 : Rat)) * (x.1 - y.1) = 0 := by grind
  have e2 : ((w'.1 : Rat) * (w.2 : Rat) - (w'.2 : Rat) * (w.1 : Rat)) * (x.2 - y.2) = 0 := by grind
  have f1 := (Rat.mul_eq_zero.mp e1).resolve_left dR
  have f2 := (Rat.mul_eq_zero.mp e2).resolve_left dR
  ext
  · grind
  · grind
theorem sW_inj {w : Int × Int} (hw : w ≠ (0, 0)) {k : Rat} {x y : Pt17} (h1 : lw w x = k) (h2 : lw w y = k) (h : sW w x = sW w y) : x = y := by
  have n : 0 < (w.1 : Rat) * w.1 + (w.2 : Rat) * w.2 := by
    have sq : ∀ r : Rat, 0 ≤ r * r := fun r => by
      by_cases h : 0 ≤ r
      · exact Rat.mul_nonneg h h
      · have := Rat.mul_nonneg (show 0 ≤ -r by grind) (show 0 ≤ -r by grind)
        grind
    have a := sq (w.1 : Rat)
    have b := sq (w.2 : Rat)
    apply Classical.byContradiction
    intro z
    have z1 : (w.1 : Rat) * w.1 = 0 := by grind
    have z2 : (w.2 : Rat) * w.2 = 0 := by grind
    apply hw
    ext
    · exact Rat.intCast_inj.mp (show ((w.1 : Int) : Rat) = ((0 : Int) : Rat) from (Rat.mul_eq_zero.mp z1).elim id id)
    · exact Rat.intCast_inj.mp (show ((w.2 : Int) : Rat) = ((0 : Int) : Rat) from (Rat.mul_eq_zero.mp z2).elim id id)
  unfold lw sW at *
  have e1 : ((w.1 : Rat) * w.1 + (w.2 : Rat) * w.2) * (x.1 - y.1) = 0 := by grind
  have e2 : ((w.1 : Rat) * w.1 + (w.2 : Rat) * w.2) * (x.2 - y.2) = 0 := by grind
  have f1 := (Rat.mul_eq_zero.mp e1).resolve_left (by grind)
  have f2 := (Rat.mul_eq_zero.mp e2).resolve_left (by grind)
  ext
  · grind
  · grind
theorem no_mid {Λ : List Ln17} {w : Int × Int} {k : Rat} {x y z : Pt17} (hw : w ≠ (0, 0)) (px : lw w x = k) (py : Px17 Λ w k y) (pz : lw w z = k) (hx : ∀ l ∈ Λ, lw l.1 x ≤ l.2) (hz : ∀ l ∈ Λ, lw l.1 z ≤ l.2) (h1 : sW w x < sW w y) (h2 : sW w y < sW w z) : False := by
  obtain ⟨l, hl, hd, e1, e2⟩ := py
  have a := hx l hl
  have b := hz l hl
  have id : (sW w z - sW w x) * lw l.1 y = (sW w z - sW w y) * lw l.1 x + (sW w y - sW w x) * lw l.1 z := by
    have n : 0 < (w.1 : Rat) * w.1 + (w.2 : Rat) * w.2 := by
      apply Classical.byContradiction
      intro q
      have sq : ∀ r : Rat, 0 ≤ r * r := fun r => by
        by_cases h : 0 ≤ r
        · exact Rat.mul_nonneg h h
        · have := Rat.mul_nonneg (show 0 ≤ -r by grind) (show 0 ≤ -r by grind)
          grind
      have a := sq (w.1 : Rat)
      have b := sq (w.2 : Rat)
      have z1 : (w.1 : Rat) * w.1 = 0 := by grind
      have z2 : (w.2 : Rat) * w.2 = 0 := by grind
      apply hw
      ext
      · exact Rat.intCast_inj.mp (show ((w.1 : Int) : Rat) = ((0 : Int) : Rat) from (Rat.mul_eq_zero.mp z1).elim id id)
      · exact Rat.intCast_inj.mp (show ((w.2 : Int) : Rat) = ((0 : Int) : Rat) from (Rat.mul_eq_zero.mp z2).elim id id)
    have key : ∀ v : Pt17, lw w v = k → ((w.1 : Rat) * w.1 + (w.2 : Rat) * w.2) * lw l.1 v = ((l.1.1 : Rat) * w.1 + (l.1.2 : Rat) * w.2) * k + ((l.1.2 : Rat) * w.1 - (l.1.1 : Rat) * w.2) * sW w v := fun v hv => by
      rw [← hv]; unfold lw sW; grind
    have k1 := key x px
    have k2 := key y e2
    have k3 := key z pz
    generalize (w.1 : Rat) * w.1 + (w.2 : Rat) * w.2 = N at *
    generalize lw l.1 x = A at *
    generalize lw l.1 y = B at *
    generalize lw l.1 z = C at *
    generalize sW w x = p at *
    generalize sW w y = q at *
    generalize sW w z = r at *
    have : N * ((r - p) * B - ((r - q) * A + (q - p) * C)) = 0 := by grind
    have := (Rat.mul_eq_zero.mp this).resolve_left (by grind)
    grind
  have p1 := Rat.mul_le_mul_of_nonneg_left a (show 0 ≤ sW w z - sW w y by grind)
  have p2 := Rat.mul_le_mul_of_nonneg_left b (show 0 ≤ sW w y - sW w x by grind)
  have ex : lw l.1 x = l.2 := by
    apply Classical.byContradiction
    intro ne
    have lt : lw l.1 x < l.2 := by grind
    have := Rat.mul_lt_mul_of_pos_left lt (show 0 < sW w z - sW w y by grind)
    rw [e1] at id
    grind
  have eq := det_same hd ex e1 px e2
  rw [eq] at h1
  grind
theorem two_only {Λ : List Ln17} {w : Int × Int} {k : Rat} {x y z : Pt17} (hw : w ≠ (0, 0)) (px : Px17 Λ w k x) (py : Px17 Λ w k y) (pz : Px17 Λ w k z) (hx : ∀ l ∈ Λ, lw l.1 x ≤ l.2) (hy : ∀ l ∈ Λ, lw l.1 y ≤ l.2) (hz : ∀ l ∈ Λ, lw l.1 z ≤ l.2) (ne : x ≠ y) : z = x ∨ z = y := by
  have on : ∀ {v}, Px17 Λ w k v → lw w v = k := fun ⟨_, _, _, _, h⟩ => h
  apply Classical.byContradiction
  intro q
  have n1 : z ≠ x := fun e => q (.inl e)
  have n2 : z ≠ y := fun e => q (.inr e)
  have s1 : sW w x ≠ sW w y := fun e => ne (sW_inj hw (on px) (on py) e)
  have s2 : sW w z ≠ sW w x := fun e => n1 (sW_inj hw (on pz) (on px) e)
  have s3 : sW w z ≠ sW w y := fun e => n2 (sW_inj hw (on pz) (on py) e)
  by_cases a : sW w x < sW w y
  · by_cases b : sW w z < sW w x
    · exact no_mid hw (on pz) px (on py) hz hy b a
    · by_cases c : sW w z < sW w y
      · exact no_mid hw (on px) pz (on py) hx hy (by grind) c
      · exact no_mid hw (on px) py (on pz) hx hz a (by grind)
  · have a' : sW w y < sW w x := by grind
    by_cases b : sW w z < sW w y
    · exact no_mid hw (on pz) py (on px) hz hx b a'
    · by_cases c : sW w z < sW w x
      · exact no_mid hw (on py) pz (on px) hy hx (by grind) c
      · exact no_mid hw (on py) px (on pz) hy hz a' (by grind)
theorem Cl.cut {z : Pt17} {D : Nat} {K : Rat} {Λ : List Ln17} {E : Nat} {V : List Pt17} {w : Int × Int} {k : Rat} (C : Cl z D K Λ E V) (hz : lw w z < k) (hw : w ≠ (0, 0)) (hs : Sm17 w) (hk : Dv D k) : ∃ m : Nat, 0 < m ∧ m ≤ 2 ^ 90 ∧ Cl z D K ((w, k) :: Λ) (E * m) (cut w k V) := by
  have nn := C.ring.nn
  have key : ∀ v ∈ MM.cut w k V, v ∈ V ∨ Px17 Λ w k v := fun v hv => by
    rcases cut_mem V _ v hv with ⟨h1, _⟩ | ⟨a, b, h1, h2, h3, rfl, h5⟩
    · exact .inl h1
    · obtain ⟨l, hl, e1, e2⟩ := h5 z Λ C.ring.ch
      have c := crs_lines h3 (C.ln l hl).1 e1 e2
      exact .inr ⟨l, hl, c.1, c.2, (crs_le h3 (Rat.le_refl (a := lw w a) |> fun _ => show lw (0, 0) a ≤ 0 by unfold lw; grind) (show lw (0, 0) b ≤ 0 by unfold lw; grind)).2⟩
  have inl : ∀ v ∈ MM.cut w k V, ∀ l ∈ Λ, lw l.1 v ≤ l.2 := fun v hv l hl => (cut_le nn (C.hs l hl) v hv).1
  have dvp : ∀ v, Px17 Λ w k v → ∃ e : Nat, 0 < e ∧ e ≤ 2 ^ 45 ∧ Dv (e * D) v.1 ∧ Dv (e * D) v.2 := fun v ⟨l, hl, h1, h2, h3⟩ => by
    obtain ⟨l1, l2, l3⟩ := C.ln l hl
    exact ⟨_, by omega, det_le l2 hs, on_two h2 h3 l3 hk⟩
  have common : ∃ m : Nat, 0 < m ∧ m ≤ 2 ^ 90 ∧ ∀ v ∈ MM.cut w k V, Px17 Λ w k v → Dv (m * D) v.1 ∧ Dv (m * D) v.2 := by
    by_cases h0 : ∃ x ∈ MM.cut w k V, Px17 Λ w k x
    · obtain ⟨x, hx, px⟩ := h0
      obtain ⟨e, e0, e1, e2, e3⟩ := dvp x px
      by_cases h1 : ∃ y ∈ MM.cut w k V, Px17 Λ w k y ∧ x ≠ y
      · obtain ⟨y, hy, py, ne⟩ := h1
        obtain ⟨f, f0, f1, f2, f3⟩ := dvp y py
        have d1 : e * D ∣ e * f * D := ⟨f, by rw [Nat.mul_right_comm]⟩
        have d2 : f * D ∣ e * f * D := ⟨e, by rw [Nat.mul_assoc, Nat.mul_comm]⟩
        refine ⟨e * f, Nat.mul_pos e0 f0, by have := Nat.mul_le_mul e1 f1; rw [show (2 : Nat) ^ 90 = 2 ^ 45 * 2 ^ 45 from rfl]; exact this, fun v hv pv => ?_⟩
        rcases two_only hw px py pv (inl x hx) (inl y hy) (inl v hv) ne with rfl | rfl
        · exact ⟨e2.mono d1, e3.mono d1⟩
        · exact ⟨f2.mono d2, f3.mono d2⟩
      · refine ⟨e, e0, Nat.le_trans e1 (by decide), fun v hv pv => ?_⟩
        have : x = v := Classical.byContradiction fun ne => h1 ⟨v, hv, pv, ne⟩
        rw [← this]
        exact ⟨e2, e3⟩
    · exact ⟨1, by decide, by decide, fun v hv pv => absurd ⟨v, hv, pv⟩ h0⟩
  obtain ⟨m, m0, m1, hm⟩ := common
  have ev : E ∣ E * m := ⟨_, rfl⟩
  refine ⟨m, m0, m1, (C.ring.mono fun l hl => List.mem_cons_of_mem _ hl).cut hz List.mem_cons_self, fun l hl => ?_, fun v hv => ?_, fun v hv => ?_, Nat.dvd_trans C.de ev, fun v hv => ?_, fun l hl v hv => ?_⟩
  · rcases List.mem_cons.mp hl with rfl | hl
    · exact ⟨hw, hs, hk⟩
    · exact C.ln l hl
  · rcases key v hv with h | h
    · exact C.pt v h
    · exact dvp v h
  · rcases key v hv with h | h
    · exact ⟨(C.en v h).1.mono ev, (C.en v h).2.mono ev⟩
    · have o := hm v hv h
      have dv : m * D ∣ E * m := by rw [Nat.mul_comm]; exact Nat.mul_dvd_mul_right C.de m
      exact ⟨o.1.mono dv, o.2.mono dv⟩
  · have e1 : ∀ v : Pt17, lw (1, 0) v = v.1 := fun v => by unfold lw; show ((1 : Int) : Rat) * v.1 + ((0 : Int) : Rat) * v.2 = v.1; rw [show ((1 : Int) : Rat) = 1 from rfl, show ((0 : Int) : Rat) = 0 from rfl]; grind
    have e2 : ∀ v : Pt17, lw (-1, 0) v = -v.1 := fun v => by unfold lw; show ((-1 : Int) : Rat) * v.1 + ((0 : Int) : Rat) * v.2 = -v.1; rw [show ((-1 : Int) : Rat) = -1 from rfl, show ((0 : Int) : Rat) = 0 from rfl]; grind
    have e3 : ∀ v : Pt17, lw (0, 1) v = v.2 := fun v => by unfold lw; show ((0 : Int) : Rat) * v.1 + ((1 : Int) : Rat) * v.2 = v.2; rw [show ((1 : Int) : Rat) = 1 from rfl, show ((0 : Int) : Rat) = 0 from rfl]; grind
    have e4 : ∀ v : Pt17, lw (0, -1) v = -v.2 := fun v => by unfold lw; show ((0 : Int) : Rat) * v.1 + ((-1 : Int) : Rat) * v.2 = -v.2; rw [show ((-1 : Int) : Rat) = -1 from rfl, show ((0 : Int) : Rat) = 0 from rfl]; grind
    have a1 := (cut_le (w := w) (k := k) (w' := (1, 0)) (k' := K) nn (fun v hv => by rw [e1]; exact (C.mag v hv).2.1) v hv).1
    have a2 := (cut_le (w := w) (k := k) (w' := (-1, 0)) (k' := K) nn (fun v hv => by rw [e2]; have := (C.mag v hv).1; grind) v hv).1
    have a3 := (cut_le (w := w) (k := k) (w' := (0, 1)) (k' := K) nn (fun v hv => by rw [e3]; exact (C.mag v hv).2.2.2) v hv).1
    have a4 := (cut_le (w := w) (k := k) (w' := (0, -1)) (k' := K) nn (fun v hv => by rw [e4]; have := (C.mag v hv).2.2.1; grind) v hv).1
    rw [e1] at a1
    rw [e2] at a2
    rw [e3] at a3
    rw [e4] at a4
    refine ⟨by grind, a1, by grind, a3⟩
  · rcases List.mem_cons.mp hl with rfl | hl
    · exact (cut_le (w' := (0, 0)) (k' := 0) nn (fun v _ => by unfold lw; show ((0 : Int) : Rat) * v.1 + ((0 : Int) : Rat) * v.2 ≤ 0; rw [show ((0 : Int) : Rat) = 0 from rfl]; grind) v hv).2
    · exact inl v hv l hl
def Rl17 (z : Pt17) (Λ : List Ln17) (a b : Pt17) : Prop := (a = b ∨ 0 < Xz z a b) ∧ Lk Λ a b
theorem ch_idx {z : Pt17} {Λ : List Ln17} : ∀ (V : List Pt17) (p : Pt17), (∀ i (h : i < V.length), Rl17 z Λ ((p :: V)[i]'(by simp; omega)) V[i]) → Ch z Λ p V
  | [], _, _ => trivial
  | c :: cs, p, h => by
    have h0 := h 0 (by simp)
    exact ⟨h0.1, h0.2, ch_idx cs c fun i hi => h (i + 1) (by simp; omega)⟩
theorem lst_last (p : Pt17) : ∀ {V : List Pt17} (h : V ≠ []), lst p V = V[V.length - 1]'(by have := List.length_pos_iff.mpr h; omega)
  | [x], _ => rfl
  | x :: y :: V, _ => by
    show lst x (y :: V) = _
    rw [lst_last x (V := y :: V) (by simp)]
    simp
def mvP (P : Pt17) (q : Int × Int) : Pt17 := (P.1 + ((q.1 : Int) : Rat), P.2 + ((q.2 : Int) : Rat))
theorem lw_mv (w : Int × Int) (P : Pt17) (q : Int × Int) : lw w (mvP P q) = lw w P + ((hw w q : Int) : Rat) := by
  rw [hw_cast]; unfold lw mvP; grind
def lnO (qs : List (Int × Int)) (P : Pt17) (w : Int × Int) : Rat := ((rz w qs : Int) : Rat) + lw w P
theorem side_rl {qs : List (Int × Int)} {P : Pt17} {x y : Rat} (C : Cvx qs) (h : ∀ w ∈ sw qs, dq w x y < (rz w qs : Int)) {j : Nat} (hj : j < qs.length) :
    Rl17 (P.1 + x, P.2 + y) ((sw qs).map fun w => (w, lnO qs P w)) (mvP P (q0 qs j)) (mvP P (q0 qs ((j + 1) % qs.length))) := by
  have hn : (j + 1) % qs.length < qs.length := Nat.mod_lt _ (by omega)
  have mw : sideway (q0 qs j) (q0 qs ((j + 1) % qs.length)) ∈ sw qs := List.mem_of_getElem? (sw_at hj)
  have mj : q0 qs j ∈ qs := List.mem_of_getElem? (q0_at hj)
  have hz := h _ mw
  have fe := C.far_eq hj
  have br : rz (sideway (q0 qs j) (q0 qs ((j + 1) % qs.length))) qs = hw (sideway (q0 qs j) (q0 qs ((j + 1) % qs.length))) (q0 qs j) := best_rz mj fun v hv => by
    obtain ⟨k, hk, rfl⟩ := List.getElem_of_mem hv
    have e : qs[k] = q0 qs k := by
      have := q0_at hk
      rw [List.getElem?_eq_getElem hk] at this
      exact Option.some.inj this
    rw [e]
    exact C.far_le hj hk
  have ne := C.ne hj
  obtain ⟨g, g0, _, x1, y1⟩ := nw_mul (side_ne ne)
  refine ⟨.inr ?_, ⟨_, List.mem_map.mpr ⟨_, mw, rfl⟩, ?_, ?_⟩⟩
  · have ew : sideway (q0 qs j) (q0 qs ((j + 1) % qs.length)) = nw ((q0 qs ((j + 1) % qs.length)).2 - (q0 qs j).2) ((q0 qs j).1 - (q0 qs ((j + 1) % qs.length)).1) := rfl
    rw [br, hw_cast] at hz
    rw [ew] at hz
    generalize nw ((q0 qs ((j + 1) % qs.length)).2 - (q0 qs j).2) ((q0 qs j).1 - (q0 qs ((j + 1) % qs.length)).1) = w at *
    generalize q0 qs ((j + 1) % qs.length) = b at *
    generalize q0 qs j = a at *
    have gR : (0 : Rat) < (g : Rat) := Rat.intCast_pos.mpr g0
    have X1 : ((b.2 : Int) : Rat) - ((a.2 : Int) : Rat) = (g : Rat) * (w.1 : Rat) := by rw [← Rat.intCast_sub, x1, Rat.intCast_mul]
    have Y1 : ((a.1 : Int) : Rat) - ((b.1 : Int) : Rat) = (g : Rat) * (w.2 : Rat) := by rw [← Rat.intCast_sub, y1, Rat.intCast_mul]
    unfold dq at hz
    have id : Xz (P.1 + x, P.2 + y) (mvP P a) (mvP P b) = (g : Rat) * (((w.1 : Rat) * ((a.1 : Int) : Rat) + (w.2 : Rat) * ((a.2 : Int) : Rat)) - ((w.1 : Rat) * x + (w.2 : Rat) * y)) := by
      unfold Xz mvP
      dsimp only
      have e1 : ((b.2 : Int) : Rat) = ((a.2 : Int) : Rat) + (g : Rat) * (w.1 : Rat) := by grind
      have e2 : ((b.1 : Int) : Rat) = ((a.1 : Int) : Rat) - (g : Rat) * (w.2 : Rat) := by grind
      rw [e1, e2]
      grind
    rw [id]
    exact Rat.mul_pos gR (by grind)
  · rw [lw_mv]
    show _ = lnO _ _ _
    unfold lnO
    rw [br]; grind
  · rw [lw_mv, fe]
    show _ = lnO _ _ _
    unfold lnO
    rw [br]; grind
theorem ring0 {qs : List (Int × Int)} {P : Pt17} {x y : Rat} (C : Cvx qs) (h : ∀ w ∈ sw qs, dq w x y < (rz w qs : Int)) : Ring (P.1 + x, P.2 + y) ((sw qs).map fun w => (w, lnO qs P w)) (qs.map (mvP P)) := by
  have h3 := C.len3
  have ln : (qs.map (mvP P)).length = qs.length := List.length_map _
  have nn : qs.map (mvP P) ≠ [] := fun e => by have := congrArg List.length e; rw [ln] at this; simp at this; rw [this] at h3; simp at h3
  have at_ : ∀ k (hk : k < qs.length), (qs.map (mvP P))[k]'(by rw [ln]; exact hk) = mvP P (q0 qs k) := fun k hk => by
    have e : qs[k] = q0 qs k := by
      have := q0_at hk
      rw [List.getElem?_eq_getElem hk] at this
      exact Option.some.inj this
    rw [List.getElem_map, e]
  refine ⟨ch_idx _ _ fun i hi => ?_, ?_⟩
  · rw [ln] at hi
    rw [at_ i hi]
    cases i with
    | zero =>
      have e : (lst (0, 0) (qs.map (mvP P)) :: qs.map (mvP P))[0] = mvP P (q0 qs (qs.length - 1)) := by
        show lst (0, 0) (qs.map (mvP P)) = _
        rw [lst_last _ nn]
        simp only [ln]
        exact at_ _ (by omega)
      rw [e]
      have := side_rl (P := P) C h (j := qs.length - 1) (by omega)
      rw [show (qs.length - 1 + 1) % qs.length = 0 by rw [Nat.sub_add_cancel (by omega), Nat.mod_self]] at this
      exact this
    | succ i =>
      have e : (lst (0, 0) (qs.map (mvP P)) :: qs.map (mvP P))[i + 1]'(by simp; omega) = mvP P (q0 qs i) := by
        rw [List.getElem_cons_succ]
        exact at_ i (by omega)
      rw [e]
      have := side_rl (P := P) C h (j := i) (by omega)
      rw [Nat.mod_eq_of_lt (by omega)] at this
      exact this
  · refine ⟨mvP P (q0 qs 0), List.mem_map.mpr ⟨_, List.mem_of_getElem? (q0_at (by omega)), rfl⟩, mvP P (q0 qs 1), List.mem_map.mpr ⟨_, List.mem_of_getElem? (q0_at (by omega)), rfl⟩, fun e => ?_⟩
    have ne := C.ne (i := 0) (by omega)
    rw [Nat.mod_eq_of_lt (by omega)] at ne
    apply ne
    have e1 : P.1 + (((q0 qs 0).1 : Int) : Rat) = P.1 + (((q0 qs 1).1 : Int) : Rat) := congrArg (·.1) e
    have e2 : P.2 + (((q0 qs 0).2 : Int) : Rat) = P.2 + (((q0 qs 1).2 : Int) : Rat) := congrArg (·.2) e
    ext
    · exact Rat.intCast_inj.mp (by grind)
    · exact Rat.intCast_inj.mp (by grind)
def clips (f : Int × Int → Rat) (ws : List (Int × Int)) (V : List Pt17) : List Pt17 := ws.foldl (fun V w => cut w (f w) V) V
theorem run_cl {z : Pt17} {D : Nat} {K : Rat} {f : Int × Int → Rat} : ∀ (ws : List (Int × Int)) {Λ : List Ln17} {E : Nat} {V : List Pt17} {c : Nat}, Cl z D K Λ E V → 0 < E → E < 2 ^ c → (∀ w ∈ ws, lw w z < f w ∧ w ≠ (0, 0) ∧ Sm17 w ∧ Dv D (f w)) →
    ∃ Λ' E', Cl z D K Λ' E' (clips f ws V) ∧ 0 < E' ∧ E' < 2 ^ (c + 90 * ws.length)
  | [], Λ, E, V, c, C, h0, hE, _ => ⟨Λ, E, C, h0, hE⟩
  | w :: ws, Λ, E, V, c, C, h0, hE, h => by
    obtain ⟨h1, h2, h3, h4⟩ := h w List.mem_cons_self
    obtain ⟨m, m0, m1, C2⟩ := C.cut h1 h2 h3 h4
    have hE2 : E * m < 2 ^ (c + 90) := by
      rw [Nat.pow_add]
      exact Nat.lt_of_lt_of_le (Nat.mul_lt_mul_of_pos_right hE m0) (Nat.mul_le_mul_left _ m1)
    obtain ⟨Λ', E', i1, i0, i2⟩ := run_cl ws C2 (Nat.mul_pos h0 m0) hE2 fun w' m => h w' (List.mem_cons_of_mem _ m)
    refine ⟨Λ', E', i1, i0, ?_⟩
    rw [List.length_cons, show c + 90 * (ws.length + 1) = c + 90 + 90 * ws.length by omega]
    exact i2
theorem run_le {f : Int × Int → Rat} {z : Pt17} {D : Nat} {K : Rat} : ∀ (ws : List (Int × Int)) {Λ : List Ln17} {E : Nat} {V : List Pt17}, Cl z D K Λ E V → (∀ w ∈ ws, lw w z < f w ∧ w ≠ (0, 0) ∧ Sm17 w ∧ Dv D (f w)) → ∀ v ∈ clips f ws V, (∀ w' k', (∀ u ∈ V, lw w' u ≤ k') → lw w' v ≤ k') ∧ ∀ w ∈ ws, lw w v ≤ f w
  | [], Λ, E, V, C, _, v, hv => ⟨fun w' k' h => h v hv, fun w hw => absurd hw List.not_mem_nil⟩
  | w :: ws, Λ, E, V, C, h, v, hv => by
    obtain ⟨h1, h2, h3, h4⟩ := h w List.mem_cons_self
    have nn := C.ring.nn
    obtain ⟨m, m0, m1, C2⟩ := C.cut h1 h2 h3 h4
    obtain ⟨i1, i2⟩ := run_le ws C2 (fun w' m => h w' (List.mem_cons_of_mem _ m)) v hv
    refine ⟨fun w' k' hu => i1 w' k' fun u mu => (cut_le nn hu u mu).1, fun w' hw' => ?_⟩
    rcases List.mem_cons.mp hw' with rfl | hw'
    · exact i1 w' (f w') fun u mu => (cut_le (w' := (0, 0)) (k' := 0) nn (fun v _ => by unfold lw; show ((0 : Int) : Rat) * v.1 + ((0 : Int) : Rat) * v.2 ≤ 0; rw [show ((0 : Int) : Rat) = 0 from rfl]; grind) u mu).2
    · exact i2 w' hw'
theorem run_len {f : Int × Int → Rat} : ∀ (ws : List (Int × Int)) (V : List Pt17), (clips f ws V).length ≤ 2 ^ ws.length * V.length
  | [], V => by show V.length ≤ 2 ^ 0 * V.length; omega
  | w :: ws, V => by
    have := run_len ws (f := f) (cut w (f w) V)
    have l : (cut w (f w) V).length ≤ 2 * V.length := cut_len V _
    have m := Nat.mul_le_mul_left (2 ^ ws.length) l
    show (clips f ws (cut w (f w) V)).length ≤ 2 ^ (ws.length + 1) * V.length
    rw [Nat.pow_succ]
    have e : 2 ^ ws.length * (2 * V.length) = 2 ^ ws.length * 2 * V.length := by rw [Nat.mul_assoc]
    omega
def kk (n : Nat) : Rat := (((2 ^ n : Nat) : Int) : Rat)
theorem kk_pos (n : Nat) : 0 < kk n := Rat.intCast_pos.mpr (by have := Nat.two_pow_pos n; omega)
theorem kk_mono {n m : Nat} (h : n ≤ m) : kk n ≤ kk m := Rat.intCast_le_intCast.mpr (by have := Nat.pow_le_pow_right (n := 2) (by decide) h; omega)
theorem kk_succ (n : Nat) : kk (n + 1) = kk n + kk n := by
  unfold kk
  rw [← Rat.intCast_add, Nat.pow_succ]
  congr 1
  omega
theorem kk_add (n m : Nat) : kk (n + m) = kk n * kk m := by
  unfold kk
  rw [← Rat.intCast_mul, Nat.pow_add]
  rfl
def Mg (m : Nat) (r : Rat) : Prop := -kk m ≤ r ∧ r ≤ kk m
theorem Mg.mono {n m : Nat} {r : Rat} (h : Mg n r) (l : n ≤ m) : Mg m r := by
  have := kk_mono l
  unfold Mg at *
  constructor <;> grind
theorem Mg.add {m : Nat} {r s : Rat} (h : Mg m r) (h' : Mg m s) : Mg (m + 1) (r + s) := by
  unfold Mg at *
  rw [kk_succ]
  constructor <;> grind
theorem Mg.neg {m : Nat} {r : Rat} (h : Mg m r) : Mg m (-r) := by
  unfold Mg at *
  constructor <;> grind
theorem Mg.sub {m : Nat} {r s : Rat} (h : Mg m r) (h' : Mg m s) : Mg (m + 1) (r - s) := by
  rw [Rat.sub_eq_add_neg]; exact h.add h'.neg
theorem Mg.int {n : Nat} {k : Int} (h : k.natAbs ≤ 2 ^ n) : Mg n (k : Rat) := by
  unfold Mg kk
  rw [← Rat.intCast_neg]
  exact ⟨Rat.intCast_le_intCast.mpr (by omega), Rat.intCast_le_intCast.mpr (by omega)⟩
theorem Mg.mul {n m : Nat} {r s : Rat} (h : Mg n r) (h' : Mg m s) : Mg (n + m) (r * s) := by
  unfold Mg at *
  rw [kk_add]
  have a := Rat.mul_nonneg (show 0 ≤ kk n - r by grind) (show 0 ≤ kk m + s by grind)
  have b := Rat.mul_nonneg (show 0 ≤ kk n + r by grind) (show 0 ≤ kk m - s by grind)
  have c := Rat.mul_nonneg (show 0 ≤ kk n - r by grind) (show 0 ≤ kk m - s by grind)
  have d := Rat.mul_nonneg (show 0 ≤ kk n + r by grind) (show 0 ≤ kk m + s by grind)
  constructor <;> grind
theorem Mg.muli {n m : Nat} {k : Int} {r : Rat} (hk : k.natAbs ≤ 2 ^ n) (h : Mg m r) : Mg (n + m) ((k : Rat) * r) := (Mg.int hk).mul h
theorem Mg.of {n d : Nat} {r : Rat} (h : Sd n d r) : Mg n r := by
  have e := nume17 r
  have dp : (1 : Rat) ≤ ((r.den : Int) : Rat) := Rat.intCast_le_intCast.mpr (show (1 : Int) ≤ (r.den : Int) by have := r.den_pos; omega)
  have nb := h.nu
  have m := Mg.int (n := n) (k := r.num) (by omega)
  unfold Mg at *
  rw [e] at m
  generalize ((r.den : Int) : Rat) = d at *
  have k0 := kk_pos n
  constructor
  · apply Classical.byContradiction
    intro z
    have z := Rat.not_le.mp z
    have := Rat.mul_le_mul_of_nonneg_right dp (show 0 ≤ -r by grind)
    grind
  · apply Classical.byContradiction
    intro z
    have z := Rat.not_le.mp z
    have := Rat.mul_le_mul_of_nonneg_right dp (show 0 ≤ r by grind)
    grind
theorem SdV {F d m : Nat} {r : Rat} (h : Dv F r) (h0 : 0 < F) (hF : F < 2 ^ d) (hm : Mg m r) : Sd (m + d) d r := by
  have dl : r.den ≤ F := Nat.le_of_dvd h0 h.den
  refine ⟨?_, by omega⟩
  have e := nume17 r
  have dp : (0 : Rat) ≤ ((r.den : Int) : Rat) := Rat.intCast_le_intCast.mpr (show (0 : Int) ≤ (r.den : Int) by omega)
  have a := Rat.mul_le_mul_of_nonneg_left hm.1 dp
  have b := Rat.mul_le_mul_of_nonneg_left hm.2 dp
  rw [← e] at a b
  have c : ((r.den : Int) : Rat) * kk m = (((r.den : Int) * ((2 ^ m : Nat) : Int) : Int) : Rat) := by unfold kk; rw [Rat.intCast_mul]
  have c' : ((r.den : Int) : Rat) * -kk m = ((-((r.den : Int) * ((2 ^ m : Nat) : Int)) : Int) : Rat) := by rw [Rat.intCast_neg, ← c]; grind
  rw [c] at b
  rw [c'] at a
  have a := Rat.intCast_le_intCast.mp a
  have b := Rat.intCast_le_intCast.mp b
  have pl : r.den * 2 ^ m < 2 ^ (m + d) := by
    rw [Nat.add_comm, Nat.pow_add]
    exact Nat.mul_lt_mul_of_pos_right (by omega) (Nat.two_pow_pos m)
  have pc : ((r.den * 2 ^ m : Nat) : Int) = (r.den : Int) * ((2 ^ m : Nat) : Int) := by rw [Int.natCast_mul]
  omega
theorem spot_plus_S {a b c d : Rat} {n e m f : Nat} (ha : Sd n e a) (hb : Sd n e b) (hc : Sd m f c) (hd : Sd m f d) (h : n + f + m + e ≤ 900000) (h' : e + f ≤ 8000) : m_spot_plus [S2 a b, S2 c d] () = .ok (S2 (a + c) (b + d)) () := by
  apply oE_eq
  unfold m_spot_plus b_spot_plus S2
  simp [zipD, oE_compCons, oE_compNil, wipeR, noOwn, plus_S ha hc h h', plus_S hb hd h h']
theorem spot_times_S {a b c : Rat} {n e m f : Nat} (ha : Sd n e a) (hb : Sd n e b) (hc : Sd m f c) (h : n + f + m + e ≤ 900000) (h' : e + f ≤ 8000) : m_spot_times [S2 a b, R c] () = .ok (S2 (a * c) (b * c)) () := by
  have e1 := times_S ha hc h h'
  have e2 := times_S hb hc h h'
  apply oE_eq
  unfold m_spot_times b_spot_times
  simp
  unfold Nxt
  simp [e1, e2]
  rfl
def VO (D : Nat) (v : Pt17) : Prop := (∃ e : Nat, 0 < e ∧ e ≤ 2 ^ 45 ∧ Dv (e * D) v.1 ∧ Dv (e * D) v.2) ∧ Mg 1100 v.1 ∧ Mg 1100 v.2
theorem lw_dv {D : Nat} {w : Int × Int} {v : Pt17} (h1 : Dv D v.1) (h2 : Dv D v.2) : Dv D (lw w v) := (h1.muli w.1).add (h2.muli w.2)
theorem lw_mg {m : Nat} {w : Int × Int} {v : Pt17} (hs : Sm17 w) (h1 : Mg m v.1) (h2 : Mg m v.2) : Mg (22 + m + 1) (lw w v) := (h1.muli hs.1).add (h2.muli hs.2)
def sD (v : Pt17) : D := S2 v.1 v.2
theorem lt_two {e D m k : Nat} (h : e ≤ 2 ^ m) (h' : D < 2 ^ k) : e * D < 2 ^ (m + k) := by
  rw [Nat.pow_add]
  have a := Nat.mul_le_mul_right D h
  exact Nat.lt_of_le_of_lt a ((Nat.mul_lt_mul_left (Nat.two_pow_pos m)).mpr h')
theorem crossing_ok {D : Nat} {w : Int × Int} {k : Rat} {p c : Pt17} (D0 : 0 < D) (hD : D < 2 ^ 1730) (hw : Sm17 w) (op : VO D p) (oc : VO D c) (ox : VO D (crs w k p c)) (dk : Dv D k) (mk : Mg 1140 k) (ne : lw w c - lw w p ≠ 0) :
    m_crossing [pt w, R k, sD p, sD c] () = .ok (sD (crs w k p c)) () := by
  obtain ⟨⟨e1, e10, e11, p1, p2⟩, mp1, mp2⟩ := op
  obtain ⟨⟨e2, e20, e21, c1, c2⟩, mc1, mc2⟩ := oc
  obtain ⟨⟨e3, e30, e31, x1, x2⟩, mx1, mx2⟩ := ox
  have F1 : e1 * D < 2 ^ 1775 := lt_two e11 hD
  have F2 : e2 * D < 2 ^ 1775 := lt_two e21 hD
  have F12 : e2 * (e1 * D) < 2 ^ 1820 := lt_two e21 F1
  have F31 : e3 * (e1 * D) < 2 ^ 1820 := lt_two e31 F1
  have q1 : 0 < e1 * D := Nat.mul_pos e10 D0
  have q2 : 0 < e2 * D := Nat.mul_pos e20 D0
  have q12 : 0 < e2 * (e1 * D) := Nat.mul_pos e20 q1
  have q31 : 0 < e3 * (e1 * D) := Nat.mul_pos e30 q1
  have d1 : e1 * D ∣ e2 * (e1 * D) := ⟨e2, Nat.mul_comm _ _⟩
  have d2 : e2 * D ∣ e2 * (e1 * D) := ⟨e1, by rw [Nat.mul_assoc, Nat.mul_comm D e1]⟩
  have d3 : e1 * D ∣ e3 * (e1 * D) := ⟨e3, Nat.mul_comm _ _⟩
  have d4 : e3 * D ∣ e3 * (e1 * D) := ⟨e1, by rw [Nat.mul_assoc, Nat.mul_comm D e1]⟩
  have w1 : w.1.natAbs < 2 ^ 23 := Nat.lt_of_le_of_lt hw.1 (by decide)
  have w2 : w.2.natAbs < 2 ^ 23 := Nat.lt_of_le_of_lt hw.2 (by decide)
  have sp1 := SdV p1 q1 F1 mp1
  have sp2 := SdV p2 q1 F1 mp2
  have sc1 := SdV c1 q2 F2 mc1
  have sc2 := SdV c2 q2 F2 mc2
  have lp := SdV (lw_dv p1 p2 (w := w)) q1 F1 (lw_mg hw mp1 mp2)
  have lc := SdV (lw_dv c1 c2 (w := w)) q2 F2 (lw_mg hw mc1 mc2)
  have sk := SdV (F := D) dk D0 hD mk
  have mlp := lw_mg hw mp1 mp2
  have mlc := lw_mg hw mc1 mc2
  have su := SdV ((dk.mono ⟨e1, Nat.mul_comm _ _⟩).sub (lw_dv p1 p2 (w := w))) q1 F1 (mk.sub (mlp.mono (by decide)))
  have sv := SdV (((lw_dv c1 c2 (w := w)).mono d2).sub ((lw_dv p1 p2 (w := w)).mono d1)) q12 F12 (mlc.sub mlp)
  have sd1 := SdV ((c1.mono d2).sub (p1.mono d1)) q12 F12 (mc1.sub mp1)
  have sd2 := SdV ((c2.mono d2).sub (p2.mono d1)) q12 F12 (mc2.sub mp2)
  have a1 : m_along [pt w, sD p] () = .ok (R (lw w p)) () := along_S w1 w2 sp1 sp2 (by decide) (by decide)
  have a2 : m_along [pt w, sD c] () = .ok (R (lw w c)) () := along_S w1 w2 sc1 sc2 (by decide) (by decide)
  have a3 := minus_S sk lp (by decide) (by decide)
  have a4 := minus_S lc lp (by decide) (by decide)
  have a5 := over_S ne su sv (by decide) (by decide)
  have st := Sd.div ne su sv
  have a6 := spot_minus_S sc1 sc2 sp1 sp2 (by decide) (by decide)
  have a7 := spot_times_S sd1 sd2 st (by decide) (by decide)
  have ex1 : (c.1 - p.1) * ((k - lw w p) / (lw w c - lw w p)) = (crs w k p c).1 - p.1 := by unfold crs; dsimp only; grind
  have ex2 : (c.2 - p.2) * ((k - lw w p) / (lw w c - lw w p)) = (crs w k p c).2 - p.2 := by unfold crs; dsimp only; grind
  have s1 := SdV ((x1.mono d4).sub (p1.mono d3)) q31 F31 (mx1.sub mp1)
  have s2 := SdV ((x2.mono d4).sub (p2.mono d3)) q31 F31 (mx2.sub mp2)
  rw [← ex1] at s1
  rw [← ex2] at s2
  have a8 := spot_plus_S sp1 sp2 s1 s2 (by decide) (by decide)
  unfold sD at *
  apply oE_eq
  unfold m_crossing b_crossing
  simp [a1]
  unfold Nxt
  simp [a2, a3, a4, a5]
  unfold Nxt
  simp [a6, a7, a8]
  rfl
theorem at_last17 {α : Type} (l : List α) (x : α) : atI (l ++ [x]) (-1) = some x := by
  unfold atI ixN
  simp
  rw [if_pos (by omega), Option.bind_some, show (-1 + ((l.length : Int) + 1)).toNat = l.length by omega]
  simp
theorem enum17 {α : Type} (f : α → D) (V : List α) : enumD (V.map f) = (V.zipIdx).map fun e => .tup [.int (e.2 : Nat), f e.1] := by
  unfold enumD
  apply List.ext_getElem?
  intro i
  rw [List.getElem?_mapIdx, List.getElem?_map, List.getElem?_map, List.getElem?_zipIdx]
  cases V[i]? <;> simp
theorem cutA_app {w : Int × Int} {k : Rat} : ∀ (a b : List Pt17) (p : Pt17), cutA w k p (a ++ b) = cutA w k p a ++ cutA w k (lst p a) b
  | [], _, _ => rfl
  | c :: a, b, p => by
    have ih := cutA_app (w := w) (k := k) a b c
    show _ ++ (_ ++ cutA w k c (a ++ b)) = (_ ++ (_ ++ cutA w k c a)) ++ cutA w k (lst c a) b
    rw [ih]; simp
theorem ahead17 {V dn td : List Pt17} {c : Pt17} (e : V = dn ++ c :: td) : atI (V.map sD) ((dn.length : Int) - 1) = some (sD (lst (lst (0, 0) V) dn)) := by
  rcases List.eq_nil_or_concat dn with rfl | ⟨a, x, rfl⟩
  · have nn : V ≠ [] := by rw [e]; simp
    have l := lst_last (0, 0) nn
    rcases List.eq_nil_or_concat V with h | ⟨b, y, h⟩
    · exact absurd h nn
    · rw [List.concat_eq_append] at h
      subst h
      have : lst (0, 0) (b ++ [y]) = y := by rw [lst_app]; rfl
      show atI _ (-1) = some (sD (lst (0, 0) (b ++ [y])))
      rw [this, List.map_append]
      exact at_last17 _ _
  · rw [List.concat_eq_append] at e ⊢
    have e1 : (((a ++ [x]).length : Nat) : Int) - 1 = ((a.length : Nat) : Int) := by simp
    have e2 : lst (lst (0, 0) V) (a ++ [x]) = x := by rw [lst_app]; rfl
    rw [e1, e2]
    refine atI_nat ?_
    rw [e]
    simp
theorem cut_by_ok {D : Nat} {w : Int × Int} {k : Rat} {V : List Pt17} (D0 : 0 < D) (hD : D < 2 ^ 1730) (hw : Sm17 w) (hV : ∀ v ∈ V, VO D v) (hX : ∀ v ∈ cut w k V, VO D v) (dk : Dv D k) (mk : Mg 1140 k) (hl : V.length ≤ 4096) :
    m_cut_by [.lst (V.map sD), pt w, R k] () = .ok (.lst ((cut w k V).map sD)) () := by
  have sz : ∀ v, VO D v → Sd 2900 1776 (lw w v) := fun v ⟨⟨e, e0, e1, d1, d2⟩, m1, m2⟩ => (SdV (lw_dv d1 d2 (w := w)) (Nat.mul_pos e0 D0) (lt_two e1 hD) (lw_mg hw m1 m2)).le (by decide) (by decide)
  have szv : ∀ v, VO D v → Sd 2900 1776 v.1 ∧ Sd 2900 1776 v.2 := fun v ⟨⟨e, e0, e1, d1, d2⟩, m1, m2⟩ => ⟨(SdV d1 (Nat.mul_pos e0 D0) (lt_two e1 hD) m1).le (by decide) (by decide), (SdV d2 (Nat.mul_pos e0 D0) (lt_two e1 hD) m2).le (by decide) (by decide)⟩
  have sk : Sd 2900 1776 k := (SdV dk D0 hD mk).le (by decide) (by decide)
  have w1 : w.1.natAbs < 2 ^ 23 := Nat.lt_of_le_of_lt hw.1 (by decide)
  have w2 : w.2.natAbs < 2 ^ 23 := Nat.lt_of_le_of_lt hw.2 (by decide)
  have al : ∀ v, VO D v → m_along [pt w, sD v] () = .ok (R (lw w v)) () := fun v o => along_S w1 w2 (szv v o).1 (szv v o).2 (by decide) (by decide)
  have od : ∀ v, VO D v → m_order [R (lw w v), R k] () = .ok (.int (cmpR (lw w v) k)) () := fun v o => order_S (sz v o) sk (by decide)
  have le : ∀ v : Pt17, cmpR (lw w v) k ≤ 0 ↔ lw w v ≤ k := fun v => by
    by_cases h : lw w v ≤ k
    · have : ¬ 0 < cmpR (lw w v) k := fun z => absurd (cmpR_pos.mp z) (Rat.not_lt.mpr h)
      simp [h]; omega
    · have : 0 < cmpR (lw w v) k := cmpR_pos.mpr (Rat.not_le.mp h)
      simp [h]; omega
  apply oE_eq
  unfold m_cut_by b_cut_by
  simp
  unfold Nxt
  simp
  rw [enum17]
  obtain ⟨I, hI⟩ : ∃ I : List (Pt17 × Nat) → List (Pt17 × Nat) → Rho → Unit → Prop, I = fun dn _ ρ _ => ∃ s4 s5 s6 s7 s8, ρ = [.val (.lst (V.map sD)), .val (pt w), .val (R k), .own ((cutA w k (lst (0, 0) V) (dn.map (·.1))).map sD), s4, s5, s6, s7, s8] := ⟨_, rfl⟩
  refine oS_loopE I V.zipIdx (by rw [hI]; exact ⟨_, _, _, _, _, rfl⟩) ?_ ?_
  · intro dn e td ρ t eq hh
    rw [hI] at hh
    obtain ⟨s4, s5, s6, s7, s8, rfl⟩ := hh
    have hdl : dn.length < V.length := by
      have := congrArg List.length eq
      simp at this
      omega
    have ee : e = (V[dn.length], dn.length) := by
      have h1 : V.zipIdx[dn.length]? = some e := by rw [eq]; simp
      rw [List.getElem?_zipIdx, List.getElem?_eq_getElem hdl] at h1
      simp at h1
      exact h1.symm
    have eV : V = dn.map (·.1) ++ e.1 :: td.map (·.1) := by
      have h := congrArg (List.map (·.1)) eq
      rw [List.map_append, List.map_cons] at h
      rw [← h]
      apply List.ext_getElem
      · simp
      · intro i _ _; simp
    have e2 : e.2 = dn.length := by rw [ee]
    have ah := ahead17 eV
    rw [List.length_map] at ah
    obtain ⟨p, hp⟩ : ∃ p, p = lst (lst (0, 0) V) (dn.map (·.1)) := ⟨_, rfl⟩
    rw [← hp] at ah
    have mp : p ∈ V := by
      rw [hp]
      by_cases h : dn.map (·.1) = []
      · rw [h]
        exact lst_mem _ (by rw [eV]; simp)
      · have := lst_mem (lst (0, 0) V) h
        rw [eV]
        exact List.mem_append_left _ (by rw [← eV]; exact this)
    have mc : e.1 ∈ V := by rw [eV]; simp
    have op := hV p mp
    have oc := hV e.1 mc
    have cl : (cutA w k (lst (0, 0) V) (dn.map (·.1))).length ≤ 2 * 4096 := by
      have := cut_len (w := w) (k := k) (dn.map (·.1)) (lst (0, 0) V)
      rw [List.length_map] at this
      omega
    have nxt : cutA w k (lst (0, 0) V) ((dn ++ [e]).map (·.1)) = cutA w k (lst (0, 0) V) (dn.map (·.1)) ++ ((if decide (lw w e.1 ≤ k) = decide (lw w p ≤ k) then [] else [crs w k p e.1]) ++ if lw w e.1 ≤ k then [e.1] else []) := by
      rw [List.map_append, cutA_app, ← hp]
      show _ ++ (_ ++ (_ ++ [])) = _
      rw [List.append_nil]
    refine ⟨_, rfl, ?_⟩
    simp [e2, ah]
    unfold Nxt
    simp [al _ oc, od _ oc]
    unfold Nxt
    simp [al _ op, od _ op]
    unfold Nxt
    have tail : ∀ (own : List Pt17) (P : Pt Unit), P.nx = I (dn ++ [e]) td → own.length ≤ 8193 → cutA w k (lst (0, 0) V) ((dn ++ [e]).map (·.1)) = own ++ (if lw w e.1 ≤ k then [e.1] else []) → Nxt (sIf (e1 truth (eVarW 7)) (sApp 3 (eVar 5)) sSkip)
              [Slot.val (.lst (List.map sD V)), Slot.val (pt w), Slot.val (R k), Slot.own (own.map sD),
                Slot.val (.int dn.length), Slot.val (sD e.1), Slot.val (sD p), Slot.val (.bl (decide (lw w e.1 ≤ k))), Slot.val (.bl (decide (lw w p ≤ k)))] t P := fun own P hP hl ho => by
      unfold Nxt
      by_cases hc : lw w e.1 ≤ k
      · simp [hc]
        refine ⟨by omega, ?_⟩
        rw [hP, hI]
        rw [if_pos hc] at ho
        exact ⟨_, _, _, _, _, by rw [ho, List.map_append]; rfl⟩
      · simp [hc]
        rw [hP, hI]
        rw [if_neg hc, List.append_nil] at ho
        exact ⟨_, _, _, _, _, by rw [ho]⟩
    simp [le]
    by_cases hs : (lw w e.1 ≤ k ↔ lw w p ≤ k)
    · refine .inl ⟨hs, tail _ _ rfl (by omega) ?_⟩
      rw [nxt, if_pos (by simp [hs])]
      rfl
    · have ne : lw w e.1 - lw w p ≠ 0 := fun z => hs (by
        have : lw w e.1 = lw w p := by grind
        rw [this])
      have mx : crs w k p e.1 ∈ cut w k V := by
        have e3 : cut w k V = cutA w k (lst (0, 0) V) (dn.map (·.1)) ++ cutA w k p (e.1 :: td.map (·.1)) := by
          rw [hp, ← cutA_app, ← eV]; rfl
        rw [e3]
        refine List.mem_append_right _ ?_
        unfold cutA
        rw [if_neg (by simp [hs])]
        simp
      have cr := crossing_ok D0 hD hw op oc (hX _ mx) dk mk ne
      refine .inr ⟨hs, ?_⟩
      rw [cr]
      refine ⟨by omega, ?_⟩
      have em : (cutA w k (lst (0, 0) V) (dn.map (·.1))).map sD ++ [sD (crs w k p e.1)] = (cutA w k (lst (0, 0) V) (dn.map (·.1)) ++ [crs w k p e.1]).map sD := by simp
      rw [em]
      exact tail _ _ rfl (by simp; omega) (by rw [nxt, if_neg (by simp [hs])]; simp)
  · intro ρ t hh
    rw [hI] at hh
    obtain ⟨s4, s5, s6, s7, s8, rfl⟩ := hh
    have e : V.zipIdx.map (·.1) = V := by
      apply List.ext_getElem
      · simp
      · intro i _ _; simp
    rw [e]
    unfold Nxt
    simp
    rfl
def plc (b : B15) (t : Rat) : Pt17 := (b.px + b.vx * t, b.py + b.vy * t)
theorem place_after_ok {b : B15} {t : Rat} (o : b.Ok 250 730) (ht : Sz 10 t) : m_place_after [b.row, R t] () = .ok (sD (plc b t)) () := by
  have e1 := spot_times_S o.s3.sd o.s4.sd ht.sd (by decide) (by decide)
  have e2 := spot_plus_S o.s1.sd o.s2.sd (o.s3.sd.mul ht.sd) (o.s4.sd.mul ht.sd) (by decide) (by decide)
  apply oE_eq
  unfold m_place_after b_place_after
  simp [e1, e2]
  rfl
theorem plc_mg {b : B15} {t : Rat} (o : b.Ok 250 730) (ht : Sz 10 t) : Mg 741 (plc b t).1 ∧ Mg 741 (plc b t).2 :=
  ⟨((Mg.of o.s1.sd).mono (by decide)).add ((Mg.of o.s3.sd).mul (Mg.of ht.sd)), ((Mg.of o.s2.sd).mono (by decide)).add ((Mg.of o.s4.sd).mul (Mg.of ht.sd))⟩
theorem plc_sd {b : B15} {t : Rat} (o : b.Ok 250 730) (ht : Sz 10 t) : Sd 1100 1000 (plc b t).1 ∧ Sd 1100 1000 (plc b t).2 :=
  ⟨o.s1.sd.add (o.s3.sd.mul ht.sd) (by decide) (by decide) (by decide), o.s2.sd.add (o.s4.sd.mul ht.sd) (by decide) (by decide) (by decide)⟩
theorem corners_ok {b : B15} {t : Rat} (o : b.Ok 250 730) (ht : Sz 10 t) : m_corners_after [b.row, R t] () = .ok (.lst ((b.qs.map (mvP (plc b t))).map sD)) () := by
  have e1 := place_after_ok o ht
  have s := plc_sd o ht
  have hl := o.hl
  apply oE_eq
  unfold m_corners_after b_corners_after
  simp [e1]
  unfold Nxt
  simp
  refine ⟨by omega, comp_map (enc := pt) (f := fun q => sD (mvP (plc b t) q)) (xs := b.qs) (fun q hq => ?_) ?_⟩
  · have hp := o.hp q hq
    have e2 := spot_plus_S s.1 s.2 (Sd.int hp.1) (Sd.int hp.2) (by decide) (by decide)
    rw [S2, S2, ← R_int, ← R_int] at e2
    refine ⟨_, rfl, ?_⟩
    rw [S2] at e2
    simp [wipeR, sD, S2, e2]
    exact ⟨rfl, rfl⟩
  · simp
structure Ov (b c : B15) (t : Rat) (E : Nat) : Prop where
  ob : b.Ok 250 730
  oc : c.Ok 250 730
  lb : b.qs.length ≤ 8
  lc : c.qs.length ≤ 8
  db : DB E b c
  ht : Sz 10 t
  ov : OverAt b c t
def fO (c : B15) (t : Rat) (w : Int × Int) : Rat := lnO c.qs (plc c t) w
theorem sw_ne0 {qs : List (Int × Int)} (C : Cvx qs) {w : Int × Int} (h : w ∈ sw qs) : w ≠ (0, 0) := fun e => by
  obtain ⟨x, hx, lt⟩ := side_strict C h
  obtain ⟨c, hc, ec⟩ := rz_mem (w := w) (qs := qs) (fun z => by rw [z] at hx; exact absurd hx List.not_mem_nil)
  rw [← ec, e] at lt
  have z : ∀ v : Int × Int, hw (0, 0) v = 0 := fun v => by unfold hw; simp
  rw [z, z] at lt
  omega
theorem Ov.D {b c : B15} {t : Rat} {E : Nat} (h : Ov b c t E) : 0 < E * t.den ∧ E * t.den < 2 ^ 1730 := by
  refine ⟨Nat.mul_pos h.db.pos t.den_pos, ?_⟩
  have := Nat.mul_lt_mul'' h.db.lt h.ht.sd.de
  rw [← Nat.pow_add] at this
  exact this
theorem plc_dv {b : B15} {t : Rat} {E : Nat} (h1 : Dv E b.px) (h2 : Dv E b.py) (h3 : Dv E b.vx) (h4 : Dv E b.vy) : Dv (E * t.den) (plc b t).1 ∧ Dv (E * t.den) (plc b t).2 :=
  ⟨(h1.mono ⟨_, rfl⟩).add (h3.mul (Dv.of t)), (h2.mono ⟨_, rfl⟩).add (h4.mul (Dv.of t))⟩
theorem fO_dv {c : B15} {t : Rat} {D : Nat} {w : Int × Int} (h : Dv D (plc c t).1 ∧ Dv D (plc c t).2) : Dv D (fO c t w) := (Dv.int D _).add (lw_dv h.1 h.2)
theorem sw_sm {b : B15} (o : b.Ok 250 730) {w : Int × Int} (h : w ∈ sw b.qs) : Sm17 w := by
  have := sw_wsz o.cv o.hp h
  exact ⟨Nat.le_of_lt this.1, Nat.le_of_lt this.2⟩
theorem fO_mg {c : B15} {t : Rat} {w : Int × Int} (o : c.Ok 250 730) (ht : Sz 10 t) (h : w ∈ sw c.qs) : Mg 1140 (fO c t w) := by
  have m := plc_mg o ht
  have ws := sw_wsz o.cv o.hp h
  have r := rz_sz o.ne ws.1 ws.2 o.hp
  have a := (Mg.int (n := 44) (k := rz w c.qs) (by omega)).mono (show 44 ≤ 1100 by decide)
  have b := (lw_mg (w := w) (sw_sm o h) m.1 m.2).mono (show 22 + 741 + 1 ≤ 1100 by decide)
  exact (a.add b).mono (by decide)
theorem Ov.start {b c : B15} {t : Rat} {E : Nat} (h : Ov b c t E) : ∃ z Λ, Cl z (E * t.den) (kk 1100) Λ (E * t.den) (b.qs.map (mvP (plc b t))) ∧ Λ.length ≤ 8 ∧ (∀ w ∈ sw b.qs, lw w z < lnO b.qs (plc b t) w) ∧ ∀ w ∈ sw c.qs, lw w z < fO c t w ∧ w ≠ (0, 0) ∧ Sm17 w ∧ Dv (E * t.den) (fO c t w) := by
  have ov : ∀ w ∈ pwy b.qs c.qs, dq w ((c.px - b.px) + (c.vx - b.vx) * t) ((c.py - b.py) + (c.vy - b.vy) * t) < (hz b.qs c.qs w : Int) := fun w hw => by
    have := h.ov w hw
    rw [gap_dq] at this
    grind
  obtain ⟨x, y, i1, i2⟩ := inner h.ob.cv h.oc.cv ov
  have dP := plc_dv (t := t) h.db.b1 h.db.b2 h.db.b3 h.db.b4
  have dQ := plc_dv (t := t) h.db.c1 h.db.c2 h.db.c3 h.db.c4
  have mP := plc_mg h.ob h.ht
  have lz : ∀ w : Int × Int, lw w ((plc b t).1 + x, (plc b t).2 + y) = lw w (plc b t) + dq w x y := fun w => by unfold lw dq; grind
  refine ⟨((plc b t).1 + x, (plc b t).2 + y), (sw b.qs).map fun w => (w, lnO b.qs (plc b t) w), ⟨ring0 h.ob.cv i1, fun l hl => ?_, fun v hv => ?_, fun v hv => ?_, ⟨1, by omega⟩, fun v hv => ?_, fun l hl v hv => ?_⟩, by rw [List.length_map, sw_len]; exact h.lb, fun w hw => ?_, fun w hw => ⟨?_, sw_ne0 h.oc.cv hw, sw_sm h.oc hw, fO_dv dQ⟩⟩
  · obtain ⟨w, hw, rfl⟩ := List.mem_map.mp hl
    exact ⟨sw_ne0 h.ob.cv hw, sw_sm h.ob hw, (Dv.int _ _).add (lw_dv dP.1 dP.2)⟩
  · obtain ⟨q, hq, rfl⟩ := List.mem_map.mp hv
    exact ⟨1, by decide, by decide, by rw [Nat.one_mul]; exact dP.1.add (Dv.int _ _), by rw [Nat.one_mul]; exact dP.2.add (Dv.int _ _)⟩
  · obtain ⟨q, hq, rfl⟩ := List.mem_map.mp hv
    exact ⟨dP.1.add (Dv.int _ _), dP.2.add (Dv.int _ _)⟩
  · obtain ⟨q, hq, rfl⟩ := List.mem_map.mp hv
    have hp := h.ob.hp q hq
    have a := (mP.1.add ((Mg.int (n := 21) (k := q.1) (Nat.le_of_lt hp.1)).mono (by decide))).mono (show 742 ≤ 1100 by decide)
    have b := (mP.2.add ((Mg.int (n := 21) (k := q.2) (Nat.le_of_lt hp.2)).mono (by decide))).mono (show 742 ≤ 1100 by decide)
    exact ⟨a.1, a.2, b.1, b.2⟩
  · obtain ⟨w, hw, rfl⟩ := List.mem_map.mp hl
    obtain ⟨q, hq, rfl⟩ := List.mem_map.mp hv
    rw [lw_mv]
    have := Rat.intCast_le_intCast.mpr (rz_ge (w := w) hq)
    show _ ≤ lnO b.qs (plc b t) w
    unfold lnO
    grind
  · rw [lz]
    have := i1 w hw
    unfold lnO
    grind
  · rw [lz]
    have := i2 w hw
    unfold fO lnO
    unfold dq lw plc at *
    grind
theorem Cl.vo {z : Pt17} {D : Nat} {Λ : List Ln17} {E : Nat} {V : List Pt17} (C : Cl z D (kk 1100) Λ E V) : ∀ v ∈ V, VO D v := fun v hv => by
  have m := C.mag v hv
  exact ⟨C.pt v hv, ⟨m.1, m.2.1⟩, ⟨m.2.2.1, m.2.2.2⟩⟩
theorem clips_app (f : Int × Int → Rat) (a b : List (Int × Int)) (V : List Pt17) : clips f (a ++ b) V = clips f b (clips f a V) := by unfold clips; rw [List.foldl_append]
theorem sX_app (a b : List Pt17) : sX (a ++ b) = sX a + sX b ∧ sY (a ++ b) = sY a + sY b := by
  induction a with
  | nil => exact ⟨by show sX b = 0 + sX b; rw [Rat.zero_add], by show sY b = 0 + sY b; rw [Rat.zero_add]⟩
  | cons v a ih =>
    constructor
    · show v.1 + sX (a ++ b) = v.1 + sX a + sX b
      rw [ih.1, Rat.add_assoc]
    · show v.2 + sY (a ++ b) = v.2 + sY a + sY b
      rw [ih.2, Rat.add_assoc]
theorem sum_dv {E : Nat} : ∀ {V : List Pt17}, (∀ v ∈ V, Dv E v.1 ∧ Dv E v.2) → Dv E (sX V) ∧ Dv E (sY V)
  | [], _ => ⟨Dv.int E 0, Dv.int E 0⟩
  | v :: V, h => by
    have a := h v List.mem_cons_self
    have b := sum_dv (V := V) fun u m => h u (List.mem_cons_of_mem _ m)
    exact ⟨a.1.add b.1, a.2.add b.2⟩
theorem sum_mg {m : Nat} : ∀ {V : List Pt17}, (∀ v ∈ V, Mg m v.1 ∧ Mg m v.2) → (-(((V.length : Int) : Rat) * kk m) ≤ sX V ∧ sX V ≤ ((V.length : Int) : Rat) * kk m) ∧ (-(((V.length : Int) : Rat) * kk m) ≤ sY V ∧ sY V ≤ ((V.length : Int) : Rat) * kk m)
  | [], _ => by
    have e : (((([] : List Pt17).length : Nat) : Int) : Rat) = 0 := rfl
    have e1 : sX [] = 0 := rfl
    have e2 : sY [] = 0 := rfl
    rw [e, e1, e2]
    refine ⟨⟨?_, ?_⟩, ?_, ?_⟩ <;> grind
  | v :: V, h => by
    have a := h v List.mem_cons_self
    have b := sum_mg (V := V) fun u m => h u (List.mem_cons_of_mem _ m)
    have el : ((((v :: V).length : Nat) : Int) : Rat) = ((V.length : Int) : Rat) + 1 := by
      rw [List.length_cons, Int.natCast_add, Rat.intCast_add]; rfl
    have e1 : sX (v :: V) = v.1 + sX V := rfl
    have e2 : sY (v :: V) = v.2 + sY V := rfl
    rw [el, e1, e2]
    unfold Mg at a
    refine ⟨⟨?_, ?_⟩, ?_, ?_⟩ <;> grind
theorem sum_mg2 {m n : Nat} {V : List Pt17} (h : ∀ v ∈ V, Mg m v.1 ∧ Mg m v.2) (hl : V.length ≤ 2 ^ n) : Mg (n + m) (sX V) ∧ Mg (n + m) (sY V) := by
  obtain ⟨⟨a, b⟩, c, d⟩ := sum_mg h
  have l : ((V.length : Int) : Rat) ≤ kk n := Rat.intCast_le_intCast.mpr (by omega)
  have := Rat.mul_le_mul_of_nonneg_right l (Rat.le_of_lt (kk_pos m))
  unfold Mg
  rw [kk_add]
  refine ⟨⟨?_, ?_⟩, ?_, ?_⟩ <;> grind
theorem inv_R17 {m : Int} (h : 1 ≤ m) : D.tup [.int 1, .int m] = R (1 / (m : Rat)) := by
  have c := rat_of (a := 1) (b := m) (p := 1) (q := m) (by omega) (by omega) (by simp [Int.gcd]) (by omega)
  have e : (1 / (m : Rat)).num = 1 ∧ ((1 / (m : Rat)).den : Int) = m := by
    have d := Rat.divInt_eq_div 1 m
    have o : ((1 : Int) : Rat) = 1 := rfl
    rw [o] at d
    rw [← d]
    exact c
  unfold R
  rw [e.1, e.2]
def mid17 (V : List Pt17) : Pt17 := (sX V * (1 / ((V.length : Int) : Rat)), sY V * (1 / ((V.length : Int) : Rat)))
def clipV (b c : B15) (t : Rat) : List Pt17 := clips (fO c t) (sw c.qs) (b.qs.map (mvP (plc b t)))
theorem Ov.facts {b c : B15} {t : Rat} {E : Nat} (h : Ov b c t E) : ∃ z Λ F, Cl z (E * t.den) (kk 1100) Λ F (clipV b c t) ∧ 0 < F ∧ F < 2 ^ 2450 ∧ (clipV b c t).length ≤ 2 ^ 11 ∧ (∀ w ∈ sw b.qs, lw w (mid17 (clipV b c t)) < lnO b.qs (plc b t) w) ∧ ∀ w ∈ sw c.qs, lw w (mid17 (clipV b c t)) < lnO c.qs (plc c t) w := by
  obtain ⟨z, Λ, C, l8, i1, i2⟩ := h.start
  obtain ⟨Λ', F, C', F0, hF⟩ := run_cl (sw c.qs) C h.D.1 h.D.2 i2
  have le := run_le (sw c.qs) C i2
  have ls : (sw c.qs).length ≤ 8 := by rw [sw_len]; exact h.lc
  have lb : (b.qs.map (mvP (plc b t))).length ≤ 8 := by rw [List.length_map]; exact h.lb
  have ln := run_len (f := fO c t) (sw c.qs) (b.qs.map (mvP (plc b t)))
  have p8 : 2 ^ (sw c.qs).length ≤ 2 ^ 8 := Nat.pow_le_pow_right (by decide) ls
  have corner : ∀ w ∈ sw b.qs, ∀ u ∈ b.qs.map (mvP (plc b t)), lw w u ≤ lnO b.qs (plc b t) w := fun w hw u hu => by
    obtain ⟨q, hq, rfl⟩ := List.mem_map.mp hu
    rw [lw_mv]
    have := Rat.intCast_le_intCast.mpr (rz_ge (w := w) hq)
    unfold lnO
    grind
  refine ⟨z, Λ', F, C', F0, Nat.lt_of_lt_of_le hF (Nat.pow_le_pow_right (by decide) (by omega)), ?_, fun w hw => ?_, fun w hw => ?_⟩
  · have := Nat.mul_le_mul p8 lb
    show (clips _ _ _).length ≤ _
    omega
  · exact C'.ring.mean (i1 w hw) fun v hv => (le v hv).1 w _ (corner w hw)
  · exact C'.ring.mean (i2 w hw).1 fun v hv => (le v hv).2 w hw
theorem Sd.inv17 {m : Int} {n : Nat} (h : m ≠ 0) (hm : m.natAbs < 2 ^ n) (h0 : 1 ≤ n) : Sd n n (1 / (m : Rat)) := by
  have d := Rat.divInt_eq_div 1 m
  have o : ((1 : Int) : Rat) = 1 := rfl
  rw [o] at d
  rw [← d]
  exact divInt_sd h (by show 1 < 2 ^ n; exact Nat.one_lt_two_pow (by omega)) hm
theorem Ov.mid_sd {b c : B15} {t : Rat} {E : Nat} (h : Ov b c t E) : Sd 3600 2470 (mid17 (clipV b c t)).1 ∧ Sd 3600 2470 (mid17 (clipV b c t)).2 := by
  obtain ⟨z, Λ, F, C, F0, hF, ln, _⟩ := h.facts
  have d := sum_dv C.en
  have m := sum_mg2 (n := 11) (m := 1100) (fun v hv => ⟨(C.vo v hv).2.1, (C.vo v hv).2.2⟩) ln
  have s1 := SdV d.1 F0 hF m.1
  have s2 := SdV d.2 F0 hF m.2
  have l0 : 0 < (clipV b c t).length := List.length_pos_iff.mpr C.ring.nn
  have si : Sd 12 12 (1 / (((clipV b c t).length : Int) : Rat)) := (Sd.inv17 (m := ((clipV b c t).length : Int)) (n := 12) (by omega) (by omega) (by decide))
  exact ⟨(s1.mul si).le (by decide) (by decide), (s2.mul si).le (by decide) (by decide)⟩
theorem common_ok {b c : B15} {t : Rat} {E : Nat} (h : Ov b c t E) : m_common_spot [b.row, c.row, R t] () = .ok (sD (mid17 (clipV b c t))) () := by
  have e1 := corners_ok h.ob h.ht
  have e2 := place_after_ok h.oc h.ht
  have e3 := sides_ok h.oc.cv h.oc.hp (by have := h.lc; omega)
  have sP := plc_sd h.oc h.ht
  obtain ⟨z, Λ, C, l8, i1, i2⟩ := h.start
  obtain ⟨z', Λ', F, C', F0, hF, ln, _⟩ := h.facts
  have lk : ∀ w ∈ sw c.qs, m_plus [.tup [.int (rz w c.qs), .int 1], R (lw w (plc c t))] () = .ok (R (fO c t w)) () := fun w hw => by
    have ws := sw_wsz h.oc.cv h.oc.hp hw
    have r := rz_sz h.oc.ne ws.1 ws.2 h.oc.hp
    have a := plus_S (Sd.int r) (Sd.along ws.1 ws.2 sP.1 sP.2 (N := 2200) (M := 2000) (by decide) (by decide) (by decide)) (by decide) (by decide)
    rw [← R_int] at a
    exact a
  have la : ∀ w ∈ sw c.qs, m_along [pt w, sD (plc c t)] () = .ok (R (lw w (plc c t))) () := fun w hw => by
    have ws := sw_wsz h.oc.cv h.oc.hp hw
    exact along_S ws.1 ws.2 sP.1 sP.2 (by decide) (by decide)
  have lr : ∀ w ∈ sw c.qs, m_reach [.tup (c.qs.map pt), pt w] () = .ok (.int (rz w c.qs)) () := fun w hw => by
    have ws := sw_wsz h.oc.cv h.oc.hp hw
    exact reach_ok h.oc.ne ws.1 ws.2 h.oc.hp (by have := h.lc; omega) (by decide)
  apply oE_eq
  unfold m_common_spot b_common_spot
  simp [e1]
  unfold Nxt
  simp [e2]
  unfold Nxt
  simp [e3]
  obtain ⟨V0, hV0⟩ : ∃ V0, V0 = b.qs.map (mvP (plc b t)) := ⟨_, rfl⟩
  obtain ⟨I, hI⟩ : ∃ I : List (Int × Int) → List (Int × Int) → Rho → Unit → Prop, I = fun dn _ ρ _ => ∃ s5, ρ = [.val b.row, .val c.row, .val (R t), .val (.lst ((clips (fO c t) dn V0).map sD)), .val (sD (plc c t)), s5, .no, .no] := ⟨_, rfl⟩
  rw [← List.map_map, ← hV0]
  refine oS_loopE I (sw c.qs) (by rw [hI]; exact ⟨_, rfl⟩) ?_ ?_
  · intro dn w td ρ t1 eq hh
    rw [hI] at hh
    obtain ⟨s5, rfl⟩ := hh
    have hw : w ∈ sw c.qs := by rw [eq]; simp
    have idn : ∀ w ∈ dn, _ := fun w hw => i2 w (by rw [eq]; simp [hw])
    obtain ⟨Λ1, E1, C1, _, _⟩ := run_cl dn C h.D.1 h.D.2 idn
    obtain ⟨k1, k2, k3, k4⟩ := i2 w hw
    obtain ⟨mm', _, _, C2⟩ := C1.cut k1 k2 k3 k4
    have ls : (sw c.qs).length ≤ 8 := by rw [sw_len]; exact h.lc
    have dl : dn.length ≤ 8 := by
      have := congrArg List.length eq
      simp at this
      omega
    have rl := run_len (f := fO c t) dn (b.qs.map (mvP (plc b t)))
    have p8 : 2 ^ dn.length ≤ 2 ^ 8 := Nat.pow_le_pow_right (by decide) dl
    have lb : (b.qs.map (mvP (plc b t))).length ≤ 8 := by rw [List.length_map]; exact h.lb
    have mm := Nat.mul_le_mul p8 lb
    rw [← hV0] at C1 C2 rl mm
    have ct := cut_by_ok h.D.1 h.D.2 k3 C1.vo C2.vo k4 (fO_mg h.oc h.ht hw) (by omega)
    refine ⟨_, rfl, ?_⟩
    simp [lr w hw, la w hw, lk w hw, ct]
    rw [hI]
    refine ⟨.val (pt w), ?_⟩
    rw [clips_app]
    rfl
  · intro ρ t1 hh
    rw [hI] at hh
    obtain ⟨s5, rfl⟩ := hh
    have eV : clips (fO c t) (sw c.qs) V0 = clipV b c t := by rw [hV0]; rfl
    rw [eV]
    obtain ⟨V, hV⟩ : ∃ V, V = clipV b c t := ⟨_, rfl⟩
    rw [← hV] at C' ln ⊢
    unfold Nxt
    simp
    unfold Nxt
    simp
    obtain ⟨J, hJ⟩ : ∃ J : List Pt17 → List Pt17 → Rho → Unit → Prop, J = fun dn _ ρ _ => ∃ s5 s7, ρ = [.val b.row, .val c.row, .val (R t), .val (.lst (V.map sD)), .val (sD (plc c t)), s5, .val (S2 (sX dn) (sY dn)), s7] := ⟨_, rfl⟩
    refine oS_loopE J V (by rw [hJ]; exact ⟨_, _, rfl⟩) ?_ ?_
    · intro dn v td ρ t2 eq hh
      rw [hJ] at hh
      obtain ⟨s5, s7, rfl⟩ := hh
      have hv : v ∈ V := by rw [eq]; simp
      have hd : ∀ u ∈ dn, u ∈ V := fun u hu => by rw [eq]; simp [hu]
      have d := sum_dv fun u hu => C'.en u (hd u hu)
      have m := sum_mg2 (n := 11) (m := 1100) (fun u hu => ⟨(C'.vo u (hd u hu)).2.1, (C'.vo u (hd u hu)).2.2⟩) (show dn.length ≤ 2 ^ 11 by have := congrArg List.length eq; simp at this; omega)
      have s1 := SdV d.1 F0 hF m.1
      have s2 := SdV d.2 F0 hF m.2
      obtain ⟨⟨e, e0, e1, v1, v2⟩, mv1, mv2⟩ := C'.vo v hv
      have t1 := SdV v1 (Nat.mul_pos e0 h.D.1) (lt_two e1 h.D.2) mv1
      have t2 := SdV v2 (Nat.mul_pos e0 h.D.1) (lt_two e1 h.D.2) mv2
      have sp := spot_plus_S s1 s2 t1 t2 (by decide) (by decide)
      refine ⟨_, rfl, ?_⟩
      simp [sD, sp]
      rw [hJ]
      refine ⟨s5, .val (sD v), ?_⟩
      have a := sX_app dn [v]
      have b1 : sX [v] = v.1 := by show v.1 + 0 = v.1; rw [Rat.add_zero]
      have b2 : sY [v] = v.2 := by show v.2 + 0 = v.2; rw [Rat.add_zero]
      rw [a.1, a.2, b1, b2]
      rfl
    · intro ρ t2 hh
      rw [hJ] at hh
      obtain ⟨s5, s7, rfl⟩ := hh
      have d := sum_dv C'.en
      have m := sum_mg2 (n := 11) (m := 1100) (fun v hv => ⟨(C'.vo v hv).2.1, (C'.vo v hv).2.2⟩) ln
      have s1 := SdV d.1 F0 hF m.1
      have s2 := SdV d.2 F0 hF m.2
      have l0 : 0 < V.length := List.length_pos_iff.mpr C'.ring.nn
      have si : Sd 12 12 (1 / ((V.length : Int) : Rat)) := (Sd.inv17 (m := (V.length : Int)) (n := 12) (by omega) (by omega) (by decide))
      have sp := spot_times_S s1 s2 si (by decide) (by decide)
      unfold Nxt
      simp
      rw [inv_R17 (by omega), sp]
      rfl
structure Pa (b c : B15) (E : Nat) : Prop where
  ob : b.Ok 250 730
  oc : c.Ok 250 730
  lb : b.qs.length ≤ 8
  lc : c.qs.length ≤ 8
  db : DB E b c
theorem Pa.ov {b c : B15} {E : Nat} {t : Rat} (h : Pa b c E) (ht : Sz 10 t) (o : OverAt b c t) : Ov b c t E := ⟨h.ob, h.oc, h.lb, h.lc, h.db, ht, o⟩
theorem apart_ok {b c : B15} {E : Nat} {t : Rat} (h : Pa b c E) (ht : Sz 10 t) : ∃ d, m_apart [b.row, c.row, R t] () = .ok d () ∧ ((OverAt b c t ∧ d = .tup [.str "over", sD (mid17 (clipV b c t))]) ∨ (¬ OverAt b c t ∧ ∃ w ∈ pwy b.qs c.qs, 0 ≤ gapQ b c w t ∧ d = .tup [.str "apart", pt w])) := by
  have pw := pair_ways_ok h.ob.cv h.oc.cv h.ob.hp h.oc.hp (by have := h.lb; omega) (by have := h.lc; omega) (B15.ix1 (b := b)) (B15.ix1 (b := c))
  have wz := fun x hx => pwy_wsz (w := x) h.ob.cv h.oc.cv h.ob.hp h.oc.hp hx
  have gk : ∀ w ∈ pwy b.qs c.qs, m_gap [b.row, c.row, pt w, R t] () = .ok (R (gapQ b c w t)) () := fun w hw => gap_ok h.ob h.oc (wz w hw) ht.sd (by decide) (by decide) (by decide)
  obtain ⟨Q, hQ⟩ : ∃ Q : D → Unit → Prop, Q = fun d _ => ((OverAt b c t ∧ d = .tup [.str "over", sD (mid17 (clipV b c t))]) ∨ (¬ OverAt b c t ∧ ∃ w ∈ pwy b.qs c.qs, 0 ≤ gapQ b c w t ∧ d = .tup [.str "apart", pt w])) := ⟨_, rfl⟩
  suffices k : oE (m_apart [b.row, c.row, R t] ()) Q (fun _ _ _ => False) by
    obtain ⟨d, t1, e, q⟩ := oE_ex' k
    rw [hQ] at q
    exact ⟨d, e, q⟩
  unfold m_apart b_apart
  simp [pw]
  obtain ⟨I, hI⟩ : ∃ I : List (Int × Int) → List (Int × Int) → Rho → Unit → Prop, I = fun dn _ ρ _ => ∃ s3, ρ = [.val b.row, .val c.row, .val (R t), s3] ∧ ∀ w ∈ dn, gapQ b c w t < 0 := ⟨_, rfl⟩
  refine oS_loopE I (pwy b.qs c.qs) (by rw [hI]; exact ⟨_, rfl, fun w hw => absurd hw List.not_mem_nil⟩) ?_ ?_
  · intro dn w td ρ t1 eq hh
    rw [hI] at hh
    obtain ⟨s3, rfl, hd⟩ := hh
    have hw : w ∈ pwy b.qs c.qs := by rw [eq]; simp
    have x0 : dIx (R (gapQ b c w t)) (.int 0) = some (.int (gapQ b c w t).num) := rfl
    refine ⟨_, rfl, ?_⟩
    simp [gk w hw, x0]
    by_cases hg : 0 ≤ gapQ b c w t
    · refine .inr ⟨hg, ?_⟩
      rw [hQ]
      exact .inr ⟨fun o => absurd (o w hw) (Rat.not_lt.mpr hg), w, hw, hg, rfl⟩
    · have lt := Rat.not_le.mp hg
      refine .inl ⟨hg, ?_⟩
      rw [hI]
      refine ⟨.val (pt w), rfl, fun u hu => ?_⟩
      rcases List.mem_append.mp hu with hu | hu
      · exact hd u hu
      · rw [List.mem_singleton.mp hu]; exact lt
  · intro ρ t1 hh
    rw [hI] at hh
    obtain ⟨s3, rfl, hd⟩ := hh
    have ov : OverAt b c t := hd
    unfold Nxt
    simp [common_ok (h.ov ht ov)]
    rw [hQ]
    exact .inl ⟨ov, rfl⟩
open Classical in
theorem within19 {qs : List (Int × Int)} {px py x y : Rat} (C : Cvx qs) (hp : ∀ q ∈ qs, Ptb q) (hl : qs.length ≤ 100) (s1 : Sd 1100 1000 px) (s2 : Sd 1100 1000 py) (s3 : Sd 3600 2470 x) (s4 : Sd 3600 2470 y) :
    m_within [.tup (qs.map pt), S2 px py, S2 x y] () = .ok (.bl (decide (Ins qs (x - px) (y - py)))) () := by
  have l3 := C.len3
  have hn : qs ≠ [] := fun z => by rw [z] at l3; simp at l3
  have em := spot_minus_S s3 s4 s1 s2 (by decide) (by decide)
  have sx : Sd 4700 3470 (x - px) := s3.sub s1 (by decide) (by decide) (by decide)
  have sy : Sd 4700 3470 (y - py) := s4.sub s2 (by decide) (by decide) (by decide)
  generalize x - px = u at *
  generalize y - py = v at *
  have es := sides_ok C hp (by omega)
  have sl := sw_len qs
  have wz : ∀ w ∈ sw qs, w.1.natAbs < 2 ^ 22 ∧ w.2.natAbs < 2 ^ 22 := fun w hw => sw_small C hp hw
  apply oE_eq
  unfold m_within b_within
  simp [em]
  unfold Nxt
  simp [es]
  refine ⟨by omega, comp_map (f := fun w => .bl (decide (dq w u v < ((rz w qs : Int) : Rat)))) (fun w hw => ⟨_, rfl, ?_⟩) ?_⟩
  · have er := reach_ok hn (wz w hw).1 (wz w hw).2 hp (by omega) (by decide)
    have ea := along_S (wz w hw).1 (wz w hw).2 sx sy (by decide) (by decide)
    rw [show Wy w.1 w.2 = pt w from rfl] at ea
    have sa : Sd 9000 7000 (dq w u v) := Sd.le (Sd.along (wz w hw).1 (wz w hw).2 sx sy (N := 9000) (M := 6940) (by decide) (by decide) (by decide)) (by decide) (by decide)
    have sr : Sd 44 1 ((rz w qs : Int) : Rat) := Sd.int (rz_sz hn (wz w hw).1 (wz w hw).2 hp)
    have eo := order_S sa sr (by decide)
    rw [← R_int] at eo
    simp [ea, er]
    rw [show R ((w.1 : Rat) * u + (w.2 : Rat) * v) = R (dq w u v) from rfl, eo]
    simp [cmpR_neg]
  · refine ⟨_, bls_all (sw qs) (fun w => decide (dq w u v < ((rz w qs : Int) : Rat))), ?_⟩
    rw [Bool.eq_iff_iff]
    unfold Ins
    simp
theorem whole19 (i : Int) : m_is_whole [.int i] () = .ok (.bl true) () := is_whole_ok rfl
theorem is_way19 (w : Int × Int) : m_is_way [pt w] () = .ok (.bl (decide (Int.gcd w.1 w.2 = 1))) () := by
  have e1 : ((Int.gcd w.1 w.2 : Nat) : Int) = 1 ↔ Int.gcd w.1 w.2 = 1 := by omega
  apply oE_eq
  unfold m_is_way b_is_way
  simp [Nxt, fIsi, isi_tupT, oE_compCons, oE_compNil, wipeR, noOwn, whole19, blsD, divisor_ok, pt, e1]
theorem is_share19 (r : Rat) : m_is_share [R r] () = .ok (.bl true) () := by
  have e : Int.gcd r.num (r.den : Int) = 1 := r.reduced
  have p := r.den_pos
  have e0 : atI [D.int r.num, .int (r.den : Int)] 0 = some (.int r.num) := rfl
  have e1 : atI [D.int r.num, .int (r.den : Int)] 1 = some (.int (r.den : Int)) := rfl
  apply oE_eq
  unfold m_is_share b_is_share
  have et : isi (R r) "tuple" = some true := rfl
  simp [Nxt, fIsi, et, e0, e1, whole19, divisor_ok, e]
  try omega
theorem is_spot19 (u v : Rat) : m_is_spot [S2 u v] () = .ok (.bl true) () := by
  have it : fIsi [S2 u v, .ty "tuple"] = some (.bl true) := rfl
  have ln : fLen [S2 u v] = some (.int 2) := rfl
  have ii : itD (S2 u v) = some [R u, R v] := rfl
  have r1 := is_share19 u
  have r2 := is_share19 v
  have fa : fAll [.lst [.bl true, .bl true]] = some (.bl true) := rfl
  apply oE_eq
  unfold m_is_spot b_is_spot
  simp [it, ln, ii, oE_compCons, oE_compNil, wipeR, noOwn, r1, r2, fa, gN]
theorem sOA : dEq (.str "over") (.str "apart") = some (.bl false) := by unfold dEq; rw [eqD_str (by decide +kernel) (by decide +kernel)]; rfl
theorem sAA : dEq (.str "apart") (.str "apart") = some (.bl true) := by unfold dEq; rw [eqD_str (by decide +kernel) (by decide +kernel)]; rfl
theorem sOO : dEq (.str "over") (.str "over") = some (.bl true) := by unfold dEq; rw [eqD_str (by decide +kernel) (by decide +kernel)]; rfl
theorem sAO : dEq (.str "apart") (.str "over") = some (.bl false) := by unfold dEq; rw [eqD_str (by decide +kernel) (by decide +kernel)]; rfl
theorem held_way {b c : B15} {t : Rat} {w : Int × Int} (ob : b.Ok 250 730) (oc : c.Ok 250 730) (ht : Sz 10 t) (hw : Wsz 110 w) (hg : Int.gcd w.1 w.2 = 1) : m_apart_held [b.row, c.row, .tup [.str "apart", pt w], R t] () = .ok (.bl (decide (0 ≤ gapQ b c w t))) () := by
  have g := gap_ok ob oc hw ht.sd (by decide) (by decide) (by decide)
  have f1 : fIsi [D.tup [.str "apart", pt w], .ty "tuple"] = some (.bl true) := rfl
  have iw := is_way19 w
  rw [decide_eq_true hg] at iw
  have x0 : dIx (R (gapQ b c w t)) (.int 0) = some (.int (gapQ b c w t).num) := rfl
  apply oE_eq
  unfold m_apart_held b_apart_held
  simp [f1]
  unfold Nxt
  simp [sAA, iw, g, x0]
open Classical in
def InB (b c : B15) (t : Rat) (v : Pt17) : Prop := Ins b.qs (v.1 - (plc b t).1) (v.2 - (plc b t).2) ∧ Ins c.qs (v.1 - (plc c t).1) (v.2 - (plc c t).2)
open Classical in
theorem held_spot {b c : B15} {t : Rat} {v : Pt17} (ob : b.Ok 250 730) (oc : c.Ok 250 730) (ht : Sz 10 t) (s1 : Sd 3600 2470 v.1) (s2 : Sd 3600 2470 v.2) : m_apart_held [b.row, c.row, .tup [.str "over", sD v], R t] () = .ok (.bl (decide (InB b c t v))) () := by
  have f1 : fIsi [D.tup [.str "over", sD v], .ty "tuple"] = some (.bl true) := rfl
  have p1 := place_after_ok ob ht
  have p2 := place_after_ok oc ht
  have q1 := plc_sd ob ht
  have q2 := plc_sd oc ht
  have w1 := within19 ob.cv ob.hp (by have := ob.hl; omega) q1.1 q1.2 s1 s2
  have w2 := within19 oc.cv oc.hp (by have := oc.hl; omega) q2.1 q2.2 s1 s2
  have is := is_spot19 v.1 v.2
  unfold sD at *
  apply oE_eq
  unfold m_apart_held b_apart_held
  simp [f1]
  unfold Nxt
  simp [sOA]
  unfold Nxt
  simp [sOO, is]
  unfold Nxt
  simp [p1, w1]
  by_cases h1 : Ins b.qs (v.1 - (plc b t).1) (v.2 - (plc b t).2)
  · simp [h1, p2, w2, InB]
  · simp [h1, InB]
theorem gap_plc (b c : B15) (w : Int × Int) (t : Rat) : gapQ b c w t = dq w ((plc c t).1 - (plc b t).1) ((plc c t).2 - (plc b t).2) - ((hz b.qs c.qs w : Int) : Rat) := by
  rw [gap_dq]
  unfold dq plc
  dsimp only
  grind
theorem over_all {b c : B15} {t : Rat} (C1 : Cvx b.qs) (C2 : Cvx c.qs) (o : OverAt b c t) {u : Int × Int} (hu : u ≠ (0, 0)) : gapQ b c u t < 0 := by
  have := sat (px := (plc c t).1 - (plc b t).1) (py := (plc c t).2 - (plc b t).2) C1 C2 (fun w hw => by
    have := o w hw
    rw [gap_plc] at this
    grind) u hu
  rw [gap_plc]
  grind
theorem ngp_ne {w : Int × Int} (h : w ≠ (0, 0)) : ngp w ≠ (0, 0) := fun e => h (by
  have a : -w.1 = 0 := congrArg (·.1) e
  have b : -w.2 = 0 := congrArg (·.2) e
  ext
  · show w.1 = 0; omega
  · show w.2 = 0; omega)
theorem inb_gap {b c : B15} {t : Rat} {v : Pt17} (C1 : Cvx b.qs) (C2 : Cvx c.qs) (h : InB b c t v) {w : Int × Int} (hw : w ≠ (0, 0)) : gapQ b c w t < 0 := by
  have a1 := ins_any C1 h.1 hw
  have a2 := ins_any C2 h.2 (ngp_ne hw)
  rw [dq_ngp] at a2
  rw [gap_plc]
  unfold hz
  rw [Rat.intCast_add]
  generalize ((rz w b.qs : Int) : Rat) = r1 at *
  generalize ((rz (ngp w) c.qs : Int) : Rat) = r2 at *
  unfold dq at *
  grind
theorem Ov.mid_inb {b c : B15} {t : Rat} {E : Nat} (h : Ov b c t E) : InB b c t (mid17 (clipV b c t)) := by
  obtain ⟨z, Λ, F, C, F0, hF, ln, i1, i2⟩ := h.facts
  have e : ∀ (w : Int × Int) (m P : Pt17), dq w (m.1 - P.1) (m.2 - P.2) = lw w m - lw w P := fun w m P => by unfold dq lw; grind
  refine ⟨fun w hw => ?_, fun w hw => ?_⟩
  · have := i1 w hw
    rw [e]
    unfold lnO at this
    grind
  · have := i2 w hw
    rw [e]
    unfold lnO at this
    grind
theorem InB.swap {b c : B15} {t : Rat} {v : Pt17} (h : InB b c t v) : InB c b t v := ⟨h.2, h.1⟩
theorem turned_over (v : Pt17) : m__law_turned [.tup [.str "over", sD v]] () = .ok (.tup [.str "over", sD v]) () := by
  apply oE_eq
  unfold m__law_turned b__law_turned
  simp [sOA]
  unfold Nxt
  simp
theorem turned_way (w : Int × Int) : m__law_turned [.tup [.str "apart", pt w]] () = .ok (.tup [.str "apart", pt (ngp w)]) () := by
  apply oE_eq
  unfold m__law_turned b__law_turned
  simp [sAA, pt_ix0, pt_ix1]
  rfl
def Told19 (b c : B15) (t : Rat) (d : D) : Prop := (OverAt b c t ∧ d = .tup [.str "over", sD (mid17 (clipV b c t))]) ∨ (¬ OverAt b c t ∧ ∃ w ∈ pwy b.qs c.qs, 0 ≤ gapQ b c w t ∧ d = .tup [.str "apart", pt w])
open Classical in
theorem told_held {b c : B15} {E : Nat} {t : Rat} {d : D} (h : Pa b c E) (ht : Sz 10 t) (hd : Told19 b c t d) : m_apart_held [b.row, c.row, d, R t] () = .ok (.bl true) () ∧ ∃ d', m__law_turned [d] () = .ok d' () ∧ m_apart_held [c.row, b.row, d', R t] () = .ok (.bl true) () := by
  rcases hd with ⟨o, rfl⟩ | ⟨o, w, hw, hg, rfl⟩
  · have O := h.ov ht o
    have s := O.mid_sd
    have i := O.mid_inb
    have a1 := held_spot h.ob h.oc ht s.1 s.2
    have a2 := held_spot h.oc h.ob ht s.1 s.2
    rw [decide_eq_true i] at a1
    rw [decide_eq_true i.swap] at a2
    exact ⟨a1, _, turned_over _, a2⟩
  · have g1 := pwy_gcd h.ob.cv h.oc.cv hw
    have ws := pwy_wsz h.ob.cv h.oc.cv h.ob.hp h.oc.hp hw
    have a1 := held_way h.ob h.oc ht (ws.le (show 22 ≤ 110 by decide)) g1
    have a2 := held_way h.oc h.ob ht ((ws.neg).le (show 22 ≤ 110 by decide)) (gcd_ngp g1)
    rw [decide_eq_true hg] at a1
    rw [gap_neg, decide_eq_true hg] at a2
    exact ⟨a1, _, turned_way w, a2⟩
structure Own19 (D : Nat) (v : Pt17) : Prop where
  d1 : Dv (4 * D) v.1
  d2 : Dv (4 * D) v.2
  m1 : Mg 1100 v.1
  m2 : Mg 1100 v.2
theorem Own19.sd {D : Nat} {v : Pt17} (h : Own19 D v) (D0 : 0 < D) (hD : D < 2 ^ 1730) : Sd 3600 2470 v.1 ∧ Sd 3600 2470 v.2 := by
  have l : 4 * D < 2 ^ 1732 := by
    rw [show (2 : Nat) ^ 1732 = 4 * 2 ^ 1730 by rw [show 1732 = 2 + 1730 from rfl, Nat.pow_add]]
    omega
  exact ⟨(SdV h.d1 (by omega) l h.m1).le (by decide) (by decide), (SdV h.d2 (by omega) l h.m2).le (by decide) (by decide)⟩
theorem half_dv {E : Nat} {r s : Rat} (h : Dv E r) (h' : Dv E s) : Dv (E * 2) ((r + s) * (1 / 2)) := (h.add h').mul ⟨1, by show (1 : Rat) = 2 * (1 / 2); grind⟩
theorem half_mg {m : Nat} {r s : Rat} (h : Mg m r) (h' : Mg m s) : Mg m ((r + s) * (1 / 2)) := by
  unfold Mg at *
  constructor <;> grind
theorem mean_ok {n d m e : Nat} {x y u v : Rat} {p q : D} (h1 : IsSp n d x y p) (h2 : IsSp m e u v q) (hn : n + m + d + e ≤ 100000) (hd : d + e + 2 ≤ 8000) : m__law_mean [p, q] () = .ok (S2 ((x + u) * (1 / 2)) ((y + v) * (1 / 2))) () := by
  obtain ⟨f1, e1, i1⟩ := sp_plus (N := n + m + d + e + 1) (M := d + e) h1 h2 (by omega) (by omega) (Nat.le_refl _) (by omega)
  have hf : IsFr 1 2 (1 / 2) (.tup [.int 1, .int 2]) := by
    have := IsFr.mk (n := 1) (d := 2) (a := 1) (b := 2) (by decide) (by decide) (by decide)
    rw [Rat.divInt_eq_div] at this
    exact this
  obtain ⟨f2, e2, i2⟩ := sp_times i1 hf (by omega)
  have e3 := sp_spot i2 (by omega)
  apply oE_eq
  unfold m__law_mean b__law_mean
  simp [e1, e2, e3]
theorem corner_ok19 {b : B15} {t : Rat} {k : Int} (o : b.Ok 250 730) (ht : Sz 10 t) (hk : 0 ≤ k) : ∃ d q, q ∈ b.qs ∧ m__law_corner [b.row, .int k, R t] () = .ok d () ∧ IsSp 1100 992 (mvP (plc b t) q).1 (mvP (plc b t) q).2 d := by
  have h3 := o.cv.len3
  have hl := o.hl
  have f := fmod_pos (a := k) (b := (b.qs.length : Int)) (by omega)
  obtain ⟨q, hq, eq⟩ := at_nat' f.1 f.2
  have hp := o.hp q hq
  obtain ⟨f1, e1, i1⟩ := sp_times (IsSp.of o.s3 o.s4) (IsFr.of ht) (by decide)
  obtain ⟨f2, e2, i2⟩ := sp_plus (N := 1000) (M := 990) (IsSp.of o.s1 o.s2) i1 (by decide) (by decide) (by decide) (by decide)
  obtain ⟨f3, e3, i3⟩ := sp_plus (N := 1100) (M := 992) i2 (IsSp.mk (IsFr.int hp.1) (IsFr.int hp.2)) (by decide) (by decide) (by decide) (by decide)
  refine ⟨f3, q, hq, ?_, i3⟩
  apply oE_eq
  unfold m__law_corner b__law_corner
  simp [eq]
  refine ⟨fun z => by rw [z] at h3; simp at h3, ?_⟩
  unfold Nxt
  simp [e1, e2]
  unfold Nxt
  simp [pt_ix0, pt_ix1, e3]
theorem corner_own {b : B15} {t : Rat} {E : Nat} {q : Int × Int} (o : b.Ok 250 730) (ht : Sz 10 t) (d : Dv (E * t.den) (plc b t).1 ∧ Dv (E * t.den) (plc b t).2) (hq : q ∈ b.qs) : (Dv (E * t.den) (mvP (plc b t) q).1 ∧ Dv (E * t.den) (mvP (plc b t) q).2) ∧ Mg 742 (mvP (plc b t) q).1 ∧ Mg 742 (mvP (plc b t) q).2 := by
  have m := plc_mg o ht
  have hp := o.hp q hq
  exact ⟨⟨d.1.add (Dv.int _ _), d.2.add (Dv.int _ _)⟩, m.1.add ((Mg.int (n := 21) (k := q.1) (Nat.le_of_lt hp.1)).mono (by decide)), m.2.add ((Mg.int (n := 21) (k := q.2) (Nat.le_of_lt hp.2)).mono (by decide))⟩
def W19 (w : Int × Int) : Prop := Int.gcd w.1 w.2 = 1 ∧ Wsz 110 w
theorem law_way19 {p q : Int} (h : p ≠ 0 ∨ q ≠ 0) (hp : p.natAbs < 2 ^ 110) (hq : q.natAbs < 2 ^ 110) : ∃ w, m__law_way [.int p, .int q] () = .ok (pt w) () ∧ W19 w :=
  ⟨_, law_way_nw h (lt_up hp (by decide)) (lt_up hq (by decide)), nw_gcd h, nw_sz h hp hq⟩
theorem some_wp {ns : List Int} {a : Addr} {n : Nat} {t : Dk} {b c : B15} {Q : D → Dk → Prop} {X : Str → Fds → Dk → Prop} (g : Gd ns a n t) (hc : n < 1000000) (ob : b.Ok 250 730) (oc : c.Ok 250 730) (h : ∀ (ws : List (Int × Int)) (t' : Dk), (∀ w ∈ ws, W19 w) → ws.length ≤ 100 → Q (.lst (ws.map pt)) t') :
    oE (m__law_some_ways [.at a, b.row, c.row] t) Q X := by
  have bl := ob.hl
  have cl := oc.hl
  have pw := law_pair_waysF ob.cv oc.cv ob.hp oc.hp (by omega) (by omega) (B15.ix1 (b := b)) (B15.ix1 (b := c))
  have pl := pwy_len (qs := b.qs) (rs := c.qs)
  have pg : ∀ w ∈ pwy b.qs c.qs, W19 w := fun w hw => ⟨pwy_gcd ob.cv oc.cv hw, (pwy_wsz ob.cv oc.cv ob.hp oc.hp hw).le (by decide)⟩
  unfold m__law_some_ways b__law_some_ways
  simp [pw]
  unfold Nxt
  simp
  unfold rngD
  obtain ⟨I, hI⟩ : ∃ I : List Nat → List Nat → Rho → Dk → Prop, I = fun dn _ ρ t => Gd ns a (n + 10 * dn.length) t ∧ ∃ (ws : List (Int × Int)) (s4 : Slot), ρ = [.val (.at a), .val b.row, .val c.row, .own (ws.map pt), s4] ∧ (∀ w ∈ ws, W19 w) ∧ ws.length ≤ 40 + dn.length := ⟨_, rfl⟩
  refine oS_loopE I (List.range 3) (by rw [hI]; exact ⟨g.le (by simp), _, _, rfl, pg, by simp; omega⟩) ?_ ?_
  · intro dn i td ρ t1 eq hh
    rw [hI] at hh
    obtain ⟨gg, ws, s4, rfl, hw, wl⟩ := hh
    obtain ⟨rfl, hi⟩ := range_split eq
    refine ⟨_, rfl, ?_⟩
    simp
    refine take_wp gg (by omega) (many_of (by decide) (by decide)) fun u t2 u0 u1 g2 => ?_
    simp
    refine take_wp g2 (by omega) (many_of (by decide) (by decide)) fun v t3 v0 v1 g3 => ?_
    simp
    obtain ⟨w, ew, w1⟩ := law_way19 (p := u - 99) (q := 1 + v) (.inr (by omega)) (Nat.lt_of_lt_of_le (show (u - 99).natAbs < 2 ^ 10 by omega) (by decide)) (Nat.lt_of_lt_of_le (show (1 + v).natAbs < 2 ^ 10 by omega) (by decide))
    rw [ew]
    refine ⟨by omega, ?_⟩
    rw [hI]
    refine ⟨g3.le (by simp; omega), ws ++ [w], .val (.int dn.length), by simp, fun x hx => ?_, by simp; omega⟩
    rcases List.mem_append.mp hx with hx | hx
    · exact hw x hx
    · rw [List.mem_singleton.mp hx]; exact w1
  · intro ρ t1 hh
    rw [hI] at hh
    obtain ⟨gg, ws, s4, rfl, hw, wl⟩ := hh
    simp at gg wl
    unfold Nxt
    simp
    refine long_wp gg (by omega) (by decide) (by decide) fun u t2 u0 u1 g2 => ?_
    simp
    refine long_wp g2 (by omega) (by decide) (by decide) fun v t3 v0 v1 g3 => ?_
    have ub : u.natAbs < 2 ^ 100 := Nat.lt_of_lt_of_le u1 (by decide)
    have vb : v.natAbs < 2 ^ 100 := Nat.lt_of_lt_of_le v1 (by decide)
    have u2 : (1 + u).natAbs < 2 ^ 110 := Nat.lt_of_le_of_lt (show (1 + u).natAbs ≤ 2 ^ 100 by omega) (by decide)
    obtain ⟨w, ew, w1⟩ := law_way19 (p := 1 + u) (q := v) (.inl (by omega)) u2 (lt_up vb (by decide))
    rw [ew]
    refine ⟨by omega, ?_⟩
    have la : atI (ws.map pt ++ [pt w]) (-1) = some (pt w) := at_last17 _ _
    unfold Nxt
    simp [la, pt_ix0, pt_ix1]
    refine ⟨by omega, ?_⟩
    have e : ws.map pt ++ (pt w :: [D.tup [.int (-w.1), .int w.2], .tup [.int 0, .int (-1)], .tup [.int 1, .int 0]]) = (ws ++ [w, (-w.1, w.2), (0, -1), (1, 0)]).map pt := by simp [pt]
    have := h (ws ++ [w, (-w.1, w.2), (0, -1), (1, 0)]) t3 (fun x hx => ?_) (by simp; omega)
    · rw [← e] at this
      exact this
    · rcases List.mem_append.mp hx with hx | hx
      · exact hw x hx
      · simp only [List.mem_cons, List.not_mem_nil, or_false] at hx
        rcases hx with rfl | rfl | rfl | rfl
        · exact w1
        · refine ⟨?_, ?_⟩
          · show Int.gcd (-w.1) w.2 = 1
            rw [Int.neg_gcd]; exact w1.1
          · exact ⟨by show (-w.1).natAbs < _; rw [Int.natAbs_neg]; exact w1.2.1, w1.2.2⟩
        · exact ⟨by decide, by decide, by decide⟩
        · exact ⟨by decide, by decide, by decide⟩
theorem six_of {cs : List Int} (h : cs.length = 6) : ∃ a b c d e f, cs = [a, b, c, d, e, f] := by
  match cs, h with
  | [a, b, c, d, e, f], _ => exact ⟨a, b, c, d, e, f, rfl⟩
structure Cn19 (b : B15) (t : Rat) (E : Nat) (d : D) (v : Pt17) : Prop where
  sp : IsSp 1100 992 v.1 v.2 d
  d1 : Dv (E * t.den) v.1
  d2 : Dv (E * t.den) v.2
  m1 : Mg 742 v.1
  m2 : Mg 742 v.2
theorem corners19 {b : B15} {t : Rat} {E : Nat} (o : b.Ok 250 730) (ht : Sz 10 t) (dv : Dv (E * t.den) (plc b t).1 ∧ Dv (E * t.den) (plc b t).2) : ∃ (f : Int → D) (g : Int → Pt17), ∀ k, 0 ≤ k → m__law_corner [b.row, .int k, R t] () = .ok (f k) () ∧ Cn19 b t E (f k) (g k) := by
  have key : ∀ k : Int, ∃ p : D × Pt17, 0 ≤ k → m__law_corner [b.row, .int k, R t] () = .ok p.1 () ∧ Cn19 b t E p.1 p.2 := fun k => by
    by_cases hk : 0 ≤ k
    · obtain ⟨d, q, hq, e, i⟩ := corner_ok19 o ht hk
      have own := corner_own o ht dv hq
      exact ⟨(d, _), fun _ => ⟨e, i, own.1.1, own.1.2, own.2.1, own.2.2⟩⟩
    · exact ⟨(.non, (0, 0)), fun z => absurd z hk⟩
  obtain ⟨F, hF⟩ := Classical.axiomOfChoice key
  exact ⟨fun k => (F k).1, fun k => (F k).2, hF⟩
structure Mn19 (E : Nat) (v : Pt17) : Prop where
  d1 : Dv E v.1
  d2 : Dv E v.2
  m1 : Mg 742 v.1
  m2 : Mg 742 v.2
theorem two_mean {b b' : B15} {t : Rat} {E : Nat} {d d' : D} {v v' : Pt17} (h : Cn19 b t E d v) (h' : Cn19 b' t E d' v') : ∃ u, m__law_mean [d, d'] () = .ok (sD u) () ∧ Mn19 (E * t.den * 2) u :=
  ⟨((v.1 + v'.1) * (1 / 2), (v.2 + v'.2) * (1 / 2)), mean_ok h.sp h'.sp (by decide) (by decide), half_dv h.d1 h'.d1, half_dv h.d2 h'.d2, half_mg h.m1 h'.m1, half_mg h.m2 h'.m2⟩
theorem mean_mean {F : Nat} {v v' : Pt17} (F0 : 0 < F) (FL : F < 2 ^ 1731) (h : Mn19 F v) (h' : Mn19 F v') : ∃ u, m__law_mean [sD v, sD v'] () = .ok (sD u) () ∧ Mn19 (F * 2) u := by
  have i1 : IsSp 2500 1731 v.1 v.2 (sD v) := ⟨_, _, rfl, .sdof ((SdV h.d1 F0 FL h.m1).le (by decide) (by decide)), .sdof ((SdV h.d2 F0 FL h.m2).le (by decide) (by decide))⟩
  have i2 : IsSp 2500 1731 v'.1 v'.2 (sD v') := ⟨_, _, rfl, .sdof ((SdV h'.d1 F0 FL h'.m1).le (by decide) (by decide)), .sdof ((SdV h'.d2 F0 FL h'.m2).le (by decide) (by decide))⟩
  exact ⟨((v.1 + v'.1) * (1 / 2), (v.2 + v'.2) * (1 / 2)), mean_ok i1 i2 (by decide) (by decide), half_dv h.d1 h'.d1, half_dv h.d2 h'.d2, half_mg h.m1 h'.m1, half_mg h.m2 h'.m2⟩
theorem own_of {E : Nat} {v : Pt17} {k m : Nat} (hk : k ∣ 4) (h1 : Dv (E * k) v.1) (h2 : Dv (E * k) v.2) (m1 : Mg m v.1) (m2 : Mg m v.2) (hm : m ≤ 1100) : Own19 E v := by
  have d : E * k ∣ 4 * E := by rw [Nat.mul_comm]; exact Nat.mul_dvd_mul_right hk E
  exact ⟨h1.mono d, h2.mono d, m1.mono hm, m2.mono hm⟩
noncomputable def rs6 : MSf Dk := (retE (e2 fCat (eVarW 9) (eLst (e1 lim (aCons (eCall m__law_spot [] (aCons (e2 dIx (eVarW 5) (eC (.int 0))) aNil)) aNil)))))
noncomputable def rs5 : MSf Dk := seqF (sAsg (gN 9) (e2 dAdd (eVarW 9) (eLst (e1 lim (aCons (eCall m__law_mean [] (aCons (e2 dIx (eVarW 6) (eC (.int 1))) (aCons (e2 dIx (eVarW 6) (eC (.int 2))) aNil))) (aCons (eCall m__law_mean [] (aCons (e2 dIx (eVarW 5) (eC (.int 3))) (aCons (e2 dIx (eVarW 6) (eC (.int 3))) aNil))) aNil)))))) rs6
noncomputable def rs4 : MSf Dk := seqF (sAsg (gN 9) (eLst (e1 lim (aCons (eCall m__law_mean [] (aCons (eVar 7) (aCons (eVar 8) aNil))) (aCons (eCall m__law_mean [] (aCons (e2 dIx (eVarW 5) (eC (.int 1))) (aCons (e2 dIx (eVarW 5) (eC (.int 2))) aNil))) aNil))))) rs5
noncomputable def rs3 : MSf Dk := seqF (sPar 7 8 (eCall m__law_mean [] (aCons (e2 dIx (eVarW 5) (eC (.int 4))) (aCons (e2 dIx (eVarW 5) (eC (.int 5))) aNil))) (eCall m__law_mean [] (aCons (e2 dIx (eVarW 6) (eC (.int 4))) (aCons (e2 dIx (eVarW 6) (eC (.int 5))) aNil)))) rs4
noncomputable def rs2 : MSf Dk := seqF (sAsg (gN 6) (eLst (eComp (e1 itD (eVar 4)) [11] (gN 11) (fun _ t => .ok true t) (eCall m__law_corner [] (aCons (eVar 2) (aCons (eVar 11) (aCons (eVar 3) aNil))))))) rs3
noncomputable def rs1 : MSf Dk := seqF (sAsg (gN 5) (eLst (eComp (e1 itD (eVar 4)) [11] (gN 11) (fun _ t => .ok true t) (eCall m__law_corner [] (aCons (eVar 1) (aCons (eVar 11) (aCons (eVar 3) aNil))))))) rs2
theorem spots_split : b__law_spots = seqF (sAsg (gN 4) (eLst (eComp (e1 fRng1 (aCons (eC (.int 6)) aNil)) [10] (gN 10) (fun _ t => .ok true t) (eCallS m__law_take [] (aCons (eVar 0) (aCons (eC (.int 8)) aNil)))))) rs1 := rfl
theorem spots_wp {ns : List Int} {a : Addr} {n : Nat} {st : Dk} {b c : B15} {t : Rat} {E : Nat} {Q : List D → Dk → Prop} {X : Str → Fds → Dk → Prop} (g : Gd ns a n st) (hc : n < 1000000) (ob : b.Ok 250 730) (oc : c.Ok 250 730) (ht : Sz 10 t) (E0 : 0 < E * t.den) (EL : E * t.den < 2 ^ 1730) (db : Dv (E * t.den) (plc b t).1 ∧ Dv (E * t.den) (plc b t).2) (dc : Dv (E * t.den) (plc c t).1 ∧ Dv (E * t.den) (plc c t).2)
    (h : ∀ (vs : List Pt17) (t' : Dk), (∀ v ∈ vs, Own19 (E * t.den) v) → vs.length = 5 → Gd ns a (n + 20) t' → Q (vs.map sD) t') : oE (mF__law_spots [.at a, b.row, c.row, R t] st) Q X := by
  obtain ⟨fb, gb, hb⟩ := corners19 ob ht db
  obtain ⟨fc, gc, hC⟩ := corners19 oc ht dc
  unfold mF__law_spots
  rw [oE_runF, spots_split, oE_seqF]
  simp
  have rl : (rngD 0 6).length = 6 := rfl
  refine ⟨by rw [rl]; decide, comp_wp (p := fun _ y => ∃ k : Int, y = .int k ∧ 0 ≤ k) (k := 1) (B := n + 100) _ (fun d hd m t1 g1 hm => ⟨_, rfl, ?_⟩) _ st g (by rw [rl]; omega) fun ys t1 hys g1 => ?_⟩
  · simp [wipeR]
    exact take_wp g1 (by omega) (many_of (by decide) (by decide)) fun u t2 u0 u1 g2 => ⟨⟨u, rfl, u0⟩, g2⟩
  obtain ⟨ks, rfl, hk, kl⟩ := pw_ints hys
  rw [rl] at kl g1
  unfold rs1
  rw [oE_seqF]
  simp
  refine ⟨by omega, comp_map (enc := D.int) (f := fb) (xs := ks) (fun k mk => ⟨_, rfl, ?_⟩) ?_⟩
  · simp [(hb k (hk k mk)).1]
  unfold rs2
  rw [oE_seqF]
  simp
  refine ⟨by omega, comp_map (enc := D.int) (f := fc) (xs := ks) (fun k mk => ⟨_, rfl, ?_⟩) ?_⟩
  · simp [(hC k (hk k mk)).1]
  obtain ⟨k0, k1, k2, k3, k4, k5, rfl⟩ := six_of kl
  have B0 := hb k0 (hk _ (by simp))
  have B1 := hb k1 (hk _ (by simp))
  have B2 := hb k2 (hk _ (by simp))
  have B3 := hb k3 (hk _ (by simp))
  have B4 := hb k4 (hk _ (by simp))
  have B5 := hb k5 (hk _ (by simp))
  have C1 := hC k1 (hk _ (by simp))
  have C2 := hC k2 (hk _ (by simp))
  have C3 := hC k3 (hk _ (by simp))
  have C4 := hC k4 (hk _ (by simp))
  have C5 := hC k5 (hk _ (by simp))
  obtain ⟨lo, l1, lm⟩ := two_mean B4.2 B5.2
  obtain ⟨hi, h1, hm⟩ := two_mean C4.2 C5.2
  obtain ⟨v1, p1, pm⟩ := two_mean B1.2 B2.2
  obtain ⟨v2, q1, qm⟩ := two_mean C1.2 C2.2
  obtain ⟨v3, r1, rm⟩ := two_mean B3.2 C3.2
  have E2 : E * t.den * 2 < 2 ^ 1731 := by rw [Nat.pow_succ]; omega
  obtain ⟨v0, mm, m0⟩ := mean_mean (by omega) E2 lm hm
  have c0 : m__law_spot [fb k0] () = .ok (sD (gb k0)) () := sp_spot B0.2.sp (by decide)
  unfold rs3
  rw [oE_seqF]
  simp [l1, h1]
  unfold rs4
  rw [oE_seqF]
  simp [p1, mm]
  unfold rs5
  rw [oE_seqF]
  simp [q1, r1]
  unfold rs6
  rw [oE_retE]
  simp [c0]
  have := h [v0, v1, v2, v3, gb k0] t1 (fun v hv => ?_) rfl (g1.le (by omega))
  · exact this
  · simp only [List.mem_cons, List.not_mem_nil, or_false] at hv
    rcases hv with rfl | rfl | rfl | rfl | rfl
    · refine own_of (k := 4) (m := 742) (by decide) ?_ ?_ m0.m1 m0.m2 (by decide)
      · have := m0.d1; rwa [Nat.mul_assoc] at this
      · have := m0.d2; rwa [Nat.mul_assoc] at this
    · exact own_of (by decide) pm.d1 pm.d2 pm.m1 pm.m2 (by decide)
    · exact own_of (by decide) qm.d1 qm.d2 qm.m1 qm.m2 (by decide)
    · exact own_of (by decide) rm.d1 rm.d2 rm.m1 rm.m2 (by decide)
    · refine own_of (k := 1) (m := 742) (by decide) ?_ ?_ B0.2.m1 B0.2.m2 (by decide)
      · rw [Nat.mul_one]; exact B0.2.d1
      · rw [Nat.mul_one]; exact B0.2.d2
open Classical in
theorem last19 {ns : List Int} {a : Addr} {n : Nat} {b c : B15} {E : Nat} {t w : Rat} {vs : List Pt17} {st : Dk} {s7 s8 : Slot} {P : Pt Dk} (H : Pa b c E) (ht : Sz 10 t) (g : Gd ns a n st) (hn : n < 100000) (hv : ∀ v ∈ vs, Own19 (E * t.den) v) (vl : vs.length ≤ 100) (E0 : 0 < E * t.den) (EL : E * t.den < 2 ^ 1730) (o7 : s7.nown = true) (o8 : s8.nown = true) (hP : ∀ t, P.rt (.bl true) t) :
    oS (sFrz 6 (sSeq (sAsg (gN 9) (eCallS m__law_some_ways [] (aCons (eVar 1) (aCons (eVar 2) (aCons (eVar 3) aNil)))))
  (sSeq (sAsg (gN 10) (eLst (eComp (e1 itD (eVar 9)) [13] (gN 13) (e1 truth (eCall m_apart_held [] (aCons (eVar 2) (aCons (eVar 3) (aCons (eTup (aCons (eC (.str "apart")) (aCons (eVar 13) aNil))) (aCons (eVar 5) aNil)))))) (eVar 13))))
  (sSeq (sAsg (gN 11) (eLst (eComp (e1 itD (eVar 6)) [14] (gN 14) (e1 truth (eCall m_apart_held [] (aCons (eVar 2) (aCons (eVar 3) (aCons (eTup (aCons (eC (.str "over")) (aCons (eVar 14) aNil))) (aCons (eVar 5) aNil)))))) (eVar 14))))
  (sSeq (sAsg (gN 12) (eCall m_apart [] (aCons (eVar 2) (aCons (eVar 3) (aCons (eVar 5) aNil)))))
  (sSeq (sIf (tOr2 (tNot1 (e1 truth (eCall m_apart_held [] (aCons (eVar 2) (aCons (eVar 3) (aCons (eVar 12) (aCons (eVar 5) aNil))))))) (tNot1 (e1 truth (eCall m_apart_held [] (aCons (eVar 3) (aCons (eVar 2) (aCons (eCall m__law_turned [] (aCons (eVar 12) aNil)) (aCons (eVar 5) aNil)))))))) (sRet (eC (.bl false))) sSkip)
  (sSeq (sIf (e1 asB (e2 dEq (e2 dIx (eVarW 12) (eC (.int 0))) (eC (.str "over")))) (sRet (e2 dEq (eVarW 10) (eLst (e1 lim aNil)))) sSkip)
  (sRet (eAnd2 (e2 dEq (e2 dIx (eVarW 12) (eC (.int 0))) (eC (.str "apart"))) (e2 dEq (eVarW 11) (eLst (e1 lim aNil))))))))))) [.val (.scr ns), .val (.at a), .val b.row, .val c.row, .val (R w), .val (R t), .own (vs.map sD), s7, s8, .no, .no, .no, .no, .no, .no] st) P := by
  obtain ⟨d, ed, hd⟩ := apart_ok H ht
  obtain ⟨k1, d', k2, k3⟩ := told_held H ht hd
  simp
  refine some_wp g (by omega) H.ob H.oc fun ws t1 hw wl => ?_
  unfold Nxt
  simp
  refine ⟨by omega, comp_filt (enc := pt) (f := pt) (p := fun w => decide (0 ≤ gapQ b c w t)) (xs := ws) (fun x hx => ⟨_, rfl, ?_, fun _ => ?_⟩) ?_⟩
  · have e := held_way H.ob H.oc ht (hw x hx).2 (hw x hx).1
    simp [e]
    exact (Classical.em _).symm
  · simp
  unfold Nxt
  simp
  refine ⟨by omega, comp_filt (enc := sD) (f := sD) (p := fun v => decide (InB b c t v)) (xs := vs) (fun x hx => ⟨_, rfl, ?_, fun _ => ?_⟩) ?_⟩
  · have s := (hv x hx).sd E0 EL
    have e := held_spot H.ob H.oc ht s.1 s.2
    simp [e]
    exact (Classical.em _).symm
  · simp
  unfold Nxt
  simp [ed]
  unfold Nxt
  simp [k1, k2, k3]
  unfold Nxt
  have nl : dEq (.lst []) (.lst []) = some (.bl true) := by unfold dEq; rfl
  rcases hd with ⟨o, rfl⟩ | ⟨o, w, hw', hg, rfl⟩
  · have e0 : ws.filter (fun w => decide (0 ≤ gapQ b c w t)) = [] := by
      rw [List.filter_eq_nil_iff]
      intro x hx z
      have := over_all H.ob.cv H.oc.cv o (gcd_ne0 (hw x hx).1)
      exact absurd (of_decide_eq_true z) (Rat.not_le.mpr this)
    simp [sOO, e0]
    exact ⟨_, nl, hP _⟩
  · have e0 : vs.filter (fun v => decide (InB b c t v)) = [] := by
      rw [List.filter_eq_nil_iff]
      intro x hx z
      have := inb_gap H.ob.cv H.oc.cv (of_decide_eq_true z) (gcd_ne0 (pwy_gcd H.ob.cv H.oc.cv hw'))
      exact absurd hg (Rat.not_le.mpr this)
    simp [sAO, e0]
    unfold Nxt
    simp [sAA]
    exact ⟨_, nl, hP _⟩
theorem rest19 {ns : List Int} {a : Addr} {n : Nat} {b c : B15} {E : Nat} {t w : Rat} {st : Dk} {P : Pt Dk} (H : Pa b c E) (ht : Sz 10 t) (g : Gd ns a n st) (hn : n < 10000) (hP : ∀ t, P.rt (.bl true) t) :
    oS (sSeq (sOwn 6 (eCallFS mF__law_spots (aCons (eVar 1) (aCons (eVar 2) (aCons (eVar 3) (aCons (eVar 5) aNil))))))
  (sSeq (sFor (e1 fRng1 (aCons (eC (.int 3)) aNil)) (gN 7) (sSeq (sAsg (gN 8) (eTup (aCons (eTup (aCons (e2 dSub (eCallS m__law_take [] (aCons (eVar 1) (aCons (eC (.int 41)) aNil))) (eC (.int 20))) (aCons (eC (.int 4)) aNil))) (aCons (eTup (aCons (e2 dSub (eCallS m__law_take [] (aCons (eVar 1) (aCons (eC (.int 41)) aNil))) (eC (.int 20))) (aCons (eC (.int 4)) aNil))) aNil))))
  (sApp 6 (eCall m__law_spot [] (aCons (eCall m__law_spot_plus [] (aCons (eCall m__law_corner [] (aCons (eVar 2) (aCons (eVar 7) (aCons (eVar 5) aNil)))) (aCons (eVar 8) aNil))) aNil)))))
  (sFrz 6 (sSeq (sAsg (gN 9) (eCallS m__law_some_ways [] (aCons (eVar 1) (aCons (eVar 2) (aCons (eVar 3) aNil)))))
  (sSeq (sAsg (gN 10) (eLst (eComp (e1 itD (eVar 9)) [13] (gN 13) (e1 truth (eCall m_apart_held [] (aCons (eVar 2) (aCons (eVar 3) (aCons (eTup (aCons (eC (.str "apart")) (aCons (eVar 13) aNil))) (aCons (eVar 5) aNil)))))) (eVar 13))))
  (sSeq (sAsg (gN 11) (eLst (eComp (e1 itD (eVar 6)) [14] (gN 14) (e1 truth (eCall m_apart_held [] (aCons (eVar 2) (aCons (eVar 3) (aCons (eTup (aCons (eC (.str "over")) (aCons (eVar 14) aNil))) (aCons (eVar 5) aNil)))))) (eVar 14))))
  (sSeq (sAsg (gN 12) (eCall m_apart [] (aCons (eVar 2) (aCons (eVar 3) (aCons (eVar 5) aNil)))))
  (sSeq (sIf (tOr2 (tNot1 (e1 truth (eCall m_apart_held [] (aCons (eVar 2) (aCons (eVar 3) (aCons (eVar 12) (aCons (eVar 5) aNil))))))) (tNot1 (e1 truth (eCall m_apart_held [] (aCons (eVar 3) (aCons (eVar 2) (aCons (eCall m__law_turned [] (aCons (eVar 12) aNil)) (aCons (eVar 5) aNil)))))))) (sRet (eC (.bl false))) sSkip)
  (sSeq (sIf (e1 asB (e2 dEq (e2 dIx (eVarW 12) (eC (.int 0))) (eC (.str "over")))) (sRet (e2 dEq (eVarW 10) (eLst (e1 lim aNil)))) sSkip)
  (sRet (eAnd2 (e2 dEq (e2 dIx (eVarW 12) (eC (.int 0))) (eC (.str "apart"))) (e2 dEq (eVarW 11) (eLst (e1 lim aNil))))))))))))) [.val (.scr ns), .val (.at a), .val b.row, .val c.row, .val (R w), .val (R t), .no, .no, .no, .no, .no, .no, .no, .no, .no] st) P := by
  have D0 : 0 < E * t.den ∧ E * t.den < 2 ^ 1730 := by
    refine ⟨Nat.mul_pos H.db.pos t.den_pos, ?_⟩
    have := Nat.mul_lt_mul'' H.db.lt ht.sd.de
    rw [← Nat.pow_add] at this
    exact this
  have dP := plc_dv (t := t) H.db.b1 H.db.b2 H.db.b3 H.db.b4
  have dQ := plc_dv (t := t) H.db.c1 H.db.c2 H.db.c3 H.db.c4
  simp
  refine spots_wp g (by omega) H.ob H.oc ht D0.1 D0.2 dP dQ fun vs t1 hv vl g1 => ?_
  unfold Nxt
  simp
  unfold rngD
  obtain ⟨I, hI⟩ : ∃ I : List Nat → List Nat → Rho → Dk → Prop, I = fun dn _ ρ st => Gd ns a (n + 20 + 10 * dn.length) st ∧ ∃ (vs : List Pt17) (s7 s8 : Slot), ρ = [.val (.scr ns), .val (.at a), .val b.row, .val c.row, .val (R w), .val (R t), .own (vs.map sD), s7, s8, .no, .no, .no, .no, .no, .no] ∧ (∀ v ∈ vs, Own19 (E * t.den) v) ∧ vs.length = 5 + dn.length ∧ s7.nown = true ∧ s8.nown = true := ⟨_, rfl⟩
  refine oS_loopE I (List.range 3) (by rw [hI]; exact ⟨g1.le (by simp), vs, .no, .no, rfl, hv, by simp [vl], rfl, rfl⟩) ?_ ?_
  · intro dn i td ρ st1 eq hh
    rw [hI] at hh
    obtain ⟨gg, us, s7, s8, rfl, hu, ul, o7, o8⟩ := hh
    obtain ⟨rfl, hi⟩ := range_split eq
    obtain ⟨d, q, hq, ec, isp⟩ := corner_ok19 (k := (dn.length : Int)) H.ob ht (by omega)
    have own := corner_own H.ob ht dP hq
    refine ⟨_, rfl, ?_⟩
    simp
    refine take_wp gg (by omega) (many_of (by decide) (by decide)) fun x t2 x0 x1 g2 => ?_
    simp
    refine take_wp g2 (by omega) (many_of (by decide) (by decide)) fun y t3 y0 y1 g3 => ?_
    simp
    unfold Nxt
    simp [ec]
    have ix : IsFr 6 3 (Rat.divInt (x - 20) 4) (.tup [.int (x - 20), .int 4]) := IsFr.mk (by decide) (show (x - 20).natAbs < 2 ^ 6 by omega) (by decide)
    have iy : IsFr 6 3 (Rat.divInt (y - 20) 4) (.tup [.int (y - 20), .int 4]) := IsFr.mk (by decide) (show (y - 20).natAbs < 2 ^ 6 by omega) (by decide)
    obtain ⟨f, ef, fi⟩ := sp_plus (N := 1200) (M := 1000) isp (IsSp.mk ix iy) (by decide) (by decide) (by decide) (by decide)
    have es := sp_spot fi (by decide)
    have d4 : ∀ z : Int, Dv 4 (Rat.divInt z 4) := fun z => ⟨z, by rw [Rat.divInt_eq_div, Rat.mul_comm]; exact (Rat.div_mul_cancel (by decide)).symm⟩
    have ow : Own19 (E * t.den) ((mvP (plc b t) q).1 + Rat.divInt (x - 20) 4, (mvP (plc b t) q).2 + Rat.divInt (y - 20) 4) := by
      refine ⟨(own.1.1.mono ⟨4, Nat.mul_comm _ _⟩).add ((d4 _).mono ⟨E * t.den, rfl⟩), (own.1.2.mono ⟨4, Nat.mul_comm _ _⟩).add ((d4 _).mono ⟨E * t.den, rfl⟩), ?_, ?_⟩
      · exact (own.2.1.add ((Mg.of ix.sd).mono (by decide))).mono (by decide)
      · exact (own.2.2.add ((Mg.of iy.sd).mono (by decide))).mono (by decide)
    rw [ef]
    simp [es]
    refine ⟨by omega, ?_⟩
    rw [hI]
    refine ⟨g3.le (by simp; omega), us ++ [((mvP (plc b t) q).1 + Rat.divInt (x - 20) 4, (mvP (plc b t) q).2 + Rat.divInt (y - 20) 4)], .val (.int dn.length), .val (.tup [.tup [.int (x - 20), .int 4], .tup [.int (y - 20), .int 4]]), by simp [sD], fun v hv => ?_, by simp; omega, rfl, rfl⟩
    rcases List.mem_append.mp hv with hv | hv
    · exact hu v hv
    · rw [List.mem_singleton.mp hv]; exact ow
  · intro ρ st1 hh
    rw [hI] at hh
    obtain ⟨gg, us, s7, s8, rfl, hu, ul, o7, o8⟩ := hh
    simp at ul gg
    unfold Nxt
    exact last19 H ht gg (by omega) hu (by omega) D0.1 D0.2 o7 o8 hP

-- opts: kinds=_law_shape|sorted([(_law_number(_law_deck_here, _law_span), _law_number(_law_deck_here, _law_span)) for _law_turn in range(_law_many)])|d;_law_pair_ways|sorted(_law_found)|d;pair_ways|sorted(list(found))|d ## cut=a
theorem law_good (ns : List Int) (hl : ns.length ≤ 63) (hb : ∀ z ∈ ns, Builtin.Int.intBits z ≤ 1048576) : lawIs 15 m__law_deck b_law ns := by
  obtain ⟨big, eb⟩ := deck_ok ns hl
  refine ⟨_, big, eb, fun a b => ?_⟩
  have key : oS (b_law ((Slot.val (.scr ns) :: List.replicate (15 - 1) .no).set 1 (.val (.at a))) ⟨a, b, .lst (ns.map .int), big, 0, 0⟩) { nx := fun _ _ => False, rt := fun d _ => d = .bl true } := by
    unfold b_law
    simp
    refine pair_wp17 (n := 0) ⟨rfl, rfl, Nat.zero_le _⟩ (by omega) fun b c w t1 ob oc lb lc ⟨E, db⟩ w0 ws g1 => ?_
    have H : Pa b c E := ⟨ob, oc, lb, lc, db⟩
    simp
    unfold Nxt
    simp
    refine take_wp g1 (by omega) (many_of (by decide) (by decide)) fun u t2 u0 u1 g2 => ?_
    simp
    refine take_wp g2 (by omega) (many_of (by decide) (by decide)) fun v t3 v0 v1 g3 => ?_
    simp
    rw [law_share_pos (by omega) (up8 (n := 4) (by omega) (by decide))]
    have sx : Sz 10 (Rat.divInt (-u) (1 + v)) := divInt_sz (by omega) (by omega) (by omega)
    generalize Rat.divInt (-u) (1 + v) = x at *
    simp only [oE_ok]
    refine take_wp g3 (by omega) (many_of (by decide) (by decide)) fun i t4 i0 i1 g4 => ?_
    have t0 : Sz 10 (0 : Rat) := ⟨by decide, by decide⟩
    have : i = 0 ∨ i = 1 ∨ i = 2 := by omega
    rcases this with rfl | rfl | rfl
    · exact ⟨_, rfl, rest19 H (ws.le (by decide)) g4 (by omega) fun _ => rfl⟩
    · exact ⟨_, rfl, rest19 (t := 0) H t0 g4 (by omega) fun _ => rfl⟩
    · exact ⟨_, rfl, rest19 H sx g4 (by omega) fun _ => rfl⟩
  obtain ⟨d, t, e, rfl⟩ := oS_rtEx key
  exact ⟨t, e⟩

end MM

noncomputable section
namespace MM
open PySem PySem.Spec PyProof.Rows L2
structure Fx (K : Fg) (mg : Str → Option Value) : Prop where
  z_int : mg "int" = none
  z_isinstance : mg "isinstance" = none
  z_bool : mg "bool" = none
  f_is_whole : ∃ fd, FunD K "is_whole" "is_whole" (defArgs (top 6)) (defBody (top 6)) (defScope (top 6)) [] [] (He.ga K "is_whole") fd
  g_is_whole : mg "is_whole" = some (.ref (He.ga K "is_whole"))
  z_abs : mg "abs" = none
  f_divisor : ∃ fd, FunD K "divisor" "divisor" (defArgs (top 7)) (defBody (top 7)) (defScope (top 7)) [] [] (He.ga K "divisor") fd
  g_divisor : mg "divisor" = some (.ref (He.ga K "divisor"))
  z_tuple : mg "tuple" = none
  z_len : mg "len" = none
  f_is_share : ∃ fd, FunD K "is_share" "is_share" (defArgs (top 8)) (defBody (top 8)) (defScope (top 8)) [] [] (He.ga K "is_share") fd
  g_is_share : mg "is_share" = some (.ref (He.ga K "is_share"))
  x_NoShare : ExcF K mg "NoShare"
  f_share : ∃ fd, FunD K "share" "share" (defArgs (top 9)) (defBody (top 9)) (defScope (top 9)) [.int 1] [] (He.ga K "share") fd
  g_share : mg "share" = some (.ref (He.ga K "share"))
  f_plus : ∃ fd, FunD K "plus" "plus" (defArgs (top 10)) (defBody (top 10)) (defScope (top 10)) [] [] (He.ga K "plus") fd
  g_plus : mg "plus" = some (.ref (He.ga K "plus"))
  f_minus : ∃ fd, FunD K "minus" "minus" (defArgs (top 11)) (defBody (top 11)) (defScope (top 11)) [] [] (He.ga K "minus") fd
  g_minus : mg "minus" = some (.ref (He.ga K "minus"))
  f_times : ∃ fd, FunD K "times" "times" (defArgs (top 12)) (defBody (top 12)) (defScope (top 12)) [] [] (He.ga K "times") fd
  g_times : mg "times" = some (.ref (He.ga K "times"))
  f_over : ∃ fd, FunD K "over" "over" (defArgs (top 13)) (defBody (top 13)) (defScope (top 13)) [] [] (He.ga K "over") fd
  g_over : mg "over" = some (.ref (He.ga K "over"))
  f_order : ∃ fd, FunD K "order" "order" (defArgs (top 14)) (defBody (top 14)) (defScope (top 14)) [] [] (He.ga K "order") fd
  g_order : mg "order" = some (.ref (He.ga K "order"))
  z_all : mg "all" = none
  f_is_spot : ∃ fd, FunD K "is_spot" "is_spot" (defArgs (top 17)) (defBody (top 17)) (defScope (top 17)) [] [] (He.ga K "is_spot") fd
  g_is_spot : mg "is_spot" = some (.ref (He.ga K "is_spot"))
  f_is_way : ∃ fd, FunD K "is_way" "is_way" (defArgs (top 18)) (defBody (top 18)) (defScope (top 18)) [] [] (He.ga K "is_way") fd
  g_is_way : mg "is_way" = some (.ref (He.ga K "is_way"))
  x_NoWay : ExcF K mg "NoWay"
  f_way_of : ∃ fd, FunD K "way_of" "way_of" (defArgs (top 19)) (defBody (top 19)) (defScope (top 19)) [] [] (He.ga K "way_of") fd
  g_way_of : mg "way_of" = some (.ref (He.ga K "way_of"))
  f_along : ∃ fd, FunD K "along" "along" (defArgs (top 20)) (defBody (top 20)) (defScope (top 20)) [] [] (He.ga K "along") fd
  g_along : mg "along" = some (.ref (He.ga K "along"))
  z_zip : mg "zip" = none
  f_spot_plus : ∃ fd, FunD K "spot_plus" "spot_plus" (defArgs (top 21)) (defBody (top 21)) (defScope (top 21)) [] [] (He.ga K "spot_plus") fd
  g_spot_plus : mg "spot_plus" = some (.ref (He.ga K "spot_plus"))
  f_spot_minus : ∃ fd, FunD K "spot_minus" "spot_minus" (defArgs (top 22)) (defBody (top 22)) (defScope (top 22)) [] [] (He.ga K "spot_minus") fd
  g_spot_minus : mg "spot_minus" = some (.ref (He.ga K "spot_minus"))
  f_spot_times : ∃ fd, FunD K "spot_times" "spot_times" (defArgs (top 23)) (defBody (top 23)) (defScope (top 23)) [] [] (He.ga K "spot_times") fd
  g_spot_times : mg "spot_times" = some (.ref (He.ga K "spot_times"))
  f_sides : ∃ fd, FunD K "sides" "sides" (defArgs (top 25)) (defBody (top 25)) (defScope (top 25)) [] [] (He.ga K "sides") fd
  g_sides : mg "sides" = some (.ref (He.ga K "sides"))
  z_max : mg "max" = none
  f_reach : ∃ fd, FunD K "reach" "reach" (defArgs (top 26)) (defBody (top 26)) (defScope (top 26)) [] [] (He.ga K "reach") fd
  g_reach : mg "reach" = some (.ref (He.ga K "reach"))
  f_within : ∃ fd, FunD K "within" "within" (defArgs (top 27)) (defBody (top 27)) (defScope (top 27)) [] [] (He.ga K "within") fd
  g_within : mg "within" = some (.ref (He.ga K "within"))
  f_turned_way : ∃ fd, FunD K "turned_way" "turned_way" (defArgs (top 29)) (defBody (top 29)) (defScope (top 29)) [] [] (He.ga K "turned_way") fd
  g_turned_way : mg "turned_way" = some (.ref (He.ga K "turned_way"))
  z_list : mg "list" = none
  z_sorted : mg "sorted" = none
  f_pair_ways : ∃ fd, FunD K "pair_ways" "pair_ways" (defArgs (top 30)) (defBody (top 30)) (defScope (top 30)) [] [] (He.ga K "pair_ways") fd
  g_pair_ways : mg "pair_ways" = some (.ref (He.ga K "pair_ways"))
  f_rate : ∃ fd, FunD K "rate" "rate" (defArgs (top 31)) (defBody (top 31)) (defScope (top 31)) [] [] (He.ga K "rate") fd
  g_rate : mg "rate" = some (.ref (He.ga K "rate"))
  f_gap : ∃ fd, FunD K "gap" "gap" (defArgs (top 32)) (defBody (top 32)) (defScope (top 32)) [.ref (He.ga K "NOUGHT")] [] (He.ga K "gap") fd
  g_gap : mg "gap" = some (.ref (He.ga K "gap"))
  f_place_after : ∃ fd, FunD K "place_after" "place_after" (defArgs (top 34)) (defBody (top 34)) (defScope (top 34)) [] [] (He.ga K "place_after") fd
  g_place_after : mg "place_after" = some (.ref (He.ga K "place_after"))
  f_corners_after : ∃ fd, FunD K "corners_after" "corners_after" (defArgs (top 35)) (defBody (top 35)) (defScope (top 35)) [] [] (He.ga K "corners_after") fd
  g_corners_after : mg "corners_after" = some (.ref (He.ga K "corners_after"))
  f_crossing : ∃ fd, FunD K "crossing" "crossing" (defArgs (top 36)) (defBody (top 36)) (defScope (top 36)) [] [] (He.ga K "crossing") fd
  g_crossing : mg "crossing" = some (.ref (He.ga K "crossing"))
  z_enumerate : mg "enumerate" = none
  f_cut_by : ∃ fd, FunD K "cut_by" "cut_by" (defArgs (top 37)) (defBody (top 37)) (defScope (top 37)) [] [] (He.ga K "cut_by") fd
  g_cut_by : mg "cut_by" = some (.ref (He.ga K "cut_by"))
  c_STILL : Glc K mg "STILL" (.tup [(.tup [(.int 0), (.int 1)]), (.tup [(.int 0), (.int 1)])])
  f_common_spot : ∃ fd, FunD K "common_spot" "common_spot" (defArgs (top 38)) (defBody (top 38)) (defScope (top 38)) [] [] (He.ga K "common_spot") fd
  g_common_spot : mg "common_spot" = some (.ref (He.ga K "common_spot"))
  f_apart : ∃ fd, FunD K "apart" "apart" (defArgs (top 39)) (defBody (top 39)) (defScope (top 39)) [.ref (He.ga K "NOUGHT")] [] (He.ga K "apart") fd
  g_apart : mg "apart" = some (.ref (He.ga K "apart"))
  f_apart_held : ∃ fd, FunD K "apart_held" "apart_held" (defArgs (top 40)) (defBody (top 40)) (defScope (top 40)) [.ref (He.ga K "NOUGHT")] [] (He.ga K "apart_held") fd
  g_apart_held : mg "apart_held" = some (.ref (He.ga K "apart_held"))
  f__law_cell : ∃ fd, FunD K "_law_cell" "_law_cell" (defArgs (top 42)) (defBody (top 42)) (defScope (top 42)) [] [] (He.ga K "_law_cell") fd
  g__law_cell : mg "_law_cell" = some (.ref (He.ga K "_law_cell"))
  f__law_deck : ∃ fd, FunD K "_law_deck" "_law_deck" (defArgs (top 43)) (defBody (top 43)) (defScope (top 43)) [] [] (He.ga K "_law_deck") fd
  g__law_deck : mg "_law_deck" = some (.ref (He.ga K "_law_deck"))
  f__law_take : ∃ fd, FunD K "_law_take" "_law_take" (defArgs (top 44)) (defBody (top 44)) (defScope (top 44)) [] [] (He.ga K "_law_take") fd
  g__law_take : mg "_law_take" = some (.ref (He.ga K "_law_take"))
  z_range : mg "range" = none
  f__law_long : ∃ fd, FunD K "_law_long" "_law_long" (defArgs (top 45)) (defBody (top 45)) (defScope (top 45)) [] [] (He.ga K "_law_long") fd
  g__law_long : mg "_law_long" = some (.ref (He.ga K "_law_long"))
  f__law_gcd : ∃ fd, FunD K "_law_gcd" "_law_gcd" (defArgs (top 46)) (defBody (top 46)) (defScope (top 46)) [] [] (He.ga K "_law_gcd") fd
  g__law_gcd : mg "_law_gcd" = some (.ref (He.ga K "_law_gcd"))
  f__law_share : ∃ fd, FunD K "_law_share" "_law_share" (defArgs (top 47)) (defBody (top 47)) (defScope (top 47)) [] [] (He.ga K "_law_share") fd
  g__law_share : mg "_law_share" = some (.ref (He.ga K "_law_share"))
  f__law_plus : ∃ fd, FunD K "_law_plus" "_law_plus" (defArgs (top 48)) (defBody (top 48)) (defScope (top 48)) [] [] (He.ga K "_law_plus") fd
  g__law_plus : mg "_law_plus" = some (.ref (He.ga K "_law_plus"))
  f__law_times : ∃ fd, FunD K "_law_times" "_law_times" (defArgs (top 49)) (defBody (top 49)) (defScope (top 49)) [] [] (He.ga K "_law_times") fd
  g__law_times : mg "_law_times" = some (.ref (He.ga K "_law_times"))
  f__law_spot : ∃ fd, FunD K "_law_spot" "_law_spot" (defArgs (top 50)) (defBody (top 50)) (defScope (top 50)) [] [] (He.ga K "_law_spot") fd
  g__law_spot : mg "_law_spot" = some (.ref (He.ga K "_law_spot"))
  f__law_spot_plus : ∃ fd, FunD K "_law_spot_plus" "_law_spot_plus" (defArgs (top 51)) (defBody (top 51)) (defScope (top 51)) [] [] (He.ga K "_law_spot_plus") fd
  g__law_spot_plus : mg "_law_spot_plus" = some (.ref (He.ga K "_law_spot_plus"))
  f__law_spot_times : ∃ fd, FunD K "_law_spot_times" "_law_spot_times" (defArgs (top 52)) (defBody (top 52)) (defScope (top 52)) [] [] (He.ga K "_law_spot_times") fd
  g__law_spot_times : mg "_law_spot_times" = some (.ref (He.ga K "_law_spot_times"))
  f__law_left : ∃ fd, FunD K "_law_left" "_law_left" (defArgs (top 53)) (defBody (top 53)) (defScope (top 53)) [] [] (He.ga K "_law_left") fd
  g__law_left : mg "_law_left" = some (.ref (He.ga K "_law_left"))
  f__law_half : ∃ fd, FunD K "_law_half" "_law_half" (defArgs (top 54)) (defBody (top 54)) (defScope (top 54)) [] [] (He.ga K "_law_half") fd
  g__law_half : mg "_law_half" = some (.ref (He.ga K "_law_half"))
  f__law_number : ∃ fd, FunD K "_law_number" "_law_number" (defArgs (top 55)) (defBody (top 55)) (defScope (top 55)) [] [] (He.ga K "_law_number") fd
  g__law_number : mg "_law_number" = some (.ref (He.ga K "_law_number"))
  f__law_eight : ∃ fd, FunD K "_law_eight" "_law_eight" (defArgs (top 56)) (defBody (top 56)) (defScope (top 56)) [] [] (He.ga K "_law_eight") fd
  g__law_eight : mg "_law_eight" = some (.ref (He.ga K "_law_eight"))
  f__law_shape : ∃ fd, FunD K "_law_shape" "_law_shape" (defArgs (top 57)) (defBody (top 57)) (defScope (top 57)) [] [] (He.ga K "_law_shape") fd
  g__law_shape : mg "_law_shape" = some (.ref (He.ga K "_law_shape"))
  f__law_way : ∃ fd, FunD K "_law_way" "_law_way" (defArgs (top 59)) (defBody (top 59)) (defScope (top 59)) [] [] (He.ga K "_law_way") fd
  g__law_way : mg "_law_way" = some (.ref (He.ga K "_law_way"))
  f__law_ways : ∃ fd, FunD K "_law_ways" "_law_ways" (defArgs (top 58)) (defBody (top 58)) (defScope (top 58)) [] [] (He.ga K "_law_ways") fd
  g__law_ways : mg "_law_ways" = some (.ref (He.ga K "_law_ways"))
  f__law_pair_ways : ∃ fd, FunD K "_law_pair_ways" "_law_pair_ways" (defArgs (top 60)) (defBody (top 60)) (defScope (top 60)) [] [] (He.ga K "_law_pair_ways") fd
  g__law_pair_ways : mg "_law_pair_ways" = some (.ref (He.ga K "_law_pair_ways"))
  f__law_names : ∃ fd, FunD K "_law_names" "_law_names" (defArgs (top 61)) (defBody (top 61)) (defScope (top 61)) [] [] (He.ga K "_law_names") fd
  g__law_names : mg "_law_names" = some (.ref (He.ga K "_law_names"))
  f__law_drawn : ∃ fd, FunD K "_law_drawn" "_law_drawn" (defArgs (top 62)) (defBody (top 62)) (defScope (top 62)) [] [] (He.ga K "_law_drawn") fd
  g__law_drawn : mg "_law_drawn" = some (.ref (He.ga K "_law_drawn"))
  f__law_row : ∃ fd, FunD K "_law_row" "_law_row" (defArgs (top 63)) (defBody (top 63)) (defScope (top 63)) [] [] (He.ga K "_law_row") fd
  g__law_row : mg "_law_row" = some (.ref (He.ga K "_law_row"))
  f__law_pair : ∃ fd, FunD K "_law_pair" "_law_pair" (defArgs (top 64)) (defBody (top 64)) (defScope (top 64)) [] [] (He.ga K "_law_pair") fd
  g__law_pair : mg "_law_pair" = some (.ref (He.ga K "_law_pair"))
  f__law_corner : ∃ fd, FunD K "_law_corner" "_law_corner" (defArgs (top 65)) (defBody (top 65)) (defScope (top 65)) [] [] (He.ga K "_law_corner") fd
  g__law_corner : mg "_law_corner" = some (.ref (He.ga K "_law_corner"))
  f__law_mean : ∃ fd, FunD K "_law_mean" "_law_mean" (defArgs (top 66)) (defBody (top 66)) (defScope (top 66)) [] [] (He.ga K "_law_mean") fd
  g__law_mean : mg "_law_mean" = some (.ref (He.ga K "_law_mean"))
  f__law_spots : ∃ fd, FunD K "_law_spots" "_law_spots" (defArgs (top 67)) (defBody (top 67)) (defScope (top 67)) [] [] (He.ga K "_law_spots") fd
  g__law_spots : mg "_law_spots" = some (.ref (He.ga K "_law_spots"))
  f__law_some_ways : ∃ fd, FunD K "_law_some_ways" "_law_some_ways" (defArgs (top 68)) (defBody (top 68)) (defScope (top 68)) [] [] (He.ga K "_law_some_ways") fd
  g__law_some_ways : mg "_law_some_ways" = some (.ref (He.ga K "_law_some_ways"))
  f__law_turned : ∃ fd, FunD K "_law_turned" "_law_turned" (defArgs (top 69)) (defBody (top 69)) (defScope (top 69)) [] [] (He.ga K "_law_turned") fd
  g__law_turned : mg "_law_turned" = some (.ref (He.ga K "_law_turned"))
  f_law : ∃ fd, FunD K "law" "law" (defArgs (top 70)) (defBody (top 70)) (defScope (top 70)) [] [] (He.ga K "law") fd
  g_law : mg "law" = some (.ref (He.ga K "law"))
section
variable {P : Program} {w : World} {K : Fg} {mg : Str → Option Value} {base : Heap}
abbrev N_is_whole : List Str := ["thing"]
theorem sc_is_whole : FnScope N_is_whole ["thing"] (defScope (top 6)) := ⟨rfl, rfl, rfl, by decide +kernel, rfl, by decide +kernel, by decide +kernel⟩
theorem w_is_whole (T : Fx K mg) (fd : FuncData) (cdv : Value) (A : Around) (outer : List Env) (s : Shared) (H : Hp) (E : XK) (hr : Room 0 (A.deeper (envOfC "is_whole" (defScope (top 6)) s.heap.objs.size (He.ga K "is_whole") cdv))) :
    PSs (cxOf (L2.CX P w) P w K mg base N_is_whole "is_whole" (defScope (top 6)) (He.ga K "is_whole") cdv A outer s H E) (defBody (top 6)) (tS K (fun cls d _ H => E cls d H) b_is_whole) := by
  have tk := tk_cx (P := P) (w := w) (K := K) (mg := mg) (base := base) (N := N_is_whole) (qual := "is_whole") (scope := defScope (top 6)) (f := He.ga K "is_whole") (cd := cdv) (A := A) (outer := outer) (s := s) (H := H) (E := E)
  exact (mss_one (ms_ret (me_and (me_callB call_isi c_isi (by rfl) T.z_isinstance (by decide +kernel) (maw_cons (me_varW (pv 0)) (maw_cons (weak (me_type (by rfl) T.z_int (by decide +kernel))) maw_nil))) (me_one (me_not (me_callB call_isi c_isi (by rfl) T.z_isinstance (by decide +kernel) (maw_cons (me_varW (pv 0)) (maw_cons (weak (me_type (by rfl) T.z_bool (by decide +kernel))) maw_nil))))))))
theorem d_is_whole (T : Fx K mg) : Def P w K mg base 1 "is_whole" 1 [] m_is_whole := by
  obtain ⟨fd, F⟩ := T.f_is_whole
  exact Def.mk' (ps := ["thing"]) (N := N_is_whole) (k := 0) F T.g_is_whole sc_is_whole b_is_whole ⟨[], [], .nil, F.bindsN (fun _ _ _ _ _ _ us hl => match us, hl with | [_], _ => rfl), fun _ _ => .nil⟩ (fun cdv A outer s H E hr => w_is_whole T fd cdv A outer s H E hr)
abbrev N_divisor : List Str := ["one", "other"]
theorem sc_divisor : FnScope N_divisor ["one", "other"] (defScope (top 7)) := ⟨rfl, rfl, rfl, by decide +kernel, rfl, by decide +kernel, by decide +kernel⟩
theorem w_divisor (T : Fx K mg) (fd : FuncData) (cdv : Value) (A : Around) (outer : List Env) (s : Shared) (H : Hp) (E : XK) (hr : Room 0 (A.deeper (envOfC "divisor" (defScope (top 7)) s.heap.objs.size (He.ga K "divisor") cdv))) :
    PSs (cxOf (L2.CX P w) P w K mg base N_divisor "divisor" (defScope (top 7)) (He.ga K "divisor") cdv A outer s H E) (defBody (top 7)) (tS K (fun cls d _ H => E cls d H) b_divisor) := by
  have tk := tk_cx (P := P) (w := w) (K := K) (mg := mg) (base := base) (N := N_divisor) (qual := "divisor") (scope := defScope (top 7)) (f := He.ga K "divisor") (cd := cdv) (A := A) (outer := outer) (s := s) (H := H) (E := E)
  exact (mss_cons (ms_par (ps_par (i := 0) (j := 1) rfl sc_divisor.nd rfl rfl (by decide) rfl rfl (ma_cons (me_callB call_abs c_abs (by rfl) T.z_abs (by decide +kernel) (maw_cons (me_varW (pv 0)) maw_nil)) (ma_cons (me_callB call_abs c_abs (by rfl) T.z_abs (by decide +kernel) (maw_cons (me_varW (pv 1)) maw_nil)) ma_nil)) (by rfl)))
  (mss_cons (ms_while po_cx (mt_cmp2 op_gt o_gt (me_varW (pv 1)) (weak me_int) (nomark _)) (mss_one (ms_par (ps_par (i := 0) (j := 1) rfl sc_divisor.nd rfl rfl (by decide) rfl rfl (ma_cons (me_var (pv 1)) (ma_cons (me_op2 op_modN o_mod (me_varW (pv 0)) (me_varW (pv 1))) ma_nil)) (by rfl)))))
  (mss_one (ms_ret (me_var (pv 0))))))
theorem d_divisor (T : Fx K mg) : Def P w K mg base 1 "divisor" 2 [] m_divisor := by
  obtain ⟨fd, F⟩ := T.f_divisor
  exact Def.mk' (ps := ["one", "other"]) (N := N_divisor) (k := 0) F T.g_divisor sc_divisor b_divisor ⟨[], [], .nil, F.bindsN (fun _ _ _ _ _ _ us hl => match us, hl with | [_, _], _ => rfl), fun _ _ => .nil⟩ (fun cdv A outer s H E hr => w_divisor T fd cdv A outer s H E hr)
abbrev N_is_share : List Str := ["thing"]
theorem sc_is_share : FnScope N_is_share ["thing"] (defScope (top 8)) := ⟨rfl, rfl, rfl, by decide +kernel, rfl, by decide +kernel, by decide +kernel⟩
theorem w_is_share (T : Fx K mg) (fd : FuncData) (cdv : Value) (A : Around) (outer : List Env) (s : Shared) (H : Hp) (E : XK) (hr : Room 1 (A.deeper (envOfC "is_share" (defScope (top 8)) s.heap.objs.size (He.ga K "is_share") cdv))) :
    PSs (cxOf (L2.CX P w) P w K mg base N_is_share "is_share" (defScope (top 8)) (He.ga K "is_share") cdv A outer s H E) (defBody (top 8)) (tS K (fun cls d _ H => E cls d H) b_is_share) := by
  have tk := tk_cx (P := P) (w := w) (K := K) (mg := mg) (base := base) (N := N_is_share) (qual := "is_share") (scope := defScope (top 8)) (f := He.ga K "is_share") (cd := cdv) (A := A) (outer := outer) (s := s) (H := H) (E := E)
  exact (mss_cons (ms_if (PW.pt (mw_or (mt_not (mt_truth (weak (me_callB call_isi c_isi (by rfl) T.z_isinstance (by decide +kernel) (maw_cons (me_varW (pv 0)) (maw_cons (weak (me_type (by rfl) T.z_tuple (by decide +kernel))) maw_nil)))))) (mw_or1 (mt_cmp2 (op_neD hr.units) o_ne (weak (me_callB call_len3 c_len (by rfl) T.z_len (by decide +kernel) (maw_cons (me_varW (pv 0)) maw_nil))) (weak me_int) (nomark _))))) (mss_one (ms_ret me_bl)) mss_nil)
  (mss_cons (ms_if (PW.pt (mw_or (mt_not (mt_truth (weak (me_call ((d_is_whole T).mono (by decide)) hr tk (by rfl) (alen_cons alen_nil) (ma_cons (me_ix ix_seq o_ix (me_varW (pv 0)) (weak me_int) (fun _ _ => rfl)) ma_nil))))) (mw_or (mt_not (mt_truth (weak (me_call ((d_is_whole T).mono (by decide)) hr tk (by rfl) (alen_cons alen_nil) (ma_cons (me_ix ix_seq o_ix (me_varW (pv 0)) (weak me_int) (fun _ _ => rfl)) ma_nil))))) (mw_or1 (mt_cmp2 op_lt o_lt (weak (me_ix ix_seq o_ix (me_varW (pv 0)) (weak me_int) (fun _ _ => rfl))) (weak me_int) (nomark _)))))) (mss_one (ms_ret me_bl)) mss_nil)
  (mss_one (ms_ret (me_cmp2 (op_eqD hr.units) o_eq (weak (me_call ((d_divisor T).mono (by decide)) hr tk (by rfl) (alen_cons (alen_cons alen_nil)) (ma_cons (me_ix ix_seq o_ix (me_varW (pv 0)) (weak me_int) (fun _ _ => rfl)) (ma_cons (me_ix ix_seq o_ix (me_varW (pv 0)) (weak me_int) (fun _ _ => rfl)) ma_nil)))) (weak me_int) (nomark _))))))
theorem d_is_share (T : Fx K mg) : Def P w K mg base 2 "is_share" 1 [] m_is_share := by
  obtain ⟨fd, F⟩ := T.f_is_share
  exact Def.mk' (ps := ["thing"]) (N := N_is_share) (k := 1) F T.g_is_share sc_is_share b_is_share ⟨[], [], .nil, F.bindsN (fun _ _ _ _ _ _ us hl => match us, hl with | [_], _ => rfl), fun _ _ => .nil⟩ (fun cdv A outer s H E hr => w_is_share T fd cdv A outer s H E hr)
abbrev N_share : List Str := ["top", "bottom", "part"]
theorem sc_share : FnScope N_share ["top", "bottom"] (defScope (top 9)) := ⟨rfl, rfl, rfl, by decide +kernel, rfl, by decide +kernel, by decide +kernel⟩
theorem w_share (T : Fx K mg) (fd : FuncData) (cdv : Value) (A : Around) (outer : List Env) (s : Shared) (H : Hp) (E : XK) (hr : Room 1 (A.deeper (envOfC "share" (defScope (top 9)) s.heap.objs.size (He.ga K "share") cdv))) :
    PSs (cxOf (L2.CX P w) P w K mg base N_share "share" (defScope (top 9)) (He.ga K "share") cdv A outer s H E) (defBody (top 9)) (tS K (fun cls d _ H => E cls d H) b_share) := by
  have tk := tk_cx (P := P) (w := w) (K := K) (mg := mg) (base := base) (N := N_share) (qual := "share") (scope := defScope (top 9)) (f := He.ga K "share") (cd := cdv) (A := A) (outer := outer) (s := s) (H := H) (E := E)
  exact (mss_cons (ms_if (mt_cmp2 (op_eqD hr.units) o_eq (me_varW (pv 1)) (weak me_int) (nomark _)) (mss_one (ms_raise rfl tk (pmk_own PySem.F.excBase_ValueError T.x_NoShare.x T.x_NoShare.g T.x_NoShare.k (raises_own T.x_NoShare.b T.x_NoShare.t) (by rfl)))) mss_nil)
  (mss_cons (ms_set (ps_set (i := 2) sc_share.nd rfl (Or.inl rfl) (me_call ((d_divisor T).mono (by decide)) hr tk (by rfl) (alen_cons (alen_cons alen_nil)) (ma_cons (me_var (pv 0)) (ma_cons (me_var (pv 1)) ma_nil)))))
  (mss_cons (ms_if (mt_cmp2 op_lt o_lt (me_varW (pv 1)) (weak me_int) (nomark _)) (mss_one (ms_set (ps_set (i := 2) sc_share.nd rfl (Or.inl rfl) (me_un un_neg o_neg (me_varW (pv 2)))))) mss_nil)
  (mss_one (ms_ret (me_tup (ma_cons (me_op2 op_fdivB o_div (me_varW (pv 0)) (me_varW (pv 2))) (ma_cons (me_op2 op_fdivB o_div (me_varW (pv 1)) (me_varW (pv 2))) ma_nil))))))))
theorem d_share (T : Fx K mg) : Def P w K mg base 2 "share" 2 [] m_share := by
  obtain ⟨fd, F⟩ := T.f_share
  exact Def.mk' (ps := ["top", "bottom"]) (N := N_share) (k := 1) F T.g_share sc_share b_share (by
    obtain ⟨ds, h1, h2⟩ := F.binds1 (ps := ["top", "bottom"]) 2 1 (by simp) rfl (fun _ _ _ _ _ _ _ us its hu hi => match us, its, hu, hi with | [_, _], [_], _, _ => ⟨_, rfl, rfl⟩)
    exact ⟨ds, _, h1, h2, fun _ _ => .nil⟩) (fun cdv A outer s H E hr => w_share T fd cdv A outer s H E hr)
abbrev N_plus : List Str := ["one", "other"]
theorem sc_plus : FnScope N_plus ["one", "other"] (defScope (top 10)) := ⟨rfl, rfl, rfl, by decide +kernel, rfl, by decide +kernel, by decide +kernel⟩
theorem w_plus (T : Fx K mg) (fd : FuncData) (cdv : Value) (A : Around) (outer : List Env) (s : Shared) (H : Hp) (E : XK) (hr : Room 2 (A.deeper (envOfC "plus" (defScope (top 10)) s.heap.objs.size (He.ga K "plus") cdv))) :
    PSs (cxOf (L2.CX P w) P w K mg base N_plus "plus" (defScope (top 10)) (He.ga K "plus") cdv A outer s H E) (defBody (top 10)) (tS K (fun cls d _ H => E cls d H) b_plus) := by
  have tk := tk_cx (P := P) (w := w) (K := K) (mg := mg) (base := base) (N := N_plus) (qual := "plus") (scope := defScope (top 10)) (f := He.ga K "plus") (cd := cdv) (A := A) (outer := outer) (s := s) (H := H) (E := E)
  exact (mss_one (ms_ret (me_call ((d_share T).mono (by decide)) hr tk (by rfl) (alen_cons (alen_cons alen_nil)) (ma_cons (me_op2 op_add4 o_add (weak (me_op2 op_mulW o_mul (weak (me_ix ix_seq o_ix (me_varW (pv 0)) (weak me_int) (fun _ _ => rfl))) (weak (me_ix ix_seq o_ix (me_varW (pv 1)) (weak me_int) (fun _ _ => rfl))))) (weak (me_op2 op_mulW o_mul (weak (me_ix ix_seq o_ix (me_varW (pv 1)) (weak me_int) (fun _ _ => rfl))) (weak (me_ix ix_seq o_ix (me_varW (pv 0)) (weak me_int) (fun _ _ => rfl)))))) (ma_cons (me_op2 op_mulW o_mul (weak (me_ix ix_seq o_ix (me_varW (pv 0)) (weak me_int) (fun _ _ => rfl))) (weak (me_ix ix_seq o_ix (me_varW (pv 1)) (weak me_int) (fun _ _ => rfl)))) ma_nil)))))
theorem d_plus (T : Fx K mg) : Def P w K mg base 3 "plus" 2 [] m_plus := by
  obtain ⟨fd, F⟩ := T.f_plus
  exact Def.mk' (ps := ["one", "other"]) (N := N_plus) (k := 2) F T.g_plus sc_plus b_plus ⟨[], [], .nil, F.bindsN (fun _ _ _ _ _ _ us hl => match us, hl with | [_, _], _ => rfl), fun _ _ => .nil⟩ (fun cdv A outer s H E hr => w_plus T fd cdv A outer s H E hr)
abbrev N_minus : List Str := ["one", "other"]
theorem sc_minus : FnScope N_minus ["one", "other"] (defScope (top 11)) := ⟨rfl, rfl, rfl, by decide +kernel, rfl, by decide +kernel, by decide +kernel⟩
theorem w_minus (T : Fx K mg) (fd : FuncData) (cdv : Value) (A : Around) (outer : List Env) (s : Shared) (H : Hp) (E : XK) (hr : Room 2 (A.deeper (envOfC "minus" (defScope (top 11)) s.heap.objs.size (He.ga K "minus") cdv))) :
    PSs (cxOf (L2.CX P w) P w K mg base N_minus "minus" (defScope (top 11)) (He.ga K "minus") cdv A outer s H E) (defBody (top 11)) (tS K (fun cls d _ H => E cls d H) b_minus) := by
  have tk := tk_cx (P := P) (w := w) (K := K) (mg := mg) (base := base) (N := N_minus) (qual := "minus") (scope := defScope (top 11)) (f := He.ga K "minus") (cd := cdv) (A := A) (outer := outer) (s := s) (H := H) (E := E)
  exact (mss_one (ms_ret (me_call ((d_share T).mono (by decide)) hr tk (by rfl) (alen_cons (alen_cons alen_nil)) (ma_cons (me_op2 op_sub o_sub (weak (me_op2 op_mulW o_mul (weak (me_ix ix_seq o_ix (me_varW (pv 0)) (weak me_int) (fun _ _ => rfl))) (weak (me_ix ix_seq o_ix (me_varW (pv 1)) (weak me_int) (fun _ _ => rfl))))) (weak (me_op2 op_mulW o_mul (weak (me_ix ix_seq o_ix (me_varW (pv 1)) (weak me_int) (fun _ _ => rfl))) (weak (me_ix ix_seq o_ix (me_varW (pv 0)) (weak me_int) (fun _ _ => rfl)))))) (ma_cons (me_op2 op_mulW o_mul (weak (me_ix ix_seq o_ix (me_varW (pv 0)) (weak me_int) (fun _ _ => rfl))) (weak (me_ix ix_seq o_ix (me_varW (pv 1)) (weak me_int) (fun _ _ => rfl)))) ma_nil)))))
theorem d_minus (T : Fx K mg) : Def P w K mg base 3 "minus" 2 [] m_minus := by
  obtain ⟨fd, F⟩ := T.f_minus
  exact Def.mk' (ps := ["one", "other"]) (N := N_minus) (k := 2) F T.g_minus sc_minus b_minus ⟨[], [], .nil, F.bindsN (fun _ _ _ _ _ _ us hl => match us, hl with | [_, _], _ => rfl), fun _ _ => .nil⟩ (fun cdv A outer s H E hr => w_minus T fd cdv A outer s H E hr)
abbrev N_times : List Str := ["one", "other"]
theorem sc_times : FnScope N_times ["one", "other"] (defScope (top 12)) := ⟨rfl, rfl, rfl, by decide +kernel, rfl, by decide +kernel, by decide +kernel⟩
theorem w_times (T : Fx K mg) (fd : FuncData) (cdv : Value) (A : Around) (outer : List Env) (s : Shared) (H : Hp) (E : XK) (hr : Room 2 (A.deeper (envOfC "times" (defScope (top 12)) s.heap.objs.size (He.ga K "times") cdv))) :
    PSs (cxOf (L2.CX P w) P w K mg base N_times "times" (defScope (top 12)) (He.ga K "times") cdv A outer s H E) (defBody (top 12)) (tS K (fun cls d _ H => E cls d H) b_times) := by
  have tk := tk_cx (P := P) (w := w) (K := K) (mg := mg) (base := base) (N := N_times) (qual := "times") (scope := defScope (top 12)) (f := He.ga K "times") (cd := cdv) (A := A) (outer := outer) (s := s) (H := H) (E := E)
  exact (mss_one (ms_ret (me_call ((d_share T).mono (by decide)) hr tk (by rfl) (alen_cons (alen_cons alen_nil)) (ma_cons (me_op2 op_mulW o_mul (weak (me_ix ix_seq o_ix (me_varW (pv 0)) (weak me_int) (fun _ _ => rfl))) (weak (me_ix ix_seq o_ix (me_varW (pv 1)) (weak me_int) (fun _ _ => rfl)))) (ma_cons (me_op2 op_mulW o_mul (weak (me_ix ix_seq o_ix (me_varW (pv 0)) (weak me_int) (fun _ _ => rfl))) (weak (me_ix ix_seq o_ix (me_varW (pv 1)) (weak me_int) (fun _ _ => rfl)))) ma_nil)))))
theorem d_times (T : Fx K mg) : Def P w K mg base 3 "times" 2 [] m_times := by
  obtain ⟨fd, F⟩ := T.f_times
  exact Def.mk' (ps := ["one", "other"]) (N := N_times) (k := 2) F T.g_times sc_times b_times ⟨[], [], .nil, F.bindsN (fun _ _ _ _ _ _ us hl => match us, hl with | [_, _], _ => rfl), fun _ _ => .nil⟩ (fun cdv A outer s H E hr => w_times T fd cdv A outer s H E hr)
abbrev N_over : List Str := ["one", "other"]
theorem sc_over : FnScope N_over ["one", "other"] (defScope (top 13)) := ⟨rfl, rfl, rfl, by decide +kernel, rfl, by decide +kernel, by decide +kernel⟩
theorem w_over (T : Fx K mg) (fd : FuncData) (cdv : Value) (A : Around) (outer : List Env) (s : Shared) (H : Hp) (E : XK) (hr : Room 2 (A.deeper (envOfC "over" (defScope (top 13)) s.heap.objs.size (He.ga K "over") cdv))) :
    PSs (cxOf (L2.CX P w) P w K mg base N_over "over" (defScope (top 13)) (He.ga K "over") cdv A outer s H E) (defBody (top 13)) (tS K (fun cls d _ H => E cls d H) b_over) := by
  have tk := tk_cx (P := P) (w := w) (K := K) (mg := mg) (base := base) (N := N_over) (qual := "over") (scope := defScope (top 13)) (f := He.ga K "over") (cd := cdv) (A := A) (outer := outer) (s := s) (H := H) (E := E)
  exact (mss_cons (ms_if (mt_cmp2 (op_eqD hr.units) o_eq (weak (me_ix ix_seq o_ix (me_varW (pv 1)) (weak me_int) (fun _ _ => rfl))) (weak me_int) (nomark _)) (mss_one (ms_raise rfl tk (pmk_own PySem.F.excBase_ValueError T.x_NoShare.x T.x_NoShare.g T.x_NoShare.k (raises_own T.x_NoShare.b T.x_NoShare.t) (by rfl)))) mss_nil)
  (mss_one (ms_ret (me_call ((d_share T).mono (by decide)) hr tk (by rfl) (alen_cons (alen_cons alen_nil)) (ma_cons (me_op2 op_mulW o_mul (weak (me_ix ix_seq o_ix (me_varW (pv 0)) (weak me_int) (fun _ _ => rfl))) (weak (me_ix ix_seq o_ix (me_varW (pv 1)) (weak me_int) (fun _ _ => rfl)))) (ma_cons (me_op2 op_mulW o_mul (weak (me_ix ix_seq o_ix (me_varW (pv 0)) (weak me_int) (fun _ _ => rfl))) (weak (me_ix ix_seq o_ix (me_varW (pv 1)) (weak me_int) (fun _ _ => rfl)))) ma_nil))))))
theorem d_over (T : Fx K mg) : Def P w K mg base 3 "over" 2 [] m_over := by
  obtain ⟨fd, F⟩ := T.f_over
  exact Def.mk' (ps := ["one", "other"]) (N := N_over) (k := 2) F T.g_over sc_over b_over ⟨[], [], .nil, F.bindsN (fun _ _ _ _ _ _ us hl => match us, hl with | [_, _], _ => rfl), fun _ _ => .nil⟩ (fun cdv A outer s H E hr => w_over T fd cdv A outer s H E hr)
abbrev N_order : List Str := ["one", "other", "left", "right"]
theorem sc_order : FnScope N_order ["one", "other"] (defScope (top 14)) := ⟨rfl, rfl, rfl, by decide +kernel, rfl, by decide +kernel, by decide +kernel⟩
theorem w_order (T : Fx K mg) (fd : FuncData) (cdv : Value) (A : Around) (outer : List Env) (s : Shared) (H : Hp) (E : XK) (hr : Room 0 (A.deeper (envOfC "order" (defScope (top 14)) s.heap.objs.size (He.ga K "order") cdv))) :
    PSs (cxOf (L2.CX P w) P w K mg base N_order "order" (defScope (top 14)) (He.ga K "order") cdv A outer s H E) (defBody (top 14)) (tS K (fun cls d _ H => E cls d H) b_order) := by
  have tk := tk_cx (P := P) (w := w) (K := K) (mg := mg) (base := base) (N := N_order) (qual := "order") (scope := defScope (top 14)) (f := He.ga K "order") (cd := cdv) (A := A) (outer := outer) (s := s) (H := H) (E := E)
  exact (mss_cons (ms_set (ps_set (i := 2) sc_order.nd rfl (Or.inl rfl) (me_op2 op_mulW o_mul (weak (me_ix ix_seq o_ix (me_varW (pv 0)) (weak me_int) (fun _ _ => rfl))) (weak (me_ix ix_seq o_ix (me_varW (pv 1)) (weak me_int) (fun _ _ => rfl))))))
  (mss_cons (ms_set (ps_set (i := 3) sc_order.nd rfl (Or.inl rfl) (me_op2 op_mulW o_mul (weak (me_ix ix_seq o_ix (me_varW (pv 1)) (weak me_int) (fun _ _ => rfl))) (weak (me_ix ix_seq o_ix (me_varW (pv 0)) (weak me_int) (fun _ _ => rfl))))))
  (mss_cons (ms_if (mt_cmp2 (op_eqD hr.units) o_eq (me_varW (pv 2)) (me_varW (pv 3)) (nomark _)) (mss_one (ms_ret me_int)) mss_nil)
  (mss_one (ms_ret (me_if (mt_cmp2 op_lt o_lt (me_varW (pv 2)) (me_varW (pv 3)) (nomark _)) (me_un un_neg o_neg (weak me_int)) me_int))))))
theorem d_order (T : Fx K mg) : Def P w K mg base 1 "order" 2 [] m_order := by
  obtain ⟨fd, F⟩ := T.f_order
  exact Def.mk' (ps := ["one", "other"]) (N := N_order) (k := 0) F T.g_order sc_order b_order ⟨[], [], .nil, F.bindsN (fun _ _ _ _ _ _ us hl => match us, hl with | [_, _], _ => rfl), fun _ _ => .nil⟩ (fun cdv A outer s H E hr => w_order T fd cdv A outer s H E hr)
abbrev N_is_spot : List Str := ["thing", "one"]
theorem sc_is_spot : FnScope N_is_spot ["thing"] (defScope (top 17)) := ⟨rfl, rfl, rfl, by decide +kernel, rfl, by decide +kernel, by decide +kernel⟩
theorem w_is_spot (T : Fx K mg) (fd : FuncData) (cdv : Value) (A : Around) (outer : List Env) (s : Shared) (H : Hp) (E : XK) (hr : Room 2 (A.deeper (envOfC "is_spot" (defScope (top 17)) s.heap.objs.size (He.ga K "is_spot") cdv))) :
    PSs (cxOf (L2.CX P w) P w K mg base N_is_spot "is_spot" (defScope (top 17)) (He.ga K "is_spot") cdv A outer s H E) (defBody (top 17)) (tS K (fun cls d _ H => E cls d H) b_is_spot) := by
  have tk := tk_cx (P := P) (w := w) (K := K) (mg := mg) (base := base) (N := N_is_spot) (qual := "is_spot") (scope := defScope (top 17)) (f := He.ga K "is_spot") (cd := cdv) (A := A) (outer := outer) (s := s) (H := H) (E := E)
  exact (mss_one (ms_ret (me_and (me_callB call_isi c_isi (by rfl) T.z_isinstance (by decide +kernel) (maw_cons (me_varW (pv 0)) (maw_cons (weak (me_type (by rfl) T.z_tuple (by decide +kernel))) maw_nil))) (me_and (me_cmp2 (op_eqD hr.units) o_eq (weak (me_callB call_len3 c_len (by rfl) T.z_len (by decide +kernel) (maw_cons (me_varW (pv 0)) maw_nil))) (weak me_int) (nomark _)) (me_one (me_callB (cr_all rfl) c_all (by rfl) T.z_all (by decide +kernel) (maw_cons (weak (me_new (mf_lc (own := [("one", 1)]) (ws := [1]) rfl sc_is_spot.nd (toO (mi_seq (me_var (pv 0)))) (blkOk_by (N := N_is_spot) (sc := defScope (top 17)) (by decide +kernel)) (by decide) (fun _ _ _ _ _ => (mg_name (pg_name (i := 1) sc_is_spot.nd rfl (Or.inl rfl)))) (fun _ _ _ _ _ => mts_nil) (fun _ _ _ _ _ => (me_call ((d_is_share T).mono (by decide)) hr takes0 (by rfl) (alen_cons alen_nil) (ma_cons (me_var (pv 1)) ma_nil)))))) maw_nil)))))))
theorem d_is_spot (T : Fx K mg) : Def P w K mg base 3 "is_spot" 1 [] m_is_spot := by
  obtain ⟨fd, F⟩ := T.f_is_spot
  exact Def.mk' (ps := ["thing"]) (N := N_is_spot) (k := 2) F T.g_is_spot sc_is_spot b_is_spot ⟨[], [], .nil, F.bindsN (fun _ _ _ _ _ _ us hl => match us, hl with | [_], _ => rfl), fun _ _ => .nil⟩ (fun cdv A outer s H E hr => w_is_spot T fd cdv A outer s H E hr)
abbrev N_is_way : List Str := ["thing", "one"]
theorem sc_is_way : FnScope N_is_way ["thing"] (defScope (top 18)) := ⟨rfl, rfl, rfl, by decide +kernel, rfl, by decide +kernel, by decide +kernel⟩
theorem w_is_way (T : Fx K mg) (fd : FuncData) (cdv : Value) (A : Around) (outer : List Env) (s : Shared) (H : Hp) (E : XK) (hr : Room 1 (A.deeper (envOfC "is_way" (defScope (top 18)) s.heap.objs.size (He.ga K "is_way") cdv))) :
    PSs (cxOf (L2.CX P w) P w K mg base N_is_way "is_way" (defScope (top 18)) (He.ga K "is_way") cdv A outer s H E) (defBody (top 18)) (tS K (fun cls d _ H => E cls d H) b_is_way) := by
  have tk := tk_cx (P := P) (w := w) (K := K) (mg := mg) (base := base) (N := N_is_way) (qual := "is_way") (scope := defScope (top 18)) (f := He.ga K "is_way") (cd := cdv) (A := A) (outer := outer) (s := s) (H := H) (E := E)
  exact (mss_cons (ms_if (PW.pt (mw_or (mt_not (mt_truth (weak (me_callB call_isi c_isi (by rfl) T.z_isinstance (by decide +kernel) (maw_cons (me_varW (pv 0)) (maw_cons (weak (me_type (by rfl) T.z_tuple (by decide +kernel))) maw_nil)))))) (mw_or (mt_cmp2 (op_neD hr.units) o_ne (weak (me_callB call_len3 c_len (by rfl) T.z_len (by decide +kernel) (maw_cons (me_varW (pv 0)) maw_nil))) (weak me_int) (nomark _)) (mw_or1 (mt_not (mt_truth (weak (me_callB (cr_all rfl) c_all (by rfl) T.z_all (by decide +kernel) (maw_cons (weak (me_new (mf_lc (own := [("one", 1)]) (ws := [1]) rfl sc_is_way.nd (toO (mi_seq (me_var (pv 0)))) (blkOk_by (N := N_is_way) (sc := defScope (top 18)) (by decide +kernel)) (by decide) (fun _ _ _ _ _ => (mg_name (pg_name (i := 1) sc_is_way.nd rfl (Or.inl rfl)))) (fun _ _ _ _ _ => mts_nil) (fun _ _ _ _ _ => (me_call ((d_is_whole T).mono (by decide)) hr takes0 (by rfl) (alen_cons alen_nil) (ma_cons (me_var (pv 1)) ma_nil)))))) maw_nil))))))))) (mss_one (ms_ret me_bl)) mss_nil)
  (mss_one (ms_ret (me_cmp2 (op_eqD hr.units) o_eq (weak (me_call ((d_divisor T).mono (by decide)) hr tk (by rfl) (alen_cons (alen_cons alen_nil)) (ma_cons (me_ix ix_seq o_ix (me_varW (pv 0)) (weak me_int) (fun _ _ => rfl)) (ma_cons (me_ix ix_seq o_ix (me_varW (pv 0)) (weak me_int) (fun _ _ => rfl)) ma_nil)))) (weak me_int) (nomark _)))))
theorem d_is_way (T : Fx K mg) : Def P w K mg base 2 "is_way" 1 [] m_is_way := by
  obtain ⟨fd, F⟩ := T.f_is_way
  exact Def.mk' (ps := ["thing"]) (N := N_is_way) (k := 1) F T.g_is_way sc_is_way b_is_way ⟨[], [], .nil, F.bindsN (fun _ _ _ _ _ _ us hl => match us, hl with | [_], _ => rfl), fun _ _ => .nil⟩ (fun cdv A outer s H E hr => w_is_way T fd cdv A outer s H E hr)
abbrev N_way_of : List Str := ["p", "q", "part"]
theorem sc_way_of : FnScope N_way_of ["p", "q"] (defScope (top 19)) := ⟨rfl, rfl, rfl, by decide +kernel, rfl, by decide +kernel, by decide +kernel⟩
theorem w_way_of (T : Fx K mg) (fd : FuncData) (cdv : Value) (A : Around) (outer : List Env) (s : Shared) (H : Hp) (E : XK) (hr : Room 1 (A.deeper (envOfC "way_of" (defScope (top 19)) s.heap.objs.size (He.ga K "way_of") cdv))) :
    PSs (cxOf (L2.CX P w) P w K mg base N_way_of "way_of" (defScope (top 19)) (He.ga K "way_of") cdv A outer s H E) (defBody (top 19)) (tS K (fun cls d _ H => E cls d H) b_way_of) := by
  have tk := tk_cx (P := P) (w := w) (K := K) (mg := mg) (base := base) (N := N_way_of) (qual := "way_of") (scope := defScope (top 19)) (f := He.ga K "way_of") (cd := cdv) (A := A) (outer := outer) (s := s) (H := H) (E := E)
  exact (mss_cons (ms_set (ps_set (i := 2) sc_way_of.nd rfl (Or.inl rfl) (me_call ((d_divisor T).mono (by decide)) hr tk (by rfl) (alen_cons (alen_cons alen_nil)) (ma_cons (me_var (pv 0)) (ma_cons (me_var (pv 1)) ma_nil)))))
  (mss_cons (ms_if (mt_cmp2 (op_eqD hr.units) o_eq (me_varW (pv 2)) (weak me_int) (nomark _)) (mss_one (ms_raise rfl tk (pmk_own PySem.F.excBase_ValueError T.x_NoWay.x T.x_NoWay.g T.x_NoWay.k (raises_own T.x_NoWay.b T.x_NoWay.t) (by rfl)))) mss_nil)
  (mss_one (ms_ret (me_tup (ma_cons (me_op2 op_fdivB o_div (me_varW (pv 0)) (me_varW (pv 2))) (ma_cons (me_op2 op_fdivB o_div (me_varW (pv 1)) (me_varW (pv 2))) ma_nil)))))))
theorem d_way_of (T : Fx K mg) : Def P w K mg base 2 "way_of" 2 [] m_way_of := by
  obtain ⟨fd, F⟩ := T.f_way_of
  exact Def.mk' (ps := ["p", "q"]) (N := N_way_of) (k := 1) F T.g_way_of sc_way_of b_way_of ⟨[], [], .nil, F.bindsN (fun _ _ _ _ _ _ us hl => match us, hl with | [_, _], _ => rfl), fun _ _ => .nil⟩ (fun cdv A outer s H E hr => w_way_of T fd cdv A outer s H E hr)
abbrev N_along : List Str := ["way", "spot", "a", "b", "c", "d"]
theorem sc_along : FnScope N_along ["way", "spot"] (defScope (top 20)) := ⟨rfl, rfl, rfl, by decide +kernel, rfl, by decide +kernel, by decide +kernel⟩
theorem w_along (T : Fx K mg) (fd : FuncData) (cdv : Value) (A : Around) (outer : List Env) (s : Shared) (H : Hp) (E : XK) (hr : Room 2 (A.deeper (envOfC "along" (defScope (top 20)) s.heap.objs.size (He.ga K "along") cdv))) :
    PSs (cxOf (L2.CX P w) P w K mg base N_along "along" (defScope (top 20)) (He.ga K "along") cdv A outer s H E) (defBody (top 20)) (tS K (fun cls d _ H => E cls d H) b_along) := by
  have tk := tk_cx (P := P) (w := w) (K := K) (mg := mg) (base := base) (N := N_along) (qual := "along") (scope := defScope (top 20)) (f := He.ga K "along") (cd := cdv) (A := A) (outer := outer) (s := s) (H := H) (E := E)
  exact (mss_cons (ms_asg (me_var (pv 1)) (mg_tup rfl (glen_cons (glen_cons glen_nil)) (mgs_cons (mg_tup rfl (glen_cons (glen_cons glen_nil)) (mgs_cons (mg_name (pg_name (i := 2) sc_along.nd rfl (Or.inl rfl))) (mgs_cons (mg_name (pg_name (i := 3) sc_along.nd rfl (Or.inl rfl))) mgs_nil))) (mgs_cons (mg_tup rfl (glen_cons (glen_cons glen_nil)) (mgs_cons (mg_name (pg_name (i := 4) sc_along.nd rfl (Or.inl rfl))) (mgs_cons (mg_name (pg_name (i := 5) sc_along.nd rfl (Or.inl rfl))) mgs_nil))) mgs_nil))))
  (mss_one (ms_ret (me_call ((d_share T).mono (by decide)) hr tk (by rfl) (alen_cons (alen_cons alen_nil)) (ma_cons (me_op2 op_add4 o_add (weak (me_op2 op_mulW o_mul (weak (me_op2 op_mulW o_mul (weak (me_ix ix_seq o_ix (me_varW (pv 0)) (weak me_int) (fun _ _ => rfl))) (me_varW (pv 2)))) (me_varW (pv 5)))) (weak (me_op2 op_mulW o_mul (weak (me_op2 op_mulW o_mul (weak (me_ix ix_seq o_ix (me_varW (pv 0)) (weak me_int) (fun _ _ => rfl))) (me_varW (pv 4)))) (me_varW (pv 3))))) (ma_cons (me_op2 op_mulW o_mul (me_varW (pv 3)) (me_varW (pv 5))) ma_nil))))))
theorem d_along (T : Fx K mg) : Def P w K mg base 3 "along" 2 [] m_along := by
  obtain ⟨fd, F⟩ := T.f_along
  exact Def.mk' (ps := ["way", "spot"]) (N := N_along) (k := 2) F T.g_along sc_along b_along ⟨[], [], .nil, F.bindsN (fun _ _ _ _ _ _ us hl => match us, hl with | [_, _], _ => rfl), fun _ _ => .nil⟩ (fun cdv A outer s H E hr => w_along T fd cdv A outer s H E hr)
abbrev N_spot_plus : List Str := ["one", "other", "a", "b"]
theorem sc_spot_plus : FnScope N_spot_plus ["one", "other"] (defScope (top 21)) := ⟨rfl, rfl, rfl, by decide +kernel, rfl, by decide +kernel, by decide +kernel⟩
theorem w_spot_plus (T : Fx K mg) (fd : FuncData) (cdv : Value) (A : Around) (outer : List Env) (s : Shared) (H : Hp) (E : XK) (hr : Room 3 (A.deeper (envOfC "spot_plus" (defScope (top 21)) s.heap.objs.size (He.ga K "spot_plus") cdv))) :
    PSs (cxOf (L2.CX P w) P w K mg base N_spot_plus "spot_plus" (defScope (top 21)) (He.ga K "spot_plus") cdv A outer s H E) (defBody (top 21)) (tS K (fun cls d _ H => E cls d H) b_spot_plus) := by
  have tk := tk_cx (P := P) (w := w) (K := K) (mg := mg) (base := base) (N := N_spot_plus) (qual := "spot_plus") (scope := defScope (top 21)) (f := He.ga K "spot_plus") (cd := cdv) (A := A) (outer := outer) (s := s) (H := H) (E := E)
  exact (mss_one (ms_ret (me_callTy call_tuple_of c_tup (by rfl) T.z_tuple (by decide +kernel) (maw_cons (weak (me_new (mf_lc (own := [("a", 2), ("b", 3)]) (ws := [2, 3]) rfl sc_spot_plus.nd (toO (mi_zipS (by rfl) T.z_zip (ma_cons (me_var (pv 0)) (ma_cons (me_var (pv 1)) ma_nil)) kstrict)) (blkOk_by (N := N_spot_plus) (sc := defScope (top 21)) (by decide +kernel)) (by decide) (fun _ _ _ _ _ => (mg_tup rfl (glen_cons (glen_cons glen_nil)) (mgs_cons (mg_name (pg_name (i := 2) sc_spot_plus.nd rfl (Or.inl rfl))) (mgs_cons (mg_name (pg_name (i := 3) sc_spot_plus.nd rfl (Or.inl rfl))) mgs_nil)))) (fun _ _ _ _ _ => mts_nil) (fun _ _ _ _ _ => (me_call ((d_plus T).mono (by decide)) hr takes0 (by rfl) (alen_cons (alen_cons alen_nil)) (ma_cons (me_var (pv 2)) (ma_cons (me_var (pv 3)) ma_nil))))))) maw_nil))))
theorem d_spot_plus (T : Fx K mg) : Def P w K mg base 4 "spot_plus" 2 [] m_spot_plus := by
  obtain ⟨fd, F⟩ := T.f_spot_plus
  exact Def.mk' (ps := ["one", "other"]) (N := N_spot_plus) (k := 3) F T.g_spot_plus sc_spot_plus b_spot_plus ⟨[], [], .nil, F.bindsN (fun _ _ _ _ _ _ us hl => match us, hl with | [_, _], _ => rfl), fun _ _ => .nil⟩ (fun cdv A outer s H E hr => w_spot_plus T fd cdv A outer s H E hr)
abbrev N_spot_minus : List Str := ["one", "other", "a", "b"]
theorem sc_spot_minus : FnScope N_spot_minus ["one", "other"] (defScope (top 22)) := ⟨rfl, rfl, rfl, by decide +kernel, rfl, by decide +kernel, by decide +kernel⟩
theorem w_spot_minus (T : Fx K mg) (fd : FuncData) (cdv : Value) (A : Around) (outer : List Env) (s : Shared) (H : Hp) (E : XK) (hr : Room 3 (A.deeper (envOfC "spot_minus" (defScope (top 22)) s.heap.objs.size (He.ga K "spot_minus") cdv))) :
    PSs (cxOf (L2.CX P w) P w K mg base N_spot_minus "spot_minus" (defScope (top 22)) (He.ga K "spot_minus") cdv A outer s H E) (defBody (top 22)) (tS K (fun cls d _ H => E cls d H) b_spot_minus) := by
  have tk := tk_cx (P := P) (w := w) (K := K) (mg := mg) (base := base) (N := N_spot_minus) (qual := "spot_minus") (scope := defScope (top 22)) (f := He.ga K "spot_minus") (cd := cdv) (A := A) (outer := outer) (s := s) (H := H) (E := E)
  exact (mss_one (ms_ret (me_callTy call_tuple_of c_tup (by rfl) T.z_tuple (by decide +kernel) (maw_cons (weak (me_new (mf_lc (own := [("a", 2), ("b", 3)]) (ws := [2, 3]) rfl sc_spot_minus.nd (toO (mi_zipS (by rfl) T.z_zip (ma_cons (me_var (pv 0)) (ma_cons (me_var (pv 1)) ma_nil)) kstrict)) (blkOk_by (N := N_spot_minus) (sc := defScope (top 22)) (by decide +kernel)) (by decide) (fun _ _ _ _ _ => (mg_tup rfl (glen_cons (glen_cons glen_nil)) (mgs_cons (mg_name (pg_name (i := 2) sc_spot_minus.nd rfl (Or.inl rfl))) (mgs_cons (mg_name (pg_name (i := 3) sc_spot_minus.nd rfl (Or.inl rfl))) mgs_nil)))) (fun _ _ _ _ _ => mts_nil) (fun _ _ _ _ _ => (me_call ((d_minus T).mono (by decide)) hr takes0 (by rfl) (alen_cons (alen_cons alen_nil)) (ma_cons (me_var (pv 2)) (ma_cons (me_var (pv 3)) ma_nil))))))) maw_nil))))
theorem d_spot_minus (T : Fx K mg) : Def P w K mg base 4 "spot_minus" 2 [] m_spot_minus := by
  obtain ⟨fd, F⟩ := T.f_spot_minus
  exact Def.mk' (ps := ["one", "other"]) (N := N_spot_minus) (k := 3) F T.g_spot_minus sc_spot_minus b_spot_minus ⟨[], [], .nil, F.bindsN (fun _ _ _ _ _ _ us hl => match us, hl with | [_, _], _ => rfl), fun _ _ => .nil⟩ (fun cdv A outer s H E hr => w_spot_minus T fd cdv A outer s H E hr)
abbrev N_spot_times : List Str := ["spot", "part", "x", "y"]
theorem sc_spot_times : FnScope N_spot_times ["spot", "part"] (defScope (top 23)) := ⟨rfl, rfl, rfl, by decide +kernel, rfl, by decide +kernel, by decide +kernel⟩
theorem w_spot_times (T : Fx K mg) (fd : FuncData) (cdv : Value) (A : Around) (outer : List Env) (s : Shared) (H : Hp) (E : XK) (hr : Room 3 (A.deeper (envOfC "spot_times" (defScope (top 23)) s.heap.objs.size (He.ga K "spot_times") cdv))) :
    PSs (cxOf (L2.CX P w) P w K mg base N_spot_times "spot_times" (defScope (top 23)) (He.ga K "spot_times") cdv A outer s H E) (defBody (top 23)) (tS K (fun cls d _ H => E cls d H) b_spot_times) := by
  have tk := tk_cx (P := P) (w := w) (K := K) (mg := mg) (base := base) (N := N_spot_times) (qual := "spot_times") (scope := defScope (top 23)) (f := He.ga K "spot_times") (cd := cdv) (A := A) (outer := outer) (s := s) (H := H) (E := E)
  exact (mss_cons (ms_asg (me_var (pv 0)) (mg_tup rfl (glen_cons (glen_cons glen_nil)) (mgs_cons (mg_name (pg_name (i := 2) sc_spot_times.nd rfl (Or.inl rfl))) (mgs_cons (mg_name (pg_name (i := 3) sc_spot_times.nd rfl (Or.inl rfl))) mgs_nil))))
  (mss_one (ms_ret (me_tup (ma_cons (me_call ((d_times T).mono (by decide)) hr tk (by rfl) (alen_cons (alen_cons alen_nil)) (ma_cons (me_var (pv 2)) (ma_cons (me_var (pv 1)) ma_nil))) (ma_cons (me_call ((d_times T).mono (by decide)) hr tk (by rfl) (alen_cons (alen_cons alen_nil)) (ma_cons (me_var (pv 3)) (ma_cons (me_var (pv 1)) ma_nil))) ma_nil))))))
theorem d_spot_times (T : Fx K mg) : Def P w K mg base 4 "spot_times" 2 [] m_spot_times := by
  obtain ⟨fd, F⟩ := T.f_spot_times
  exact Def.mk' (ps := ["spot", "part"]) (N := N_spot_times) (k := 3) F T.g_spot_times sc_spot_times b_spot_times ⟨[], [], .nil, F.bindsN (fun _ _ _ _ _ _ us hl => match us, hl with | [_, _], _ => rfl), fun _ _ => .nil⟩ (fun cdv A outer s H E hr => w_spot_times T fd cdv A outer s H E hr)
abbrev N_sides : List Str := ["shape", "first", "others", "found", "a", "b", "c", "d"]
theorem sc_sides : FnScope N_sides ["shape"] (defScope (top 25)) := ⟨rfl, rfl, rfl, by decide +kernel, rfl, by decide +kernel, by decide +kernel⟩
theorem w_sides (T : Fx K mg) (fd : FuncData) (cdv : Value) (A : Around) (outer : List Env) (s : Shared) (H : Hp) (E : XK) (hr : Room 2 (A.deeper (envOfC "sides" (defScope (top 25)) s.heap.objs.size (He.ga K "sides") cdv))) :
    PSs (cxOf (L2.CX P w) P w K mg base N_sides "sides" (defScope (top 25)) (He.ga K "sides") cdv A outer s H E) (defBody (top 25)) (tS K (fun cls d _ H => E cls d H) b_sides) := by
  have tk := tk_cx (P := P) (w := w) (K := K) (mg := mg) (base := base) (N := N_sides) (qual := "sides") (scope := defScope (top 25)) (f := He.ga K "sides") (cd := cdv) (A := A) (outer := outer) (s := s) (H := H) (E := E)
  exact (mss_cons (ms_asg (me_var (pv 0)) (mg_star (i := 1) rfl (mgs_cons (mg_name (pg_name (i := 1) sc_sides.nd rfl (Or.inl rfl))) (mgs_cons (mg_name (pg_name (i := 2) sc_sides.nd rfl (Or.inl rfl))) mgs_nil))))
  (mss_cons (ms_setOwn (ps_set (i := 3) sc_sides.nd rfl (Or.inl rfl) (mf_lst ma_nil)))
  (mss_cons (ms_for po_cx rfl (mi_zipS (by rfl) T.z_zip (ma_cons (me_var (pv 0)) (ma_cons (me_op2 op_add4 o_add (me_varW (pv 2)) (weak (me_new (mf_lst (ma_cons (me_var (pv 1)) ma_nil))))) ma_nil)) kstrict) (mg_tup rfl (glen_cons (glen_cons glen_nil)) (mgs_cons (mg_tup rfl (glen_cons (glen_cons glen_nil)) (mgs_cons (mg_name (pg_name (i := 4) sc_sides.nd rfl (Or.inl rfl))) (mgs_cons (mg_name (pg_name (i := 5) sc_sides.nd rfl (Or.inl rfl))) mgs_nil))) (mgs_cons (mg_tup rfl (glen_cons (glen_cons glen_nil)) (mgs_cons (mg_name (pg_name (i := 6) sc_sides.nd rfl (Or.inl rfl))) (mgs_cons (mg_name (pg_name (i := 7) sc_sides.nd rfl (Or.inl rfl))) mgs_nil))) mgs_nil))) (mss_one (ms_app (ps_expr (pe_bm PySem.F.plainAttrs_list PySem.F.slot_list_append PySem.F.type_list_append mt_append (pv 3) (pa_cons (me_call ((d_way_of T).mono (by decide)) hr tk (by rfl) (alen_cons (alen_cons alen_nil)) (ma_cons (me_op2 op_sub o_sub (me_varW (pv 7)) (me_varW (pv 5))) (ma_cons (me_op2 op_sub o_sub (me_varW (pv 4)) (me_varW (pv 6))) ma_nil))) pa_nil))))))
  (mss_frz (mss_one (ms_ret (me_callTy call_tuple_of c_tup (by rfl) T.z_tuple (by decide +kernel) (maw_cons (me_varW (pv 3)) maw_nil))))))))
theorem d_sides (T : Fx K mg) : Def P w K mg base 3 "sides" 1 [] m_sides := by
  obtain ⟨fd, F⟩ := T.f_sides
  exact Def.mk' (ps := ["shape"]) (N := N_sides) (k := 2) F T.g_sides sc_sides b_sides ⟨[], [], .nil, F.bindsN (fun _ _ _ _ _ _ us hl => match us, hl with | [_], _ => rfl), fun _ _ => .nil⟩ (fun cdv A outer s H E hr => w_sides T fd cdv A outer s H E hr)
abbrev N_reach : List Str := ["shape", "way", "x", "y"]
theorem sc_reach : FnScope N_reach ["shape", "way"] (defScope (top 26)) := ⟨rfl, rfl, rfl, by decide +kernel, rfl, by decide +kernel, by decide +kernel⟩
theorem w_reach (T : Fx K mg) (fd : FuncData) (cdv : Value) (A : Around) (outer : List Env) (s : Shared) (H : Hp) (E : XK) (hr : Room 0 (A.deeper (envOfC "reach" (defScope (top 26)) s.heap.objs.size (He.ga K "reach") cdv))) :
    PSs (cxOf (L2.CX P w) P w K mg base N_reach "reach" (defScope (top 26)) (He.ga K "reach") cdv A outer s H E) (defBody (top 26)) (tS K (fun cls d _ H => E cls d H) b_reach) := by
  have tk := tk_cx (P := P) (w := w) (K := K) (mg := mg) (base := base) (N := N_reach) (qual := "reach") (scope := defScope (top 26)) (f := He.ga K "reach") (cd := cdv) (A := A) (outer := outer) (s := s) (H := H) (E := E)
  exact (mss_one (ms_ret (me_callB (cr_max rfl) c_maxL (by rfl) T.z_max (by decide +kernel) (maw_cons (weak (me_new (mf_lc (own := [("x", 2), ("y", 3)]) (ws := [2, 3]) rfl sc_reach.nd (toO (mi_seq (me_var (pv 0)))) (blkOk_by (N := N_reach) (sc := defScope (top 26)) (by decide +kernel)) (by decide) (fun _ _ _ _ _ => (mg_tup rfl (glen_cons (glen_cons glen_nil)) (mgs_cons (mg_name (pg_name (i := 2) sc_reach.nd rfl (Or.inl rfl))) (mgs_cons (mg_name (pg_name (i := 3) sc_reach.nd rfl (Or.inl rfl))) mgs_nil)))) (fun _ _ _ _ _ => mts_nil) (fun _ _ _ _ _ => (me_op2 op_add4 o_add (weak (me_op2 op_mulW o_mul (weak (me_ix ix_seq o_ix (me_varW (pv 1)) (weak me_int) (fun _ _ => rfl))) (me_varW (pv 2)))) (weak (me_op2 op_mulW o_mul (weak (me_ix ix_seq o_ix (me_varW (pv 1)) (weak me_int) (fun _ _ => rfl))) (me_varW (pv 3))))))))) maw_nil))))
theorem d_reach (T : Fx K mg) : Def P w K mg base 1 "reach" 2 [] m_reach := by
  obtain ⟨fd, F⟩ := T.f_reach
  exact Def.mk' (ps := ["shape", "way"]) (N := N_reach) (k := 0) F T.g_reach sc_reach b_reach ⟨[], [], .nil, F.bindsN (fun _ _ _ _ _ _ us hl => match us, hl with | [_, _], _ => rfl), fun _ _ => .nil⟩ (fun cdv A outer s H E hr => w_reach T fd cdv A outer s H E hr)
abbrev N_within : List Str := ["shape", "place", "spot", "here", "way"]
theorem sc_within : FnScope N_within ["shape", "place", "spot"] (defScope (top 27)) := ⟨rfl, rfl, rfl, by decide +kernel, rfl, by decide +kernel, by decide +kernel⟩
theorem w_within (T : Fx K mg) (fd : FuncData) (cdv : Value) (A : Around) (outer : List Env) (s : Shared) (H : Hp) (E : XK) (hr : Room 4 (A.deeper (envOfC "within" (defScope (top 27)) s.heap.objs.size (He.ga K "within") cdv))) :
    PSs (cxOf (L2.CX P w) P w K mg base N_within "within" (defScope (top 27)) (He.ga K "within") cdv A outer s H E) (defBody (top 27)) (tS K (fun cls d _ H => E cls d H) b_within) := by
  have tk := tk_cx (P := P) (w := w) (K := K) (mg := mg) (base := base) (N := N_within) (qual := "within") (scope := defScope (top 27)) (f := He.ga K "within") (cd := cdv) (A := A) (outer := outer) (s := s) (H := H) (E := E)
  exact (mss_cons (ms_set (ps_set (i := 3) sc_within.nd rfl (Or.inr rfl) (me_call ((d_spot_minus T).mono (by decide)) hr tk (by rfl) (alen_cons (alen_cons alen_nil)) (ma_cons (me_var (pv 2)) (ma_cons (me_var (pv 1)) ma_nil)))))
  (mss_one (ms_ret (me_callB (cr_all rfl) c_all (by rfl) T.z_all (by decide +kernel) (maw_cons (weak (me_new (mf_lc (own := [("way", 4)]) (ws := [4]) rfl sc_within.nd (toO (mi_seq (me_call ((d_sides T).mono (by decide)) hr tk (by rfl) (alen_cons alen_nil) (ma_cons (me_var (pv 0)) ma_nil)))) (blkOk_by (N := N_within) (sc := defScope (top 27)) (by decide +kernel)) (by decide) (fun _ _ _ _ _ => (mg_name (pg_name (i := 4) sc_within.nd rfl (Or.inl rfl)))) (fun _ _ _ _ _ => mts_nil) (fun _ _ _ _ _ => (me_cmp2 op_lt o_lt (weak (me_call ((d_order T).mono (by decide)) hr takes0 (by rfl) (alen_cons (alen_cons alen_nil)) (ma_cons (me_call ((d_along T).mono (by decide)) hr takes0 (by rfl) (alen_cons (alen_cons alen_nil)) (ma_cons (me_var (pv 4)) (ma_cons (me_var (pv 3)) ma_nil))) (ma_cons (me_tup (ma_cons (me_call ((d_reach T).mono (by decide)) hr takes0 (by rfl) (alen_cons (alen_cons alen_nil)) (ma_cons (me_var (pv 0)) (ma_cons (me_var (pv 4)) ma_nil))) (ma_cons me_int ma_nil))) ma_nil)))) (weak me_int) (nomark _)))))) maw_nil)))))
theorem d_within (T : Fx K mg) : Def P w K mg base 5 "within" 3 [] m_within := by
  obtain ⟨fd, F⟩ := T.f_within
  exact Def.mk' (ps := ["shape", "place", "spot"]) (N := N_within) (k := 4) F T.g_within sc_within b_within ⟨[], [], .nil, F.bindsN (fun _ _ _ _ _ _ us hl => match us, hl with | [_, _, _], _ => rfl), fun _ _ => .nil⟩ (fun cdv A outer s H E hr => w_within T fd cdv A outer s H E hr)
abbrev N_turned_way : List Str := ["way"]
theorem sc_turned_way : FnScope N_turned_way ["way"] (defScope (top 29)) := ⟨rfl, rfl, rfl, by decide +kernel, rfl, by decide +kernel, by decide +kernel⟩
theorem w_turned_way (T : Fx K mg) (fd : FuncData) (cdv : Value) (A : Around) (outer : List Env) (s : Shared) (H : Hp) (E : XK) (hr : Room 0 (A.deeper (envOfC "turned_way" (defScope (top 29)) s.heap.objs.size (He.ga K "turned_way") cdv))) :
    PSs (cxOf (L2.CX P w) P w K mg base N_turned_way "turned_way" (defScope (top 29)) (He.ga K "turned_way") cdv A outer s H E) (defBody (top 29)) (tS K (fun cls d _ H => E cls d H) b_turned_way) := by
  have tk := tk_cx (P := P) (w := w) (K := K) (mg := mg) (base := base) (N := N_turned_way) (qual := "turned_way") (scope := defScope (top 29)) (f := He.ga K "turned_way") (cd := cdv) (A := A) (outer := outer) (s := s) (H := H) (E := E)
  exact (mss_one (ms_ret (me_tup (ma_cons (me_un un_neg o_neg (weak (me_ix ix_seq o_ix (me_varW (pv 0)) (weak me_int) (fun _ _ => rfl)))) (ma_cons (me_un un_neg o_neg (weak (me_ix ix_seq o_ix (me_varW (pv 0)) (weak me_int) (fun _ _ => rfl)))) ma_nil)))))
theorem d_turned_way (T : Fx K mg) : Def P w K mg base 1 "turned_way" 1 [] m_turned_way := by
  obtain ⟨fd, F⟩ := T.f_turned_way
  exact Def.mk' (ps := ["way"]) (N := N_turned_way) (k := 0) F T.g_turned_way sc_turned_way b_turned_way ⟨[], [], .nil, F.bindsN (fun _ _ _ _ _ _ us hl => match us, hl with | [_], _ => rfl), fun _ _ => .nil⟩ (fun cdv A outer s H E hr => w_turned_way T fd cdv A outer s H E hr)
abbrev N_pair_ways : List Str := ["one", "other", "found", "way"]
theorem sc_pair_ways : FnScope N_pair_ways ["one", "other"] (defScope (top 30)) := ⟨rfl, rfl, rfl, by decide +kernel, rfl, by decide +kernel, by decide +kernel⟩
theorem w_pair_ways (T : Fx K mg) (fd : FuncData) (cdv : Value) (A : Around) (outer : List Env) (s : Shared) (H : Hp) (E : XK) (hr : Room 3 (A.deeper (envOfC "pair_ways" (defScope (top 30)) s.heap.objs.size (He.ga K "pair_ways") cdv))) :
    PSs (cxOf (L2.CX P w) P w K mg base N_pair_ways "pair_ways" (defScope (top 30)) (He.ga K "pair_ways") cdv A outer s H E) (defBody (top 30)) (tS K (fun cls d _ H => E cls d H) b_pair_ways) := by
  have tk := tk_cx (P := P) (w := w) (K := K) (mg := mg) (base := base) (N := N_pair_ways) (qual := "pair_ways") (scope := defScope (top 30)) (f := He.ga K "pair_ways") (cd := cdv) (A := A) (outer := outer) (s := s) (H := H) (E := E)
  exact (mss_cons (ms_dcOwn (putMX _) (by decide) (ps_setDg (i := 2) (own := [("way", 3)]) hr.units1 rfl sc_pair_ways.nd rfl rfl (sw_trueD rfl rfl rfl (by decide +kernel)) (mi_seq (me_call ((d_sides T).mono (by decide)) hr tk (by rfl) (alen_cons alen_nil) (ma_cons (me_ix ix_seq o_ix (me_varW (pv 0)) (weak me_int) (fun _ _ => rfl)) ma_nil))) (blkOk_by (N := N_pair_ways) (sc := defScope (top 30)) (by decide +kernel)) (fun _ _ _ _ _ => (mg_name (pg_name (i := 3) sc_pair_ways.nd rfl (Or.inl rfl)))) (fun _ _ _ _ _ => mts_nil) (fun _ _ _ _ _ => (me_var (pv 3))) (fun _ _ _ _ _ => me_bl)))
  (mss_cons (ms_for po_cx rfl (mi_seq (me_call ((d_sides T).mono (by decide)) hr tk (by rfl) (alen_cons alen_nil) (ma_cons (me_ix ix_seq o_ix (me_varW (pv 1)) (weak me_int) (fun _ _ => rfl)) ma_nil))) (mg_name (pg_name (i := 3) sc_pair_ways.nd rfl (Or.inl rfl))) (mss_one (ms_putD (ps_asg me_bl (pg_sub (pv 2) (me_call ((d_turned_way T).mono (by decide)) hr tk (by rfl) (alen_cons alen_nil) (ma_cons (me_var (pv 3)) ma_nil)) (set_dctG hr.units1))))))
  (mss_frz (mss_one (ms_ret (me_callTy call_tuple_of c_tup (by rfl) T.z_tuple (by decide +kernel) (maw_cons (weak (me_new (mf_sortD hr.units (by rfl) T.z_sorted (maw_cons (weak (me_new (mf_listX rfl (by rfl) T.z_list (by decide +kernel) (maw_cons (me_varW (pv 2)) maw_nil)))) maw_nil)))) maw_nil)))))))
theorem d_pair_ways (T : Fx K mg) : Def P w K mg base 4 "pair_ways" 2 [] m_pair_ways := by
  obtain ⟨fd, F⟩ := T.f_pair_ways
  exact Def.mk' (ps := ["one", "other"]) (N := N_pair_ways) (k := 3) F T.g_pair_ways sc_pair_ways b_pair_ways ⟨[], [], .nil, F.bindsN (fun _ _ _ _ _ _ us hl => match us, hl with | [_, _], _ => rfl), fun _ _ => .nil⟩ (fun cdv A outer s H E hr => w_pair_ways T fd cdv A outer s H E hr)
abbrev N_rate : List Str := ["one", "other", "way"]
theorem sc_rate : FnScope N_rate ["one", "other", "way"] (defScope (top 31)) := ⟨rfl, rfl, rfl, by decide +kernel, rfl, by decide +kernel, by decide +kernel⟩
theorem w_rate (T : Fx K mg) (fd : FuncData) (cdv : Value) (A : Around) (outer : List Env) (s : Shared) (H : Hp) (E : XK) (hr : Room 4 (A.deeper (envOfC "rate" (defScope (top 31)) s.heap.objs.size (He.ga K "rate") cdv))) :
    PSs (cxOf (L2.CX P w) P w K mg base N_rate "rate" (defScope (top 31)) (He.ga K "rate") cdv A outer s H E) (defBody (top 31)) (tS K (fun cls d _ H => E cls d H) b_rate) := by
  have tk := tk_cx (P := P) (w := w) (K := K) (mg := mg) (base := base) (N := N_rate) (qual := "rate") (scope := defScope (top 31)) (f := He.ga K "rate") (cd := cdv) (A := A) (outer := outer) (s := s) (H := H) (E := E)
  exact (mss_one (ms_ret (me_call ((d_along T).mono (by decide)) hr tk (by rfl) (alen_cons (alen_cons alen_nil)) (ma_cons (me_var (pv 2)) (ma_cons (me_call ((d_spot_minus T).mono (by decide)) hr tk (by rfl) (alen_cons (alen_cons alen_nil)) (ma_cons (me_ix ix_seq o_ix (me_varW (pv 1)) (weak me_int) (fun _ _ => rfl)) (ma_cons (me_ix ix_seq o_ix (me_varW (pv 0)) (weak me_int) (fun _ _ => rfl)) ma_nil))) ma_nil)))))
theorem d_rate (T : Fx K mg) : Def P w K mg base 5 "rate" 3 [] m_rate := by
  obtain ⟨fd, F⟩ := T.f_rate
  exact Def.mk' (ps := ["one", "other", "way"]) (N := N_rate) (k := 4) F T.g_rate sc_rate b_rate ⟨[], [], .nil, F.bindsN (fun _ _ _ _ _ _ us hl => match us, hl with | [_, _, _], _ => rfl), fun _ _ => .nil⟩ (fun cdv A outer s H E hr => w_rate T fd cdv A outer s H E hr)
abbrev N_gap : List Str := ["one", "other", "way", "after", "room", "shut"]
theorem sc_gap : FnScope N_gap ["one", "other", "way", "after"] (defScope (top 32)) := ⟨rfl, rfl, rfl, by decide +kernel, rfl, by decide +kernel, by decide +kernel⟩
theorem w_gap (T : Fx K mg) (fd : FuncData) (cdv : Value) (A : Around) (outer : List Env) (s : Shared) (H : Hp) (E : XK) (hr : Room 5 (A.deeper (envOfC "gap" (defScope (top 32)) s.heap.objs.size (He.ga K "gap") cdv))) :
    PSs (cxOf (L2.CX P w) P w K mg base N_gap "gap" (defScope (top 32)) (He.ga K "gap") cdv A outer s H E) (defBody (top 32)) (tS K (fun cls d _ H => E cls d H) b_gap) := by
  have tk := tk_cx (P := P) (w := w) (K := K) (mg := mg) (base := base) (N := N_gap) (qual := "gap") (scope := defScope (top 32)) (f := He.ga K "gap") (cd := cdv) (A := A) (outer := outer) (s := s) (H := H) (E := E)
  exact (mss_cons (ms_set (ps_set (i := 4) sc_gap.nd rfl (Or.inl rfl) (me_call ((d_along T).mono (by decide)) hr tk (by rfl) (alen_cons (alen_cons alen_nil)) (ma_cons (me_var (pv 2)) (ma_cons (me_call ((d_spot_minus T).mono (by decide)) hr tk (by rfl) (alen_cons (alen_cons alen_nil)) (ma_cons (me_ix ix_seq o_ix (me_varW (pv 1)) (weak me_int) (fun _ _ => rfl)) (ma_cons (me_ix ix_seq o_ix (me_varW (pv 0)) (weak me_int) (fun _ _ => rfl)) ma_nil))) ma_nil)))))
  (mss_cons (ms_set (ps_set (i := 5) sc_gap.nd rfl (Or.inl rfl) (me_op2 op_add4 o_add (weak (me_call ((d_reach T).mono (by decide)) hr tk (by rfl) (alen_cons (alen_cons alen_nil)) (ma_cons (me_ix ix_seq o_ix (me_varW (pv 0)) (weak me_int) (fun _ _ => rfl)) (ma_cons (me_var (pv 2)) ma_nil)))) (weak (me_call ((d_reach T).mono (by decide)) hr tk (by rfl) (alen_cons (alen_cons alen_nil)) (ma_cons (me_ix ix_seq o_ix (me_varW (pv 1)) (weak me_int) (fun _ _ => rfl)) (ma_cons (me_call ((d_turned_way T).mono (by decide)) hr tk (by rfl) (alen_cons alen_nil) (ma_cons (me_var (pv 2)) ma_nil)) ma_nil)))))))
  (mss_one (ms_ret (me_call ((d_plus T).mono (by decide)) hr tk (by rfl) (alen_cons (alen_cons alen_nil)) (ma_cons (me_call ((d_minus T).mono (by decide)) hr tk (by rfl) (alen_cons (alen_cons alen_nil)) (ma_cons (me_var (pv 4)) (ma_cons (me_tup (ma_cons (me_var (pv 5)) (ma_cons me_int ma_nil))) ma_nil))) (ma_cons (me_call ((d_times T).mono (by decide)) hr tk (by rfl) (alen_cons (alen_cons alen_nil)) (ma_cons (me_call ((d_rate T).mono (by decide)) hr tk (by rfl) (alen_cons (alen_cons (alen_cons alen_nil))) (ma_cons (me_var (pv 0)) (ma_cons (me_var (pv 1)) (ma_cons (me_var (pv 2)) ma_nil)))) (ma_cons (me_var (pv 3)) ma_nil))) ma_nil)))))))
theorem d_gap (T : Fx K mg) : Def P w K mg base 6 "gap" 4 [] m_gap := by
  obtain ⟨fd, F⟩ := T.f_gap
  exact Def.mk' (ps := ["one", "other", "way", "after"]) (N := N_gap) (k := 5) F T.g_gap sc_gap b_gap (by
    obtain ⟨ds, h1, h2⟩ := F.binds1 (ps := ["one", "other", "way", "after"]) 4 1 (by simp) rfl (fun _ _ _ _ _ _ _ us its hu hi => match us, its, hu, hi with | [_, _, _, _], [_], _, _ => ⟨_, rfl, rfl⟩)
    exact ⟨ds, _, h1, h2, fun _ _ => .nil⟩) (fun cdv A outer s H E hr => w_gap T fd cdv A outer s H E hr)
abbrev N_place_after : List Str := ["row", "after"]
theorem sc_place_after : FnScope N_place_after ["row", "after"] (defScope (top 34)) := ⟨rfl, rfl, rfl, by decide +kernel, rfl, by decide +kernel, by decide +kernel⟩
theorem w_place_after (T : Fx K mg) (fd : FuncData) (cdv : Value) (A : Around) (outer : List Env) (s : Shared) (H : Hp) (E : XK) (hr : Room 4 (A.deeper (envOfC "place_after" (defScope (top 34)) s.heap.objs.size (He.ga K "place_after") cdv))) :
    PSs (cxOf (L2.CX P w) P w K mg base N_place_after "place_after" (defScope (top 34)) (He.ga K "place_after") cdv A outer s H E) (defBody (top 34)) (tS K (fun cls d _ H => E cls d H) b_place_after) := by
  have tk := tk_cx (P := P) (w := w) (K := K) (mg := mg) (base := base) (N := N_place_after) (qual := "place_after") (scope := defScope (top 34)) (f := He.ga K "place_after") (cd := cdv) (A := A) (outer := outer) (s := s) (H := H) (E := E)
  exact (mss_one (ms_ret (me_call ((d_spot_plus T).mono (by decide)) hr tk (by rfl) (alen_cons (alen_cons alen_nil)) (ma_cons (me_ix ix_seq o_ix (me_varW (pv 0)) (weak me_int) (fun _ _ => rfl)) (ma_cons (me_call ((d_spot_times T).mono (by decide)) hr tk (by rfl) (alen_cons (alen_cons alen_nil)) (ma_cons (me_ix ix_seq o_ix (me_varW (pv 0)) (weak me_int) (fun _ _ => rfl)) (ma_cons (me_var (pv 1)) ma_nil))) ma_nil)))))
theorem d_place_after (T : Fx K mg) : Def P w K mg base 5 "place_after" 2 [] m_place_after := by
  obtain ⟨fd, F⟩ := T.f_place_after
  exact Def.mk' (ps := ["row", "after"]) (N := N_place_after) (k := 4) F T.g_place_after sc_place_after b_place_after ⟨[], [], .nil, F.bindsN (fun _ _ _ _ _ _ us hl => match us, hl with | [_, _], _ => rfl), fun _ _ => .nil⟩ (fun cdv A outer s H E hr => w_place_after T fd cdv A outer s H E hr)
abbrev N_corners_after : List Str := ["row", "after", "place", "x", "y"]
theorem sc_corners_after : FnScope N_corners_after ["row", "after"] (defScope (top 35)) := ⟨rfl, rfl, rfl, by decide +kernel, rfl, by decide +kernel, by decide +kernel⟩
theorem w_corners_after (T : Fx K mg) (fd : FuncData) (cdv : Value) (A : Around) (outer : List Env) (s : Shared) (H : Hp) (E : XK) (hr : Room 5 (A.deeper (envOfC "corners_after" (defScope (top 35)) s.heap.objs.size (He.ga K "corners_after") cdv))) :
    PSs (cxOf (L2.CX P w) P w K mg base N_corners_after "corners_after" (defScope (top 35)) (He.ga K "corners_after") cdv A outer s H E) (defBody (top 35)) (tS K (fun cls d _ H => E cls d H) b_corners_after) := by
  have tk := tk_cx (P := P) (w := w) (K := K) (mg := mg) (base := base) (N := N_corners_after) (qual := "corners_after") (scope := defScope (top 35)) (f := He.ga K "corners_after") (cd := cdv) (A := A) (outer := outer) (s := s) (H := H) (E := E)
  exact (mss_cons (ms_set (ps_set (i := 2) sc_corners_after.nd rfl (Or.inr rfl) (me_call ((d_place_after T).mono (by decide)) hr tk (by rfl) (alen_cons (alen_cons alen_nil)) (ma_cons (me_var (pv 0)) (ma_cons (me_var (pv 1)) ma_nil)))))
  (mss_one (ms_ret (me_new (mf_lc (own := [("x", 3), ("y", 4)]) (ws := [3, 4]) rfl sc_corners_after.nd (toO (mi_seq (me_ix ix_seq o_ix (me_varW (pv 0)) (weak me_int) (fun _ _ => rfl)))) (blkOk_by (N := N_corners_after) (sc := defScope (top 35)) (by decide +kernel)) (by decide) (fun _ _ _ _ _ => (mg_tup rfl (glen_cons (glen_cons glen_nil)) (mgs_cons (mg_name (pg_name (i := 3) sc_corners_after.nd rfl (Or.inl rfl))) (mgs_cons (mg_name (pg_name (i := 4) sc_corners_after.nd rfl (Or.inl rfl))) mgs_nil)))) (fun _ _ _ _ _ => mts_nil) (fun _ _ _ _ _ => (me_call ((d_spot_plus T).mono (by decide)) hr takes0 (by rfl) (alen_cons (alen_cons alen_nil)) (ma_cons (me_var (pv 2)) (ma_cons (me_tup (ma_cons (me_tup (ma_cons (me_var (pv 3)) (ma_cons me_int ma_nil))) (ma_cons (me_tup (ma_cons (me_var (pv 4)) (ma_cons me_int ma_nil))) ma_nil))) ma_nil)))))))))
theorem d_corners_after (T : Fx K mg) : Def P w K mg base 6 "corners_after" 2 [] m_corners_after := by
  obtain ⟨fd, F⟩ := T.f_corners_after
  exact Def.mk' (ps := ["row", "after"]) (N := N_corners_after) (k := 5) F T.g_corners_after sc_corners_after b_corners_after ⟨[], [], .nil, F.bindsN (fun _ _ _ _ _ _ us hl => match us, hl with | [_, _], _ => rfl), fun _ _ => .nil⟩ (fun cdv A outer s H E hr => w_corners_after T fd cdv A outer s H E hr)
abbrev N_crossing : List Str := ["way", "most", "one", "other", "low", "part"]
theorem sc_crossing : FnScope N_crossing ["way", "most", "one", "other"] (defScope (top 36)) := ⟨rfl, rfl, rfl, by decide +kernel, rfl, by decide +kernel, by decide +kernel⟩
theorem w_crossing (T : Fx K mg) (fd : FuncData) (cdv : Value) (A : Around) (outer : List Env) (s : Shared) (H : Hp) (E : XK) (hr : Room 4 (A.deeper (envOfC "crossing" (defScope (top 36)) s.heap.objs.size (He.ga K "crossing") cdv))) :
    PSs (cxOf (L2.CX P w) P w K mg base N_crossing "crossing" (defScope (top 36)) (He.ga K "crossing") cdv A outer s H E) (defBody (top 36)) (tS K (fun cls d _ H => E cls d H) b_crossing) := by
  have tk := tk_cx (P := P) (w := w) (K := K) (mg := mg) (base := base) (N := N_crossing) (qual := "crossing") (scope := defScope (top 36)) (f := He.ga K "crossing") (cd := cdv) (A := A) (outer := outer) (s := s) (H := H) (E := E)
  exact (mss_cons (ms_set (ps_set (i := 4) sc_crossing.nd rfl (Or.inl rfl) (me_call ((d_along T).mono (by decide)) hr tk (by rfl) (alen_cons (alen_cons alen_nil)) (ma_cons (me_var (pv 0)) (ma_cons (me_var (pv 2)) ma_nil)))))
  (mss_cons (ms_set (ps_set (i := 5) sc_crossing.nd rfl (Or.inl rfl) (me_call ((d_over T).mono (by decide)) hr tk (by rfl) (alen_cons (alen_cons alen_nil)) (ma_cons (me_call ((d_minus T).mono (by decide)) hr tk (by rfl) (alen_cons (alen_cons alen_nil)) (ma_cons (me_var (pv 1)) (ma_cons (me_var (pv 4)) ma_nil))) (ma_cons (me_call ((d_minus T).mono (by decide)) hr tk (by rfl) (alen_cons (alen_cons alen_nil)) (ma_cons (me_call ((d_along T).mono (by decide)) hr tk (by rfl) (alen_cons (alen_cons alen_nil)) (ma_cons (me_var (pv 0)) (ma_cons (me_var (pv 3)) ma_nil))) (ma_cons (me_var (pv 4)) ma_nil))) ma_nil)))))
  (mss_one (ms_ret (me_call ((d_spot_plus T).mono (by decide)) hr tk (by rfl) (alen_cons (alen_cons alen_nil)) (ma_cons (me_var (pv 2)) (ma_cons (me_call ((d_spot_times T).mono (by decide)) hr tk (by rfl) (alen_cons (alen_cons alen_nil)) (ma_cons (me_call ((d_spot_minus T).mono (by decide)) hr tk (by rfl) (alen_cons (alen_cons alen_nil)) (ma_cons (me_var (pv 3)) (ma_cons (me_var (pv 2)) ma_nil))) (ma_cons (me_var (pv 5)) ma_nil))) ma_nil)))))))
theorem d_crossing (T : Fx K mg) : Def P w K mg base 5 "crossing" 4 [] m_crossing := by
  obtain ⟨fd, F⟩ := T.f_crossing
  exact Def.mk' (ps := ["way", "most", "one", "other"]) (N := N_crossing) (k := 4) F T.g_crossing sc_crossing b_crossing ⟨[], [], .nil, F.bindsN (fun _ _ _ _ _ _ us hl => match us, hl with | [_, _, _, _], _ => rfl), fun _ _ => .nil⟩ (fun cdv A outer s H E hr => w_crossing T fd cdv A outer s H E hr)
abbrev N_cut_by : List Str := ["spots", "way", "most", "found", "at", "spot", "ahead", "kept", "was_kept"]
theorem sc_cut_by : FnScope N_cut_by ["spots", "way", "most"] (defScope (top 37)) := ⟨rfl, rfl, rfl, by decide +kernel, rfl, by decide +kernel, by decide +kernel⟩
theorem w_cut_by (T : Fx K mg) (fd : FuncData) (cdv : Value) (A : Around) (outer : List Env) (s : Shared) (H : Hp) (E : XK) (hr : Room 5 (A.deeper (envOfC "cut_by" (defScope (top 37)) s.heap.objs.size (He.ga K "cut_by") cdv))) :
    PSs (cxOf (L2.CX P w) P w K mg base N_cut_by "cut_by" (defScope (top 37)) (He.ga K "cut_by") cdv A outer s H E) (defBody (top 37)) (tS K (fun cls d _ H => E cls d H) b_cut_by) := by
  have tk := tk_cx (P := P) (w := w) (K := K) (mg := mg) (base := base) (N := N_cut_by) (qual := "cut_by") (scope := defScope (top 37)) (f := He.ga K "cut_by") (cd := cdv) (A := A) (outer := outer) (s := s) (H := H) (E := E)
  exact (mss_cons (ms_setOwn (ps_set (i := 3) sc_cut_by.nd rfl (Or.inl rfl) (mf_lst ma_nil)))
  (mss_cons (ms_for po_cx rfl (mi_enum2 (by rfl) T.z_enumerate (ma_cons (me_var (pv 0)) ma_nil)) (mg_tup rfl (glen_cons (glen_cons glen_nil)) (mgs_cons (mg_name (pg_name (i := 4) sc_cut_by.nd rfl (Or.inl rfl))) (mgs_cons (mg_name (pg_name (i := 5) sc_cut_by.nd rfl (Or.inl rfl))) mgs_nil))) (mss_cons (ms_set (ps_set (i := 6) sc_cut_by.nd rfl (Or.inl rfl) (me_ix ix_seq o_ix (me_varW (pv 0)) (weak (me_op2 op_sub o_sub (me_varW (pv 4)) (weak me_int))) (fun _ _ => rfl))))
  (mss_cons (ms_set (ps_set (i := 7) sc_cut_by.nd rfl (Or.inl rfl) (me_cmp2 op_le o_le (weak (me_call ((d_order T).mono (by decide)) hr tk (by rfl) (alen_cons (alen_cons alen_nil)) (ma_cons (me_call ((d_along T).mono (by decide)) hr tk (by rfl) (alen_cons (alen_cons alen_nil)) (ma_cons (me_var (pv 1)) (ma_cons (me_var (pv 5)) ma_nil))) (ma_cons (me_var (pv 2)) ma_nil)))) (weak me_int) (nomark _))))
  (mss_cons (ms_set (ps_set (i := 8) sc_cut_by.nd rfl (Or.inl rfl) (me_cmp2 op_le o_le (weak (me_call ((d_order T).mono (by decide)) hr tk (by rfl) (alen_cons (alen_cons alen_nil)) (ma_cons (me_call ((d_along T).mono (by decide)) hr tk (by rfl) (alen_cons (alen_cons alen_nil)) (ma_cons (me_var (pv 1)) (ma_cons (me_var (pv 6)) ma_nil))) (ma_cons (me_var (pv 2)) ma_nil)))) (weak me_int) (nomark _))))
  (mss_cons (ms_if (mt_cmp2 (op_neD hr.units) o_ne (me_varW (pv 7)) (me_varW (pv 8)) (nomark _)) (mss_one (ms_app (ps_expr (pe_bm PySem.F.plainAttrs_list PySem.F.slot_list_append PySem.F.type_list_append mt_append (pv 3) (pa_cons (me_call ((d_crossing T).mono (by decide)) hr tk (by rfl) (alen_cons (alen_cons (alen_cons (alen_cons alen_nil)))) (ma_cons (me_var (pv 1)) (ma_cons (me_var (pv 2)) (ma_cons (me_var (pv 6)) (ma_cons (me_var (pv 5)) ma_nil))))) pa_nil))))) mss_nil)
  (mss_one (ms_if (mt_truth (me_varW (pv 7))) (mss_one (ms_app (ps_expr (pe_bm PySem.F.plainAttrs_list PySem.F.slot_list_append PySem.F.type_list_append mt_append (pv 3) (pa_cons (me_var (pv 5)) pa_nil))))) mss_nil)))))))
  (mss_frz (mss_one (ms_ret (me_var (pv 3)))))))
theorem d_cut_by (T : Fx K mg) : Def P w K mg base 6 "cut_by" 3 [] m_cut_by := by
  obtain ⟨fd, F⟩ := T.f_cut_by
  exact Def.mk' (ps := ["spots", "way", "most"]) (N := N_cut_by) (k := 5) F T.g_cut_by sc_cut_by b_cut_by ⟨[], [], .nil, F.bindsN (fun _ _ _ _ _ _ us hl => match us, hl with | [_, _, _], _ => rfl), fun _ _ => .nil⟩ (fun cdv A outer s H E hr => w_cut_by T fd cdv A outer s H E hr)
abbrev N_common_spot : List Str := ["one", "other", "after", "spots", "place", "way", "total", "spot"]
theorem sc_common_spot : FnScope N_common_spot ["one", "other", "after"] (defScope (top 38)) := ⟨rfl, rfl, rfl, by decide +kernel, rfl, by decide +kernel, by decide +kernel⟩
theorem w_common_spot (T : Fx K mg) (fd : FuncData) (cdv : Value) (A : Around) (outer : List Env) (s : Shared) (H : Hp) (E : XK) (hr : Room 6 (A.deeper (envOfC "common_spot" (defScope (top 38)) s.heap.objs.size (He.ga K "common_spot") cdv))) :
    PSs (cxOf (L2.CX P w) P w K mg base N_common_spot "common_spot" (defScope (top 38)) (He.ga K "common_spot") cdv A outer s H E) (defBody (top 38)) (tS K (fun cls d _ H => E cls d H) b_common_spot) := by
  have tk := tk_cx (P := P) (w := w) (K := K) (mg := mg) (base := base) (N := N_common_spot) (qual := "common_spot") (scope := defScope (top 38)) (f := He.ga K "common_spot") (cd := cdv) (A := A) (outer := outer) (s := s) (H := H) (E := E)
  exact (mss_cons (ms_set (ps_set (i := 3) sc_common_spot.nd rfl (Or.inl rfl) (me_call ((d_corners_after T).mono (by decide)) hr tk (by rfl) (alen_cons (alen_cons alen_nil)) (ma_cons (me_var (pv 0)) (ma_cons (me_var (pv 2)) ma_nil)))))
  (mss_cons (ms_set (ps_set (i := 4) sc_common_spot.nd rfl (Or.inl rfl) (me_call ((d_place_after T).mono (by decide)) hr tk (by rfl) (alen_cons (alen_cons alen_nil)) (ma_cons (me_var (pv 1)) (ma_cons (me_var (pv 2)) ma_nil)))))
  (mss_cons (ms_for po_cx rfl (mi_seq (me_call ((d_sides T).mono (by decide)) hr tk (by rfl) (alen_cons alen_nil) (ma_cons (me_ix ix_seq o_ix (me_varW (pv 1)) (weak me_int) (fun _ _ => rfl)) ma_nil))) (mg_name (pg_name (i := 5) sc_common_spot.nd rfl (Or.inl rfl))) (mss_one (ms_set (ps_set (i := 3) sc_common_spot.nd rfl (Or.inl rfl) (me_call ((d_cut_by T).mono (by decide)) hr tk (by rfl) (alen_cons (alen_cons (alen_cons alen_nil))) (ma_cons (me_var (pv 3)) (ma_cons (me_var (pv 5)) (ma_cons (me_call ((d_plus T).mono (by decide)) hr tk (by rfl) (alen_cons (alen_cons alen_nil)) (ma_cons (me_tup (ma_cons (me_call ((d_reach T).mono (by decide)) hr tk (by rfl) (alen_cons (alen_cons alen_nil)) (ma_cons (me_ix ix_seq o_ix (me_varW (pv 1)) (weak me_int) (fun _ _ => rfl)) (ma_cons (me_var (pv 5)) ma_nil))) (ma_cons me_int ma_nil))) (ma_cons (me_call ((d_along T).mono (by decide)) hr tk (by rfl) (alen_cons (alen_cons alen_nil)) (ma_cons (me_var (pv 5)) (ma_cons (me_var (pv 4)) ma_nil))) ma_nil))) ma_nil))))))))
  (mss_cons (ms_set (ps_set (i := 6) sc_common_spot.nd rfl (Or.inl rfl) (me_g T.c_STILL (by rfl))))
  (mss_cons (ms_for po_cx rfl (mi_seq (me_var (pv 3))) (mg_name (pg_name (i := 7) sc_common_spot.nd rfl (Or.inl rfl))) (mss_one (ms_set (ps_set (i := 6) sc_common_spot.nd rfl (Or.inl rfl) (me_call ((d_spot_plus T).mono (by decide)) hr tk (by rfl) (alen_cons (alen_cons alen_nil)) (ma_cons (me_var (pv 6)) (ma_cons (me_var (pv 7)) ma_nil)))))))
  (mss_one (ms_ret (me_call ((d_spot_times T).mono (by decide)) hr tk (by rfl) (alen_cons (alen_cons alen_nil)) (ma_cons (me_var (pv 6)) (ma_cons (me_tup (ma_cons me_int (ma_cons (me_callB call_len3 c_len (by rfl) T.z_len (by decide +kernel) (maw_cons (me_varW (pv 3)) maw_nil)) ma_nil))) ma_nil))))))))))
theorem d_common_spot (T : Fx K mg) : Def P w K mg base 7 "common_spot" 3 [] m_common_spot := by
  obtain ⟨fd, F⟩ := T.f_common_spot
  exact Def.mk' (ps := ["one", "other", "after"]) (N := N_common_spot) (k := 6) F T.g_common_spot sc_common_spot b_common_spot ⟨[], [], .nil, F.bindsN (fun _ _ _ _ _ _ us hl => match us, hl with | [_, _, _], _ => rfl), fun _ _ => .nil⟩ (fun cdv A outer s H E hr => w_common_spot T fd cdv A outer s H E hr)
abbrev N_apart : List Str := ["one", "other", "after", "way"]
theorem sc_apart : FnScope N_apart ["one", "other", "after"] (defScope (top 39)) := ⟨rfl, rfl, rfl, by decide +kernel, rfl, by decide +kernel, by decide +kernel⟩
theorem w_apart (T : Fx K mg) (fd : FuncData) (cdv : Value) (A : Around) (outer : List Env) (s : Shared) (H : Hp) (E : XK) (hr : Room 7 (A.deeper (envOfC "apart" (defScope (top 39)) s.heap.objs.size (He.ga K "apart") cdv))) :
    PSs (cxOf (L2.CX P w) P w K mg base N_apart "apart" (defScope (top 39)) (He.ga K "apart") cdv A outer s H E) (defBody (top 39)) (tS K (fun cls d _ H => E cls d H) b_apart) := by
  have tk := tk_cx (P := P) (w := w) (K := K) (mg := mg) (base := base) (N := N_apart) (qual := "apart") (scope := defScope (top 39)) (f := He.ga K "apart") (cd := cdv) (A := A) (outer := outer) (s := s) (H := H) (E := E)
  exact (mss_cons (ms_for po_cx rfl (mi_seq (me_call ((d_pair_ways T).mono (by decide)) hr tk (by rfl) (alen_cons (alen_cons alen_nil)) (ma_cons (me_var (pv 0)) (ma_cons (me_var (pv 1)) ma_nil)))) (mg_name (pg_name (i := 3) sc_apart.nd rfl (Or.inl rfl))) (mss_one (ms_if (mt_cmp2 op_ge o_ge (weak (me_ix ix_seq o_ix (weak (me_call ((d_gap T).mono (by decide)) hr tk (by rfl) (alen_cons (alen_cons (alen_cons (alen_cons alen_nil)))) (ma_cons (me_var (pv 0)) (ma_cons (me_var (pv 1)) (ma_cons (me_var (pv 3)) (ma_cons (me_var (pv 2)) ma_nil)))))) (weak me_int) (fun _ _ => rfl))) (weak me_int) (nomark _)) (mss_one (ms_ret (me_tup (ma_cons me_str (ma_cons (me_var (pv 3)) ma_nil))))) mss_nil)))
  (mss_one (ms_ret (me_tup (ma_cons me_str (ma_cons (me_call ((d_common_spot T).mono (by decide)) hr tk (by rfl) (alen_cons (alen_cons (alen_cons alen_nil))) (ma_cons (me_var (pv 0)) (ma_cons (me_var (pv 1)) (ma_cons (me_var (pv 2)) ma_nil)))) ma_nil))))))
theorem d_apart (T : Fx K mg) : Def P w K mg base 8 "apart" 3 [] m_apart := by
  obtain ⟨fd, F⟩ := T.f_apart
  exact Def.mk' (ps := ["one", "other", "after"]) (N := N_apart) (k := 7) F T.g_apart sc_apart b_apart (by
    obtain ⟨ds, h1, h2⟩ := F.binds1 (ps := ["one", "other", "after"]) 3 1 (by simp) rfl (fun _ _ _ _ _ _ _ us its hu hi => match us, its, hu, hi with | [_, _, _], [_], _, _ => ⟨_, rfl, rfl⟩)
    exact ⟨ds, _, h1, h2, fun _ _ => .nil⟩) (fun cdv A outer s H E hr => w_apart T fd cdv A outer s H E hr)
abbrev N_apart_held : List Str := ["one", "other", "paper", "after", "inside_one"]
theorem sc_apart_held : FnScope N_apart_held ["one", "other", "paper", "after"] (defScope (top 40)) := ⟨rfl, rfl, rfl, by decide +kernel, rfl, by decide +kernel, by decide +kernel⟩
theorem w_apart_held (T : Fx K mg) (fd : FuncData) (cdv : Value) (A : Around) (outer : List Env) (s : Shared) (H : Hp) (E : XK) (hr : Room 6 (A.deeper (envOfC "apart_held" (defScope (top 40)) s.heap.objs.size (He.ga K "apart_held") cdv))) :
    PSs (cxOf (L2.CX P w) P w K mg base N_apart_held "apart_held" (defScope (top 40)) (He.ga K "apart_held") cdv A outer s H E) (defBody (top 40)) (tS K (fun cls d _ H => E cls d H) b_apart_held) := by
  have tk := tk_cx (P := P) (w := w) (K := K) (mg := mg) (base := base) (N := N_apart_held) (qual := "apart_held") (scope := defScope (top 40)) (f := He.ga K "apart_held") (cd := cdv) (A := A) (outer := outer) (s := s) (H := H) (E := E)
  exact (mss_cons (ms_if (PW.pt (mw_or (mt_not (mt_truth (weak (me_callB call_isi c_isi (by rfl) T.z_isinstance (by decide +kernel) (maw_cons (me_varW (pv 2)) (maw_cons (weak (me_type (by rfl) T.z_tuple (by decide +kernel))) maw_nil)))))) (mw_or1 (mt_cmp2 (op_neD hr.units) o_ne (weak (me_callB call_len3 c_len (by rfl) T.z_len (by decide +kernel) (maw_cons (me_varW (pv 2)) maw_nil))) (weak me_int) (nomark _))))) (mss_one (ms_ret me_bl)) mss_nil)
  (mss_cons (ms_if (PW.pt (mw_and (mt_cmp2 (op_eqD hr.units) o_eq (weak (me_ix ix_seq o_ix (me_varW (pv 2)) (weak me_int) (fun _ _ => rfl))) (weak me_str) (nomark _)) (mw_and1 (mt_truth (weak (me_call ((d_is_way T).mono (by decide)) hr tk (by rfl) (alen_cons alen_nil) (ma_cons (me_ix ix_seq o_ix (me_varW (pv 2)) (weak me_int) (fun _ _ => rfl)) ma_nil))))))) (mss_one (ms_ret (me_cmp2 op_ge o_ge (weak (me_ix ix_seq o_ix (weak (me_call ((d_gap T).mono (by decide)) hr tk (by rfl) (alen_cons (alen_cons (alen_cons (alen_cons alen_nil)))) (ma_cons (me_var (pv 0)) (ma_cons (me_var (pv 1)) (ma_cons (me_ix ix_seq o_ix (me_varW (pv 2)) (weak me_int) (fun _ _ => rfl)) (ma_cons (me_var (pv 3)) ma_nil)))))) (weak me_int) (fun _ _ => rfl))) (weak me_int) (nomark _)))) mss_nil)
  (mss_cons (ms_if (PW.pt (mw_and (mt_cmp2 (op_eqD hr.units) o_eq (weak (me_ix ix_seq o_ix (me_varW (pv 2)) (weak me_int) (fun _ _ => rfl))) (weak me_str) (nomark _)) (mw_and1 (mt_truth (weak (me_call ((d_is_spot T).mono (by decide)) hr tk (by rfl) (alen_cons alen_nil) (ma_cons (me_ix ix_seq o_ix (me_varW (pv 2)) (weak me_int) (fun _ _ => rfl)) ma_nil))))))) (mss_cons (ms_set (ps_set (i := 4) sc_apart_held.nd rfl (Or.inl rfl) (me_call ((d_within T).mono (by decide)) hr tk (by rfl) (alen_cons (alen_cons (alen_cons alen_nil))) (ma_cons (me_ix ix_seq o_ix (me_varW (pv 0)) (weak me_int) (fun _ _ => rfl)) (ma_cons (me_call ((d_place_after T).mono (by decide)) hr tk (by rfl) (alen_cons (alen_cons alen_nil)) (ma_cons (me_var (pv 0)) (ma_cons (me_var (pv 3)) ma_nil))) (ma_cons (me_ix ix_seq o_ix (me_varW (pv 2)) (weak me_int) (fun _ _ => rfl)) ma_nil))))))
  (mss_one (ms_ret (me_and (me_var (pv 4)) (me_one (me_call ((d_within T).mono (by decide)) hr tk (by rfl) (alen_cons (alen_cons (alen_cons alen_nil))) (ma_cons (me_ix ix_seq o_ix (me_varW (pv 1)) (weak me_int) (fun _ _ => rfl)) (ma_cons (me_call ((d_place_after T).mono (by decide)) hr tk (by rfl) (alen_cons (alen_cons alen_nil)) (ma_cons (me_var (pv 1)) (ma_cons (me_var (pv 3)) ma_nil))) (ma_cons (me_ix ix_seq o_ix (me_varW (pv 2)) (weak me_int) (fun _ _ => rfl)) ma_nil))))))))) mss_nil)
  (mss_one (ms_ret me_bl)))))
theorem d_apart_held (T : Fx K mg) : Def P w K mg base 7 "apart_held" 4 [] m_apart_held := by
  obtain ⟨fd, F⟩ := T.f_apart_held
  exact Def.mk' (ps := ["one", "other", "paper", "after"]) (N := N_apart_held) (k := 6) F T.g_apart_held sc_apart_held b_apart_held (by
    obtain ⟨ds, h1, h2⟩ := F.binds1 (ps := ["one", "other", "paper", "after"]) 4 1 (by simp) rfl (fun _ _ _ _ _ _ _ us its hu hi => match us, its, hu, hi with | [_, _, _, _], [_], _, _ => ⟨_, rfl, rfl⟩)
    exact ⟨ds, _, h1, h2, fun _ _ => .nil⟩) (fun cdv A outer s H E hr => w_apart_held T fd cdv A outer s H E hr)
abbrev N__law_cell : List Str := ["_law_script", "_law_k"]
theorem sc__law_cell : FnScope N__law_cell ["_law_script", "_law_k"] (defScope (top 42)) := ⟨rfl, rfl, rfl, by decide +kernel, rfl, by decide +kernel, by decide +kernel⟩
theorem w__law_cell (T : Fx K mg) (fd : FuncData) (cdv : Value) (A : Around) (outer : List Env) (s : Shared) (H : Hp) (E : XK) (hr : Room 0 (A.deeper (envOfC "_law_cell" (defScope (top 42)) s.heap.objs.size (He.ga K "_law_cell") cdv))) :
    PSs (cxOf (L2.CX P w) P w K mg base N__law_cell "_law_cell" (defScope (top 42)) (He.ga K "_law_cell") cdv A outer s H E) (defBody (top 42)) (tS K (fun cls d _ H => E cls d H) b__law_cell) := by
  have tk := tk_cx (P := P) (w := w) (K := K) (mg := mg) (base := base) (N := N__law_cell) (qual := "_law_cell") (scope := defScope (top 42)) (f := He.ga K "_law_cell") (cd := cdv) (A := A) (outer := outer) (s := s) (H := H) (E := E)
  exact (mss_cons (ms_if (mt_cmp2 (op_eqD hr.units) o_eq (weak (me_callB call_len3 c_len (by rfl) T.z_len (by decide +kernel) (maw_cons (me_varW (pv 0)) maw_nil))) (weak me_int) (nomark _)) (mss_one (ms_ret (me_op2 op_add4 o_add (weak (me_op2 op_mulW o_mul (weak me_int) (me_varW (pv 1)))) (weak me_int)))) mss_nil)
  (mss_one (ms_ret (me_callB call_abs c_abs (by rfl) T.z_abs (by decide +kernel) (maw_cons (weak (me_ix ix_seq o_ix (me_varW (pv 0)) (weak (me_op2 op_modN o_mod (me_varW (pv 1)) (weak (me_callB call_len3 c_len (by rfl) T.z_len (by decide +kernel) (maw_cons (me_varW (pv 0)) maw_nil))))) (fun _ _ => rfl))) maw_nil)))))
theorem d__law_cell (T : Fx K mg) : Def P w K mg base 1 "_law_cell" 2 [] m__law_cell := by
  obtain ⟨fd, F⟩ := T.f__law_cell
  exact Def.mk' (ps := ["_law_script", "_law_k"]) (N := N__law_cell) (k := 0) F T.g__law_cell sc__law_cell b__law_cell ⟨[], [], .nil, F.bindsN (fun _ _ _ _ _ _ us hl => match us, hl with | [_, _], _ => rfl), fun _ _ => .nil⟩ (fun cdv A outer s H E hr => w__law_cell T fd cdv A outer s H E hr)
abbrev N__law_deck : List Str := ["_law_script", "_law_cells", "_law_cell_here"]
theorem sc__law_deck : FnScope N__law_deck ["_law_script"] (defScope (top 43)) := ⟨rfl, rfl, rfl, by decide +kernel, rfl, by decide +kernel, by decide +kernel⟩
theorem w__law_deck (T : Fx K mg) (fd : FuncData) (cdv : Value) (A : Around) (outer : List Env) (s : Shared) (H : Hp) (E : XK) (hr : Room 0 (A.deeper (envOfC "_law_deck" (defScope (top 43)) s.heap.objs.size (He.ga K "_law_deck") cdv))) :
    PSs (cxOf (L2.CX P w) P w K mg base N__law_deck "_law_deck" (defScope (top 43)) (He.ga K "_law_deck") cdv A outer s H E) (defBody (top 43)) (tSd K b__law_deck) := by
  have tk := tk_cx (P := P) (w := w) (K := K) (mg := mg) (base := base) (N := N__law_deck) (qual := "_law_deck") (scope := defScope (top 43)) (f := He.ga K "_law_deck") (cd := cdv) (A := A) (outer := outer) (s := s) (H := H) (E := E)
  exact (mss_consD (W := fun cls d _ H => E cls d H) (ms_set (ps_set (i := 1) sc__law_deck.nd rfl (Or.inl rfl) (me_new (mf_list (by rfl) T.z_list (by decide +kernel) (maw_cons (weak (me_new (mf_cutS (me_varW (pv 0)) mo_none (mo_some me_int)))) maw_nil)))))
  (mss_oneD (ms_retDk (W := fun cls d _ H => E cls d H) (pv 1) (mf_lc (own := [("_law_cell_here", 2)]) (ws := [2]) rfl sc__law_deck.nd (toO (mi_seq (me_var (pv 1)))) (blkOk_by (N := N__law_deck) (sc := defScope (top 43)) (by decide +kernel)) (by decide) (fun _ _ _ _ _ => (mg_name (pg_name (i := 2) sc__law_deck.nd rfl (Or.inl rfl)))) (fun _ _ _ _ _ => (mts_one (mt_cmp2 op_ge o_ge (weak (me_callB call_abs c_abs (by rfl) T.z_abs (by decide +kernel) (maw_cons (me_varW (pv 2)) maw_nil))) (weak (me_op2 op_pow o_pow (weak me_int) (weak me_int))) (nomark _)))) (fun _ _ _ _ _ => (me_callB call_abs c_abs (by rfl) T.z_abs (by decide +kernel) (maw_cons (me_varW (pv 2)) maw_nil)))))))
theorem d__law_deck (T : Fx K mg) : DefD P w K mg base 1 "_law_deck" 1 m__law_deck := by
  obtain ⟨fd, F⟩ := T.f__law_deck
  exact DefD.mk' (ps := ["_law_script"]) (N := N__law_deck) (k := 0) F T.g__law_deck sc__law_deck b__law_deck ⟨[], .nil, F.bindsN (fun _ _ _ _ _ _ us hl => match us, hl with | [_], _ => rfl)⟩ (fun cdv A outer s H E hr => w__law_deck T fd cdv A outer s H E hr)
abbrev N__law_take : List Str := ["_law_deck_here", "_law_many", "_law_cell_here", "_law_number_here"]
theorem sc__law_take : FnScope N__law_take ["_law_deck_here", "_law_many"] (defScope (top 44)) := ⟨rfl, rfl, rfl, by decide +kernel, rfl, by decide +kernel, by decide +kernel⟩
theorem w__law_take (T : Fx K mg) (fd : FuncData) (cdv : Value) (A : Around) (outer : List Env) (s : Shared) (H : Hp) (E : XK) (hr : Room 1 (A.deeper (envOfC "_law_take" (defScope (top 44)) s.heap.objs.size (He.ga K "_law_take") cdv))) :
    PSs (cxOf (L2.CX P w) P w K mg base N__law_take "_law_take" (defScope (top 44)) (He.ga K "_law_take") cdv A outer s H E) (defBody (top 44)) (tS K (fun cls d _ H => E cls d H) b__law_take) := by
  have tk := tk_cx (P := P) (w := w) (K := K) (mg := mg) (base := base) (N := N__law_take) (qual := "_law_take") (scope := defScope (top 44)) (f := He.ga K "_law_take") (cd := cdv) (A := A) (outer := outer) (s := s) (H := H) (E := E)
  exact (mss_cons (ms_while po_cx (mt_cmp2 op_lt o_lt (weak (me_dk (j := 2) (pe_ix ix_list (pv 0) pe_int (fun _ _ => rfl)))) (weak (me_dkLen (pe_callB call_len3 (by rfl) T.z_len (by decide +kernel) (pa_cons (pe_ix ix_list (pv 0) pe_int (fun _ _ => rfl)) pa_nil)))) (nomark _)) (mss_cons (ms_set (ps_set (i := 2) sc__law_take.nd rfl (Or.inl rfl) (me_dkAt (pe_ix ix_list (pe_ix ix_list (pv 0) pe_int (fun _ _ => rfl)) (pe_ix ix_list (pv 0) pe_int (fun _ _ => rfl)) (fun _ _ => rfl)))))
  (mss_cons (ms_if (mt_cmp2 op_gt o_gt (me_varW (pv 2)) (weak me_int) (nomark _)) (mss_cons (ms_dkBig (ps_asg (me_op2 op_fdivB o_div (me_varW (pv 2)) (me_varW (pv 1))) (pg_sub (pe_ix ix_list (pv 0) pe_int (fun _ _ => rfl)) (pe_ix ix_list (pv 0) pe_int (fun _ _ => rfl)) set_list)))
  (mss_one (ms_ret (me_op2 op_modN o_mod (me_varW (pv 2)) (me_varW (pv 1)))))) mss_nil)
  (mss_one (ms_dkSet (j := 2) (ps_asg (me_op2 op_add4 o_add (weak (me_dk (j := 2) (pe_ix ix_list (pv 0) pe_int (fun _ _ => rfl)))) (weak me_int)) (pg_sub (pv 0) pe_int set_list)))))))
  (mss_cons (ms_dkSet (j := 3) (ps_asg (me_op2 op_add4 o_add (weak (me_dk (j := 3) (pe_ix ix_list (pv 0) pe_int (fun _ _ => rfl)))) (weak me_int)) (pg_sub (pv 0) pe_int set_list)))
  (mss_cons (ms_set (ps_set (i := 3) sc__law_take.nd rfl (Or.inl rfl) (me_op2 op_add4 o_add (weak (me_op2 op_mulW o_mul (weak (me_op2 op_add4 o_add (weak (me_op2 op_modN o_mod (weak (me_call ((d__law_cell T).mono (by decide)) hr tk (by rfl) (alen_cons (alen_cons alen_nil)) (ma_cons (me_dk (j := 0) (pe_ix ix_list (pv 0) pe_int (fun _ _ => rfl))) (ma_cons (me_dk (j := 3) (pe_ix ix_list (pv 0) pe_int (fun _ _ => rfl))) ma_nil)))) (weak me_int))) (weak me_int))) (weak (me_op2 op_add4 o_add (weak (me_dk (j := 3) (pe_ix ix_list (pv 0) pe_int (fun _ _ => rfl)))) (weak me_int))))) (weak (me_op2 op_mulW o_mul (weak me_int) (weak (me_dk (j := 3) (pe_ix ix_list (pv 0) pe_int (fun _ _ => rfl)))))))))
  (mss_one (ms_ret (me_op2 op_modN o_mod (weak (me_op2 op_fdivB o_div (weak (me_op2 op_modN o_mod (weak (me_op2 op_pow o_pow (me_varW (pv 3)) (weak me_int))) (weak me_int))) (weak me_int))) (me_varW (pv 1))))))))
theorem d__law_take (T : Fx K mg) : Def P w K mg base 2 "_law_take" 2 [] m__law_take := by
  obtain ⟨fd, F⟩ := T.f__law_take
  exact Def.mk' (ps := ["_law_deck_here", "_law_many"]) (N := N__law_take) (k := 1) F T.g__law_take sc__law_take b__law_take ⟨[], [], .nil, F.bindsN (fun _ _ _ _ _ _ us hl => match us, hl with | [_, _], _ => rfl), fun _ _ => .nil⟩ (fun cdv A outer s H E hr => w__law_take T fd cdv A outer s H E hr)
abbrev N__law_long : List Str := ["_law_deck_here", "_law_many", "_law_found", "_law_turn"]
theorem sc__law_long : FnScope N__law_long ["_law_deck_here", "_law_many"] (defScope (top 45)) := ⟨rfl, rfl, rfl, by decide +kernel, rfl, by decide +kernel, by decide +kernel⟩
theorem w__law_long (T : Fx K mg) (fd : FuncData) (cdv : Value) (A : Around) (outer : List Env) (s : Shared) (H : Hp) (E : XK) (hr : Room 2 (A.deeper (envOfC "_law_long" (defScope (top 45)) s.heap.objs.size (He.ga K "_law_long") cdv))) :
    PSs (cxOf (L2.CX P w) P w K mg base N__law_long "_law_long" (defScope (top 45)) (He.ga K "_law_long") cdv A outer s H E) (defBody (top 45)) (tS K (fun cls d _ H => E cls d H) b__law_long) := by
  have tk := tk_cx (P := P) (w := w) (K := K) (mg := mg) (base := base) (N := N__law_long) (qual := "_law_long") (scope := defScope (top 45)) (f := He.ga K "_law_long") (cd := cdv) (A := A) (outer := outer) (s := s) (H := H) (E := E)
  exact (mss_cons (ms_set (ps_set (i := 2) sc__law_long.nd rfl (Or.inl rfl) me_int))
  (mss_cons (ms_for po_cx rfl (mi_range1 (by rfl) T.z_range (maw_cons (me_varW (pv 1)) maw_nil)) (mg_name (pg_name (i := 3) sc__law_long.nd rfl (Or.inl rfl))) (mss_one (ms_set (ps_set (i := 2) sc__law_long.nd rfl (Or.inl rfl) (me_op2 op_add4 o_add (weak (me_op2 op_mulW o_mul (me_varW (pv 2)) (weak me_int))) (weak (me_callS ((d__law_take T).mono (by decide)) hr tk (by rfl) (alen_cons (alen_cons alen_nil)) (ma_cons (me_var (pv 0)) (ma_cons me_int ma_nil)))))))))
  (mss_one (ms_ret (me_var (pv 2))))))
theorem d__law_long (T : Fx K mg) : Def P w K mg base 3 "_law_long" 2 [] m__law_long := by
  obtain ⟨fd, F⟩ := T.f__law_long
  exact Def.mk' (ps := ["_law_deck_here", "_law_many"]) (N := N__law_long) (k := 2) F T.g__law_long sc__law_long b__law_long ⟨[], [], .nil, F.bindsN (fun _ _ _ _ _ _ us hl => match us, hl with | [_, _], _ => rfl), fun _ _ => .nil⟩ (fun cdv A outer s H E hr => w__law_long T fd cdv A outer s H E hr)
abbrev N__law_gcd : List Str := ["_law_one", "_law_other", "_law_rest"]
theorem sc__law_gcd : FnScope N__law_gcd ["_law_one", "_law_other"] (defScope (top 46)) := ⟨rfl, rfl, rfl, by decide +kernel, rfl, by decide +kernel, by decide +kernel⟩
theorem w__law_gcd (T : Fx K mg) (fd : FuncData) (cdv : Value) (A : Around) (outer : List Env) (s : Shared) (H : Hp) (E : XK) (hr : Room 0 (A.deeper (envOfC "_law_gcd" (defScope (top 46)) s.heap.objs.size (He.ga K "_law_gcd") cdv))) :
    PSs (cxOf (L2.CX P w) P w K mg base N__law_gcd "_law_gcd" (defScope (top 46)) (He.ga K "_law_gcd") cdv A outer s H E) (defBody (top 46)) (tS K (fun cls d _ H => E cls d H) b__law_gcd) := by
  have tk := tk_cx (P := P) (w := w) (K := K) (mg := mg) (base := base) (N := N__law_gcd) (qual := "_law_gcd") (scope := defScope (top 46)) (f := He.ga K "_law_gcd") (cd := cdv) (A := A) (outer := outer) (s := s) (H := H) (E := E)
  exact (mss_cons (ms_set (ps_set (i := 0) sc__law_gcd.nd rfl (Or.inl rfl) (me_callB call_abs c_abs (by rfl) T.z_abs (by decide +kernel) (maw_cons (me_varW (pv 0)) maw_nil))))
  (mss_cons (ms_set (ps_set (i := 1) sc__law_gcd.nd rfl (Or.inl rfl) (me_callB call_abs c_abs (by rfl) T.z_abs (by decide +kernel) (maw_cons (me_varW (pv 1)) maw_nil))))
  (mss_cons (ms_while po_cx (mt_cmp2 op_gt o_gt (me_varW (pv 1)) (weak me_int) (nomark _)) (mss_cons (ms_set (ps_set (i := 2) sc__law_gcd.nd rfl (Or.inl rfl) (me_op2 op_modN o_mod (me_varW (pv 0)) (me_varW (pv 1)))))
  (mss_cons (ms_set (ps_set (i := 0) sc__law_gcd.nd rfl (Or.inl rfl) (me_var (pv 1))))
  (mss_one (ms_set (ps_set (i := 1) sc__law_gcd.nd rfl (Or.inl rfl) (me_var (pv 2))))))))
  (mss_one (ms_ret (me_var (pv 0)))))))
theorem d__law_gcd (T : Fx K mg) : Def P w K mg base 1 "_law_gcd" 2 [] m__law_gcd := by
  obtain ⟨fd, F⟩ := T.f__law_gcd
  exact Def.mk' (ps := ["_law_one", "_law_other"]) (N := N__law_gcd) (k := 0) F T.g__law_gcd sc__law_gcd b__law_gcd ⟨[], [], .nil, F.bindsN (fun _ _ _ _ _ _ us hl => match us, hl with | [_, _], _ => rfl), fun _ _ => .nil⟩ (fun cdv A outer s H E hr => w__law_gcd T fd cdv A outer s H E hr)
abbrev N__law_share : List Str := ["_law_top", "_law_bottom", "_law_part"]
theorem sc__law_share : FnScope N__law_share ["_law_top", "_law_bottom"] (defScope (top 47)) := ⟨rfl, rfl, rfl, by decide +kernel, rfl, by decide +kernel, by decide +kernel⟩
theorem w__law_share (T : Fx K mg) (fd : FuncData) (cdv : Value) (A : Around) (outer : List Env) (s : Shared) (H : Hp) (E : XK) (hr : Room 1 (A.deeper (envOfC "_law_share" (defScope (top 47)) s.heap.objs.size (He.ga K "_law_share") cdv))) :
    PSs (cxOf (L2.CX P w) P w K mg base N__law_share "_law_share" (defScope (top 47)) (He.ga K "_law_share") cdv A outer s H E) (defBody (top 47)) (tS K (fun cls d _ H => E cls d H) b__law_share) := by
  have tk := tk_cx (P := P) (w := w) (K := K) (mg := mg) (base := base) (N := N__law_share) (qual := "_law_share") (scope := defScope (top 47)) (f := He.ga K "_law_share") (cd := cdv) (A := A) (outer := outer) (s := s) (H := H) (E := E)
  exact (mss_cons (ms_set (ps_set (i := 2) sc__law_share.nd rfl (Or.inl rfl) (me_call ((d__law_gcd T).mono (by decide)) hr tk (by rfl) (alen_cons (alen_cons alen_nil)) (ma_cons (me_var (pv 0)) (ma_cons (me_var (pv 1)) ma_nil)))))
  (mss_one (ms_ret (me_tup (ma_cons (me_op2 op_fdivB o_div (me_varW (pv 0)) (me_varW (pv 2))) (ma_cons (me_op2 op_fdivB o_div (me_varW (pv 1)) (me_varW (pv 2))) ma_nil))))))
theorem d__law_share (T : Fx K mg) : Def P w K mg base 2 "_law_share" 2 [] m__law_share := by
  obtain ⟨fd, F⟩ := T.f__law_share
  exact Def.mk' (ps := ["_law_top", "_law_bottom"]) (N := N__law_share) (k := 1) F T.g__law_share sc__law_share b__law_share ⟨[], [], .nil, F.bindsN (fun _ _ _ _ _ _ us hl => match us, hl with | [_, _], _ => rfl), fun _ _ => .nil⟩ (fun cdv A outer s H E hr => w__law_share T fd cdv A outer s H E hr)
abbrev N__law_plus : List Str := ["_law_one", "_law_other"]
theorem sc__law_plus : FnScope N__law_plus ["_law_one", "_law_other"] (defScope (top 48)) := ⟨rfl, rfl, rfl, by decide +kernel, rfl, by decide +kernel, by decide +kernel⟩
theorem w__law_plus (T : Fx K mg) (fd : FuncData) (cdv : Value) (A : Around) (outer : List Env) (s : Shared) (H : Hp) (E : XK) (hr : Room 0 (A.deeper (envOfC "_law_plus" (defScope (top 48)) s.heap.objs.size (He.ga K "_law_plus") cdv))) :
    PSs (cxOf (L2.CX P w) P w K mg base N__law_plus "_law_plus" (defScope (top 48)) (He.ga K "_law_plus") cdv A outer s H E) (defBody (top 48)) (tS K (fun cls d _ H => E cls d H) b__law_plus) := by
  have tk := tk_cx (P := P) (w := w) (K := K) (mg := mg) (base := base) (N := N__law_plus) (qual := "_law_plus") (scope := defScope (top 48)) (f := He.ga K "_law_plus") (cd := cdv) (A := A) (outer := outer) (s := s) (H := H) (E := E)
  exact (mss_one (ms_ret (me_tup (ma_cons (me_op2 op_add4 o_add (weak (me_op2 op_mulW o_mul (weak (me_ix ix_seq o_ix (me_varW (pv 0)) (weak me_int) (fun _ _ => rfl))) (weak (me_ix ix_seq o_ix (me_varW (pv 1)) (weak me_int) (fun _ _ => rfl))))) (weak (me_op2 op_mulW o_mul (weak (me_ix ix_seq o_ix (me_varW (pv 1)) (weak me_int) (fun _ _ => rfl))) (weak (me_ix ix_seq o_ix (me_varW (pv 0)) (weak me_int) (fun _ _ => rfl)))))) (ma_cons (me_op2 op_mulW o_mul (weak (me_ix ix_seq o_ix (me_varW (pv 0)) (weak me_int) (fun _ _ => rfl))) (weak (me_ix ix_seq o_ix (me_varW (pv 1)) (weak me_int) (fun _ _ => rfl)))) ma_nil)))))
theorem d__law_plus (T : Fx K mg) : Def P w K mg base 1 "_law_plus" 2 [] m__law_plus := by
  obtain ⟨fd, F⟩ := T.f__law_plus
  exact Def.mk' (ps := ["_law_one", "_law_other"]) (N := N__law_plus) (k := 0) F T.g__law_plus sc__law_plus b__law_plus ⟨[], [], .nil, F.bindsN (fun _ _ _ _ _ _ us hl => match us, hl with | [_, _], _ => rfl), fun _ _ => .nil⟩ (fun cdv A outer s H E hr => w__law_plus T fd cdv A outer s H E hr)
abbrev N__law_times : List Str := ["_law_one", "_law_other"]
theorem sc__law_times : FnScope N__law_times ["_law_one", "_law_other"] (defScope (top 49)) := ⟨rfl, rfl, rfl, by decide +kernel, rfl, by decide +kernel, by decide +kernel⟩
theorem w__law_times (T : Fx K mg) (fd : FuncData) (cdv : Value) (A : Around) (outer : List Env) (s : Shared) (H : Hp) (E : XK) (hr : Room 0 (A.deeper (envOfC "_law_times" (defScope (top 49)) s.heap.objs.size (He.ga K "_law_times") cdv))) :
    PSs (cxOf (L2.CX P w) P w K mg base N__law_times "_law_times" (defScope (top 49)) (He.ga K "_law_times") cdv A outer s H E) (defBody (top 49)) (tS K (fun cls d _ H => E cls d H) b__law_times) := by
  have tk := tk_cx (P := P) (w := w) (K := K) (mg := mg) (base := base) (N := N__law_times) (qual := "_law_times") (scope := defScope (top 49)) (f := He.ga K "_law_times") (cd := cdv) (A := A) (outer := outer) (s := s) (H := H) (E := E)
  exact (mss_one (ms_ret (me_tup (ma_cons (me_op2 op_mulW o_mul (weak (me_ix ix_seq o_ix (me_varW (pv 0)) (weak me_int) (fun _ _ => rfl))) (weak (me_ix ix_seq o_ix (me_varW (pv 1)) (weak me_int) (fun _ _ => rfl)))) (ma_cons (me_op2 op_mulW o_mul (weak (me_ix ix_seq o_ix (me_varW (pv 0)) (weak me_int) (fun _ _ => rfl))) (weak (me_ix ix_seq o_ix (me_varW (pv 1)) (weak me_int) (fun _ _ => rfl)))) ma_nil)))))
theorem d__law_times (T : Fx K mg) : Def P w K mg base 1 "_law_times" 2 [] m__law_times := by
  obtain ⟨fd, F⟩ := T.f__law_times
  exact Def.mk' (ps := ["_law_one", "_law_other"]) (N := N__law_times) (k := 0) F T.g__law_times sc__law_times b__law_times ⟨[], [], .nil, F.bindsN (fun _ _ _ _ _ _ us hl => match us, hl with | [_, _], _ => rfl), fun _ _ => .nil⟩ (fun cdv A outer s H E hr => w__law_times T fd cdv A outer s H E hr)
abbrev N__law_spot : List Str := ["_law_spot_here"]
theorem sc__law_spot : FnScope N__law_spot ["_law_spot_here"] (defScope (top 50)) := ⟨rfl, rfl, rfl, by decide +kernel, rfl, by decide +kernel, by decide +kernel⟩
theorem w__law_spot (T : Fx K mg) (fd : FuncData) (cdv : Value) (A : Around) (outer : List Env) (s : Shared) (H : Hp) (E : XK) (hr : Room 2 (A.deeper (envOfC "_law_spot" (defScope (top 50)) s.heap.objs.size (He.ga K "_law_spot") cdv))) :
    PSs (cxOf (L2.CX P w) P w K mg base N__law_spot "_law_spot" (defScope (top 50)) (He.ga K "_law_spot") cdv A outer s H E) (defBody (top 50)) (tS K (fun cls d _ H => E cls d H) b__law_spot) := by
  have tk := tk_cx (P := P) (w := w) (K := K) (mg := mg) (base := base) (N := N__law_spot) (qual := "_law_spot") (scope := defScope (top 50)) (f := He.ga K "_law_spot") (cd := cdv) (A := A) (outer := outer) (s := s) (H := H) (E := E)
  exact (mss_one (ms_ret (me_tup (ma_cons (me_call ((d__law_share T).mono (by decide)) hr tk (by rfl) (alen_cons (alen_cons alen_nil)) (ma_cons (me_ix ix_seq o_ix (weak (me_ix ix_seq o_ix (me_varW (pv 0)) (weak me_int) (fun _ _ => rfl))) (weak me_int) (fun _ _ => rfl)) (ma_cons (me_ix ix_seq o_ix (weak (me_ix ix_seq o_ix (me_varW (pv 0)) (weak me_int) (fun _ _ => rfl))) (weak me_int) (fun _ _ => rfl)) ma_nil))) (ma_cons (me_call ((d__law_share T).mono (by decide)) hr tk (by rfl) (alen_cons (alen_cons alen_nil)) (ma_cons (me_ix ix_seq o_ix (weak (me_ix ix_seq o_ix (me_varW (pv 0)) (weak me_int) (fun _ _ => rfl))) (weak me_int) (fun _ _ => rfl)) (ma_cons (me_ix ix_seq o_ix (weak (me_ix ix_seq o_ix (me_varW (pv 0)) (weak me_int) (fun _ _ => rfl))) (weak me_int) (fun _ _ => rfl)) ma_nil))) ma_nil)))))
theorem d__law_spot (T : Fx K mg) : Def P w K mg base 3 "_law_spot" 1 [] m__law_spot := by
  obtain ⟨fd, F⟩ := T.f__law_spot
  exact Def.mk' (ps := ["_law_spot_here"]) (N := N__law_spot) (k := 2) F T.g__law_spot sc__law_spot b__law_spot ⟨[], [], .nil, F.bindsN (fun _ _ _ _ _ _ us hl => match us, hl with | [_], _ => rfl), fun _ _ => .nil⟩ (fun cdv A outer s H E hr => w__law_spot T fd cdv A outer s H E hr)
abbrev N__law_spot_plus : List Str := ["_law_one", "_law_other"]
theorem sc__law_spot_plus : FnScope N__law_spot_plus ["_law_one", "_law_other"] (defScope (top 51)) := ⟨rfl, rfl, rfl, by decide +kernel, rfl, by decide +kernel, by decide +kernel⟩
theorem w__law_spot_plus (T : Fx K mg) (fd : FuncData) (cdv : Value) (A : Around) (outer : List Env) (s : Shared) (H : Hp) (E : XK) (hr : Room 1 (A.deeper (envOfC "_law_spot_plus" (defScope (top 51)) s.heap.objs.size (He.ga K "_law_spot_plus") cdv))) :
    PSs (cxOf (L2.CX P w) P w K mg base N__law_spot_plus "_law_spot_plus" (defScope (top 51)) (He.ga K "_law_spot_plus") cdv A outer s H E) (defBody (top 51)) (tS K (fun cls d _ H => E cls d H) b__law_spot_plus) := by
  have tk := tk_cx (P := P) (w := w) (K := K) (mg := mg) (base := base) (N := N__law_spot_plus) (qual := "_law_spot_plus") (scope := defScope (top 51)) (f := He.ga K "_law_spot_plus") (cd := cdv) (A := A) (outer := outer) (s := s) (H := H) (E := E)
  exact (mss_one (ms_ret (me_tup (ma_cons (me_call ((d__law_plus T).mono (by decide)) hr tk (by rfl) (alen_cons (alen_cons alen_nil)) (ma_cons (me_ix ix_seq o_ix (me_varW (pv 0)) (weak me_int) (fun _ _ => rfl)) (ma_cons (me_ix ix_seq o_ix (me_varW (pv 1)) (weak me_int) (fun _ _ => rfl)) ma_nil))) (ma_cons (me_call ((d__law_plus T).mono (by decide)) hr tk (by rfl) (alen_cons (alen_cons alen_nil)) (ma_cons (me_ix ix_seq o_ix (me_varW (pv 0)) (weak me_int) (fun _ _ => rfl)) (ma_cons (me_ix ix_seq o_ix (me_varW (pv 1)) (weak me_int) (fun _ _ => rfl)) ma_nil))) ma_nil)))))
theorem d__law_spot_plus (T : Fx K mg) : Def P w K mg base 2 "_law_spot_plus" 2 [] m__law_spot_plus := by
  obtain ⟨fd, F⟩ := T.f__law_spot_plus
  exact Def.mk' (ps := ["_law_one", "_law_other"]) (N := N__law_spot_plus) (k := 1) F T.g__law_spot_plus sc__law_spot_plus b__law_spot_plus ⟨[], [], .nil, F.bindsN (fun _ _ _ _ _ _ us hl => match us, hl with | [_, _], _ => rfl), fun _ _ => .nil⟩ (fun cdv A outer s H E hr => w__law_spot_plus T fd cdv A outer s H E hr)
abbrev N__law_spot_times : List Str := ["_law_spot_here", "_law_size"]
theorem sc__law_spot_times : FnScope N__law_spot_times ["_law_spot_here", "_law_size"] (defScope (top 52)) := ⟨rfl, rfl, rfl, by decide +kernel, rfl, by decide +kernel, by decide +kernel⟩
theorem w__law_spot_times (T : Fx K mg) (fd : FuncData) (cdv : Value) (A : Around) (outer : List Env) (s : Shared) (H : Hp) (E : XK) (hr : Room 1 (A.deeper (envOfC "_law_spot_times" (defScope (top 52)) s.heap.objs.size (He.ga K "_law_spot_times") cdv))) :
    PSs (cxOf (L2.CX P w) P w K mg base N__law_spot_times "_law_spot_times" (defScope (top 52)) (He.ga K "_law_spot_times") cdv A outer s H E) (defBody (top 52)) (tS K (fun cls d _ H => E cls d H) b__law_spot_times) := by
  have tk := tk_cx (P := P) (w := w) (K := K) (mg := mg) (base := base) (N := N__law_spot_times) (qual := "_law_spot_times") (scope := defScope (top 52)) (f := He.ga K "_law_spot_times") (cd := cdv) (A := A) (outer := outer) (s := s) (H := H) (E := E)
  exact (mss_one (ms_ret (me_tup (ma_cons (me_call ((d__law_times T).mono (by decide)) hr tk (by rfl) (alen_cons (alen_cons alen_nil)) (ma_cons (me_ix ix_seq o_ix (me_varW (pv 0)) (weak me_int) (fun _ _ => rfl)) (ma_cons (me_var (pv 1)) ma_nil))) (ma_cons (me_call ((d__law_times T).mono (by decide)) hr tk (by rfl) (alen_cons (alen_cons alen_nil)) (ma_cons (me_ix ix_seq o_ix (me_varW (pv 0)) (weak me_int) (fun _ _ => rfl)) (ma_cons (me_var (pv 1)) ma_nil))) ma_nil)))))
theorem d__law_spot_times (T : Fx K mg) : Def P w K mg base 2 "_law_spot_times" 2 [] m__law_spot_times := by
  obtain ⟨fd, F⟩ := T.f__law_spot_times
  exact Def.mk' (ps := ["_law_spot_here", "_law_size"]) (N := N__law_spot_times) (k := 1) F T.g__law_spot_times sc__law_spot_times b__law_spot_times ⟨[], [], .nil, F.bindsN (fun _ _ _ _ _ _ us hl => match us, hl with | [_, _], _ => rfl), fun _ _ => .nil⟩ (fun cdv A outer s H E hr => w__law_spot_times T fd cdv A outer s H E hr)
abbrev N__law_left : List Str := ["_law_a", "_law_b", "_law_c"]
theorem sc__law_left : FnScope N__law_left ["_law_a", "_law_b", "_law_c"] (defScope (top 53)) := ⟨rfl, rfl, rfl, by decide +kernel, rfl, by decide +kernel, by decide +kernel⟩
theorem w__law_left (T : Fx K mg) (fd : FuncData) (cdv : Value) (A : Around) (outer : List Env) (s : Shared) (H : Hp) (E : XK) (hr : Room 0 (A.deeper (envOfC "_law_left" (defScope (top 53)) s.heap.objs.size (He.ga K "_law_left") cdv))) :
    PSs (cxOf (L2.CX P w) P w K mg base N__law_left "_law_left" (defScope (top 53)) (He.ga K "_law_left") cdv A outer s H E) (defBody (top 53)) (tS K (fun cls d _ H => E cls d H) b__law_left) := by
  have tk := tk_cx (P := P) (w := w) (K := K) (mg := mg) (base := base) (N := N__law_left) (qual := "_law_left") (scope := defScope (top 53)) (f := He.ga K "_law_left") (cd := cdv) (A := A) (outer := outer) (s := s) (H := H) (E := E)
  exact (mss_one (ms_ret (me_op2 op_sub o_sub (weak (me_op2 op_mulW o_mul (weak (me_op2 op_sub o_sub (weak (me_ix ix_seq o_ix (me_varW (pv 1)) (weak me_int) (fun _ _ => rfl))) (weak (me_ix ix_seq o_ix (me_varW (pv 0)) (weak me_int) (fun _ _ => rfl))))) (weak (me_op2 op_sub o_sub (weak (me_ix ix_seq o_ix (me_varW (pv 2)) (weak me_int) (fun _ _ => rfl))) (weak (me_ix ix_seq o_ix (me_varW (pv 0)) (weak me_int) (fun _ _ => rfl))))))) (weak (me_op2 op_mulW o_mul (weak (me_op2 op_sub o_sub (weak (me_ix ix_seq o_ix (me_varW (pv 1)) (weak me_int) (fun _ _ => rfl))) (weak (me_ix ix_seq o_ix (me_varW (pv 0)) (weak me_int) (fun _ _ => rfl))))) (weak (me_op2 op_sub o_sub (weak (me_ix ix_seq o_ix (me_varW (pv 2)) (weak me_int) (fun _ _ => rfl))) (weak (me_ix ix_seq o_ix (me_varW (pv 0)) (weak me_int) (fun _ _ => rfl))))))))))
theorem d__law_left (T : Fx K mg) : Def P w K mg base 1 "_law_left" 3 [] m__law_left := by
  obtain ⟨fd, F⟩ := T.f__law_left
  exact Def.mk' (ps := ["_law_a", "_law_b", "_law_c"]) (N := N__law_left) (k := 0) F T.g__law_left sc__law_left b__law_left ⟨[], [], .nil, F.bindsN (fun _ _ _ _ _ _ us hl => match us, hl with | [_, _, _], _ => rfl), fun _ _ => .nil⟩ (fun cdv A outer s H E hr => w__law_left T fd cdv A outer s H E hr)
abbrev N__law_half : List Str := ["_law_points", "_law_found", "_law_point"]
theorem sc__law_half : FnScope N__law_half ["_law_points"] (defScope (top 54)) := ⟨rfl, rfl, rfl, by decide +kernel, rfl, by decide +kernel, by decide +kernel⟩
theorem w__law_half (T : Fx K mg) (fd : FuncData) (cdv : Value) (A : Around) (outer : List Env) (s : Shared) (H : Hp) (E : XK) (hr : Room 1 (A.deeper (envOfC "_law_half" (defScope (top 54)) s.heap.objs.size (He.ga K "_law_half") cdv))) :
    PSs (cxOf (L2.CX P w) P w K mg base N__law_half "_law_half" (defScope (top 54)) (He.ga K "_law_half") cdv A outer s H E) (defBody (top 54)) (tS K (fun cls d _ H => E cls d H) b__law_half) := by
  have tk := tk_cx (P := P) (w := w) (K := K) (mg := mg) (base := base) (N := N__law_half) (qual := "_law_half") (scope := defScope (top 54)) (f := He.ga K "_law_half") (cd := cdv) (A := A) (outer := outer) (s := s) (H := H) (E := E)
  exact (mss_cons (ms_set (ps_set (i := 1) sc__law_half.nd rfl (Or.inl rfl) (me_new (mf_lst ma_nil))))
  (mss_cons (ms_for po_cx rfl (mi_seq (me_var (pv 0))) (mg_name (pg_name (i := 2) sc__law_half.nd rfl (Or.inl rfl))) (mss_cons (ms_while po_cx (PW.pt (mw_and (mt_cmp2 op_gt o_gt (weak (me_callB call_len3 c_len (by rfl) T.z_len (by decide +kernel) (maw_cons (me_varW (pv 1)) maw_nil))) (weak me_int) (nomark _)) (mw_and1 (mt_cmp2 op_le o_le (weak (me_call ((d__law_left T).mono (by decide)) hr tk (by rfl) (alen_cons (alen_cons (alen_cons alen_nil))) (ma_cons (me_ix ix_seq o_ix (me_varW (pv 1)) (weak (me_un un_neg o_neg (weak me_int))) (fun _ _ => rfl)) (ma_cons (me_ix ix_seq o_ix (me_varW (pv 1)) (weak (me_un un_neg o_neg (weak me_int))) (fun _ _ => rfl)) (ma_cons (me_var (pv 2)) ma_nil))))) (weak me_int) (nomark _))))) (mss_one (ms_set (ps_set (i := 1) sc__law_half.nd rfl (Or.inl rfl) (me_cutA (me_varW (pv 1)) mo_none (mo_some (me_un un_neg o_neg (weak me_int))))))))
  (mss_one (ms_set (ps_set (i := 1) sc__law_half.nd rfl (Or.inl rfl) (me_op2 op_add4 o_add (me_varW (pv 1)) (weak (me_new (mf_lst (ma_cons (me_var (pv 2)) ma_nil))))))))))
  (mss_one (ms_ret (me_cutA (me_varW (pv 1)) mo_none (mo_some (me_un un_neg o_neg (weak me_int))))))))
theorem d__law_half (T : Fx K mg) : Def P w K mg base 2 "_law_half" 1 [] m__law_half := by
  obtain ⟨fd, F⟩ := T.f__law_half
  exact Def.mk' (ps := ["_law_points"]) (N := N__law_half) (k := 1) F T.g__law_half sc__law_half b__law_half ⟨[], [], .nil, F.bindsN (fun _ _ _ _ _ _ us hl => match us, hl with | [_], _ => rfl), fun _ _ => .nil⟩ (fun cdv A outer s H E hr => w__law_half T fd cdv A outer s H E hr)
abbrev N__law_number : List Str := ["_law_deck_here", "_law_span"]
theorem sc__law_number : FnScope N__law_number ["_law_deck_here", "_law_span"] (defScope (top 55)) := ⟨rfl, rfl, rfl, by decide +kernel, rfl, by decide +kernel, by decide +kernel⟩
theorem w__law_number (T : Fx K mg) (fd : FuncData) (cdv : Value) (A : Around) (outer : List Env) (s : Shared) (H : Hp) (E : XK) (hr : Room 3 (A.deeper (envOfC "_law_number" (defScope (top 55)) s.heap.objs.size (He.ga K "_law_number") cdv))) :
    PSs (cxOf (L2.CX P w) P w K mg base N__law_number "_law_number" (defScope (top 55)) (He.ga K "_law_number") cdv A outer s H E) (defBody (top 55)) (tS K (fun cls d _ H => E cls d H) b__law_number) := by
  have tk := tk_cx (P := P) (w := w) (K := K) (mg := mg) (base := base) (N := N__law_number) (qual := "_law_number") (scope := defScope (top 55)) (f := He.ga K "_law_number") (cd := cdv) (A := A) (outer := outer) (s := s) (H := H) (E := E)
  exact (mss_cons (ms_if (mt_cmp2 op_lt o_lt (me_varW (pv 1)) (weak me_int) (nomark _)) (mss_one (ms_ret (me_op2 op_sub o_sub (weak (me_callS ((d__law_take T).mono (by decide)) hr tk (by rfl) (alen_cons (alen_cons alen_nil)) (ma_cons (me_var (pv 0)) (ma_cons (me_op2 op_add4 o_add (weak (me_op2 op_mulW o_mul (weak me_int) (me_varW (pv 1)))) (weak me_int)) ma_nil)))) (me_varW (pv 1))))) mss_nil)
  (mss_one (ms_ret (me_op2 op_sub o_sub (weak (me_op2 op_modN o_mod (weak (me_callS ((d__law_long T).mono (by decide)) hr tk (by rfl) (alen_cons (alen_cons alen_nil)) (ma_cons (me_var (pv 0)) (ma_cons me_int ma_nil)))) (weak (me_op2 op_add4 o_add (weak (me_op2 op_mulW o_mul (weak me_int) (me_varW (pv 1)))) (weak me_int))))) (me_varW (pv 1))))))
theorem d__law_number (T : Fx K mg) : Def P w K mg base 4 "_law_number" 2 [] m__law_number := by
  obtain ⟨fd, F⟩ := T.f__law_number
  exact Def.mk' (ps := ["_law_deck_here", "_law_span"]) (N := N__law_number) (k := 3) F T.g__law_number sc__law_number b__law_number ⟨[], [], .nil, F.bindsN (fun _ _ _ _ _ _ us hl => match us, hl with | [_, _], _ => rfl), fun _ _ => .nil⟩ (fun cdv A outer s H E hr => w__law_number T fd cdv A outer s H E hr)
abbrev N__law_eight : List Str := ["_law_deck_here", "_law_most", "_law_wide", "_law_high", "_law_cuts", "_law_found", "_law_turn"]
theorem sc__law_eight : FnScope N__law_eight ["_law_deck_here", "_law_most"] (defScope (top 56)) := ⟨rfl, rfl, rfl, by decide +kernel, rfl, by decide +kernel, by decide +kernel⟩
theorem w__law_eight (T : Fx K mg) (fd : FuncData) (cdv : Value) (A : Around) (outer : List Env) (s : Shared) (H : Hp) (E : XK) (hr : Room 4 (A.deeper (envOfC "_law_eight" (defScope (top 56)) s.heap.objs.size (He.ga K "_law_eight") cdv))) :
    PSs (cxOf (L2.CX P w) P w K mg base N__law_eight "_law_eight" (defScope (top 56)) (He.ga K "_law_eight") cdv A outer s H E) (defBody (top 56)) (tS K (fun cls d _ H => E cls d H) b__law_eight) := by
  have tk := tk_cx (P := P) (w := w) (K := K) (mg := mg) (base := base) (N := N__law_eight) (qual := "_law_eight") (scope := defScope (top 56)) (f := He.ga K "_law_eight") (cd := cdv) (A := A) (outer := outer) (s := s) (H := H) (E := E)
  exact (mss_cons (ms_par (ps_par (i := 2) (j := 3) rfl sc__law_eight.nd rfl rfl (by decide) rfl rfl (ma_cons (me_op2 op_add4 o_add (weak (me_op2 op_mulW o_mul (weak me_int) (me_varW (pv 1)))) (weak me_int)) (ma_cons (me_op2 op_add4 o_add (weak (me_op2 op_mulW o_mul (weak me_int) (me_varW (pv 1)))) (weak me_int)) ma_nil)) (by rfl)))
  (mss_cons (ms_lc (by decide) (ps_setLc (i := 4) (own := [("_law_turn", 6)]) rfl sc__law_eight.nd rfl rfl (sw_true rfl rfl rfl (by decide +kernel)) (toO (mi_range1 (by rfl) T.z_range (maw_cons (weak me_int) maw_nil))) (blkOk_by (N := N__law_eight) (sc := defScope (top 56)) (by decide +kernel)) (fun _ _ _ _ _ => (mg_name (pg_name (i := 6) sc__law_eight.nd rfl (Or.inl rfl)))) (fun _ _ _ _ _ => mts_nil) (fun _ _ _ _ _ => (me_op2 op_add4 o_add (weak me_int) (weak (me_op2 op_modN o_mod (weak (me_callB call_abs c_abs (by rfl) T.z_abs (by decide +kernel) (maw_cons (weak (me_callS ((d__law_number T).mono (by decide)) hr takes0 (by rfl) (alen_cons (alen_cons alen_nil)) (ma_cons (me_var (pv 0)) (ma_cons (me_var (pv 1)) ma_nil)))) maw_nil))) (me_varW (pv 1))))))))
  (mss_cons (ms_set (ps_set (i := 5) sc__law_eight.nd rfl (Or.inl rfl) (me_new (mf_lst (ma_cons (me_tup (ma_cons me_int (ma_cons (me_ix ix_seq o_ix (me_varW (pv 4)) (weak me_int) (fun _ _ => rfl)) ma_nil))) (ma_cons (me_tup (ma_cons (me_ix ix_seq o_ix (me_varW (pv 4)) (weak me_int) (fun _ _ => rfl)) (ma_cons me_int ma_nil))) (ma_cons (me_tup (ma_cons (me_op2 op_sub o_sub (me_varW (pv 2)) (weak (me_ix ix_seq o_ix (me_varW (pv 4)) (weak me_int) (fun _ _ => rfl)))) (ma_cons me_int ma_nil))) (ma_cons (me_tup (ma_cons (me_var (pv 2)) (ma_cons (me_ix ix_seq o_ix (me_varW (pv 4)) (weak me_int) (fun _ _ => rfl)) ma_nil))) ma_nil))))))))
  (mss_one (ms_ret (me_callTy call_tuple_of c_tup (by rfl) T.z_tuple (by decide +kernel) (maw_cons (weak (me_op2 op_add4 o_add (me_varW (pv 5)) (weak (me_new (mf_lst (ma_cons (me_tup (ma_cons (me_var (pv 2)) (ma_cons (me_op2 op_sub o_sub (me_varW (pv 3)) (weak (me_ix ix_seq o_ix (me_varW (pv 4)) (weak me_int) (fun _ _ => rfl)))) ma_nil))) (ma_cons (me_tup (ma_cons (me_op2 op_sub o_sub (me_varW (pv 2)) (weak (me_ix ix_seq o_ix (me_varW (pv 4)) (weak me_int) (fun _ _ => rfl)))) (ma_cons (me_var (pv 3)) ma_nil))) (ma_cons (me_tup (ma_cons (me_ix ix_seq o_ix (me_varW (pv 4)) (weak me_int) (fun _ _ => rfl)) (ma_cons (me_var (pv 3)) ma_nil))) (ma_cons (me_tup (ma_cons me_int (ma_cons (me_op2 op_sub o_sub (me_varW (pv 3)) (weak (me_ix ix_seq o_ix (me_varW (pv 4)) (weak me_int) (fun _ _ => rfl)))) ma_nil))) ma_nil))))))))) maw_nil)))))))
theorem d__law_eight (T : Fx K mg) : Def P w K mg base 5 "_law_eight" 2 [] m__law_eight := by
  obtain ⟨fd, F⟩ := T.f__law_eight
  exact Def.mk' (ps := ["_law_deck_here", "_law_most"]) (N := N__law_eight) (k := 4) F T.g__law_eight sc__law_eight b__law_eight ⟨[], [], .nil, F.bindsN (fun _ _ _ _ _ _ us hl => match us, hl with | [_, _], _ => rfl), fun _ _ => .nil⟩ (fun cdv A outer s H E hr => w__law_eight T fd cdv A outer s H E hr)
abbrev N__law_shape : List Str := ["_law_deck_here", "_law_span", "_law_kind", "_law_x", "_law_y", "_law_wide", "_law_high", "_law_many", "_law_rows", "_law_found", "_law_turn"]
theorem sc__law_shape : FnScope N__law_shape ["_law_deck_here", "_law_span"] (defScope (top 57)) := ⟨rfl, rfl, rfl, by decide +kernel, rfl, by decide +kernel, by decide +kernel⟩
theorem w__law_shape (T : Fx K mg) (fd : FuncData) (cdv : Value) (A : Around) (outer : List Env) (s : Shared) (H : Hp) (E : XK) (hr : Room 5 (A.deeper (envOfC "_law_shape" (defScope (top 57)) s.heap.objs.size (He.ga K "_law_shape") cdv))) :
    PSs (cxOf (L2.CX P w) P w K mg base N__law_shape "_law_shape" (defScope (top 57)) (He.ga K "_law_shape") cdv A outer s H E) (defBody (top 57)) (tS K (fun cls d _ H => E cls d H) b__law_shape) := by
  have tk := tk_cx (P := P) (w := w) (K := K) (mg := mg) (base := base) (N := N__law_shape) (qual := "_law_shape") (scope := defScope (top 57)) (f := He.ga K "_law_shape") (cd := cdv) (A := A) (outer := outer) (s := s) (H := H) (E := E)
  exact (mss_cons (ms_set (ps_set (i := 2) sc__law_shape.nd rfl (Or.inl rfl) (me_callS ((d__law_take T).mono (by decide)) hr tk (by rfl) (alen_cons (alen_cons alen_nil)) (ma_cons (me_var (pv 0)) (ma_cons me_int ma_nil)))))
  (mss_cons (ms_if (mt_cmp2 (op_eqD hr.units) o_eq (me_varW (pv 2)) (weak me_int) (nomark _)) (mss_cons (ms_par (ps_par (i := 3) (j := 4) rfl sc__law_shape.nd rfl rfl (by decide) rfl rfl (ma_cons (me_un un_neg o_neg (weak (me_callB call_abs c_abs (by rfl) T.z_abs (by decide +kernel) (maw_cons (weak (me_callS ((d__law_number T).mono (by decide)) hr tk (by rfl) (alen_cons (alen_cons alen_nil)) (ma_cons (me_var (pv 0)) (ma_cons (me_var (pv 1)) ma_nil)))) maw_nil)))) (ma_cons (me_un un_neg o_neg (weak (me_callB call_abs c_abs (by rfl) T.z_abs (by decide +kernel) (maw_cons (weak (me_callS ((d__law_number T).mono (by decide)) hr tk (by rfl) (alen_cons (alen_cons alen_nil)) (ma_cons (me_var (pv 0)) (ma_cons (me_var (pv 1)) ma_nil)))) maw_nil)))) ma_nil)) (by rfl)))
  (mss_cons (ms_par (ps_par (i := 5) (j := 6) rfl sc__law_shape.nd rfl rfl (by decide) rfl rfl (ma_cons (me_op2 op_add4 o_add (weak me_int) (weak (me_callB call_abs c_abs (by rfl) T.z_abs (by decide +kernel) (maw_cons (weak (me_callS ((d__law_number T).mono (by decide)) hr tk (by rfl) (alen_cons (alen_cons alen_nil)) (ma_cons (me_var (pv 0)) (ma_cons (me_op2 op_sub o_sub (me_varW (pv 1)) (weak me_int)) ma_nil)))) maw_nil)))) (ma_cons (me_op2 op_add4 o_add (weak me_int) (weak (me_callB call_abs c_abs (by rfl) T.z_abs (by decide +kernel) (maw_cons (weak (me_callS ((d__law_number T).mono (by decide)) hr tk (by rfl) (alen_cons (alen_cons alen_nil)) (ma_cons (me_var (pv 0)) (ma_cons (me_op2 op_sub o_sub (me_varW (pv 1)) (weak me_int)) ma_nil)))) maw_nil)))) ma_nil)) (by rfl)))
  (mss_one (ms_ret (me_tup (ma_cons (me_tup (ma_cons (me_var (pv 3)) (ma_cons (me_var (pv 4)) ma_nil))) (ma_cons (me_tup (ma_cons (me_op2 op_add4 o_add (me_varW (pv 3)) (me_varW (pv 5))) (ma_cons (me_var (pv 4)) ma_nil))) (ma_cons (me_tup (ma_cons (me_op2 op_add4 o_add (me_varW (pv 3)) (me_varW (pv 5))) (ma_cons (me_op2 op_add4 o_add (me_varW (pv 4)) (me_varW (pv 6))) ma_nil))) (ma_cons (me_tup (ma_cons (me_var (pv 3)) (ma_cons (me_op2 op_add4 o_add (me_varW (pv 4)) (me_varW (pv 6))) ma_nil))) ma_nil))))))))) mss_nil)
  (mss_cons (ms_if (mt_cmp2 (op_eqD hr.units) o_eq (me_varW (pv 2)) (weak me_int) (nomark _)) (mss_one (ms_ret (me_callS ((d__law_eight T).mono (by decide)) hr tk (by rfl) (alen_cons (alen_cons alen_nil)) (ma_cons (me_var (pv 0)) (ma_cons (me_op2 op_fdivB o_div (me_varW (pv 1)) (weak me_int)) ma_nil))))) mss_nil)
  (mss_cons (ms_set (ps_set (i := 7) sc__law_shape.nd rfl (Or.inl rfl) (me_op2 op_add4 o_add (weak me_int) (weak (me_callS ((d__law_take T).mono (by decide)) hr tk (by rfl) (alen_cons (alen_cons alen_nil)) (ma_cons (me_var (pv 0)) (ma_cons me_int ma_nil)))))))
  (mss_cons (ms_set (ps_set (i := 8) sc__law_shape.nd rfl (Or.inl rfl) (me_new (mf_sortD hr.units (by rfl) T.z_sorted (maw_cons (weak (me_new (mf_lc (own := [("_law_turn", 10)]) (ws := [10]) rfl sc__law_shape.nd (toO (mi_range1 (by rfl) T.z_range (maw_cons (me_varW (pv 7)) maw_nil))) (blkOk_by (N := N__law_shape) (sc := defScope (top 57)) (by decide +kernel)) (by decide) (fun _ _ _ _ _ => (mg_name (pg_name (i := 10) sc__law_shape.nd rfl (Or.inl rfl)))) (fun _ _ _ _ _ => mts_nil) (fun _ _ _ _ _ => (me_tup (ma_cons (me_callS ((d__law_number T).mono (by decide)) hr takes0 (by rfl) (alen_cons (alen_cons alen_nil)) (ma_cons (me_var (pv 0)) (ma_cons (me_var (pv 1)) ma_nil))) (ma_cons (me_callS ((d__law_number T).mono (by decide)) hr takes0 (by rfl) (alen_cons (alen_cons alen_nil)) (ma_cons (me_var (pv 0)) (ma_cons (me_var (pv 1)) ma_nil))) ma_nil))))))) maw_nil)))))
  (mss_cons (ms_set (ps_set (i := 9) sc__law_shape.nd rfl (Or.inl rfl) (me_callTy call_tuple_of c_tup (by rfl) T.z_tuple (by decide +kernel) (maw_cons (weak (me_op2 op_add4 o_add (weak (me_call ((d__law_half T).mono (by decide)) hr tk (by rfl) (alen_cons alen_nil) (ma_cons (me_var (pv 8)) ma_nil))) (weak (me_call ((d__law_half T).mono (by decide)) hr tk (by rfl) (alen_cons alen_nil) (ma_cons (me_new (mf_rev (me_varW (pv 8)))) ma_nil))))) maw_nil))))
  (mss_cons (ms_if (mt_cmp2 op_lt o_lt (weak (me_callB call_len3 c_len (by rfl) T.z_len (by decide +kernel) (maw_cons (me_varW (pv 9)) maw_nil))) (weak me_int) (nomark _)) (mss_one (ms_ret (me_tup (ma_cons (me_tup (ma_cons (me_un un_neg o_neg (weak me_int)) (ma_cons me_int ma_nil))) (ma_cons (me_tup (ma_cons me_int (ma_cons me_int ma_nil))) (ma_cons (me_tup (ma_cons me_int (ma_cons me_int ma_nil))) ma_nil)))))) mss_nil)
  (mss_one (ms_ret (me_var (pv 9)))))))))))
theorem d__law_shape (T : Fx K mg) : Def P w K mg base 6 "_law_shape" 2 [] m__law_shape := by
  obtain ⟨fd, F⟩ := T.f__law_shape
  exact Def.mk' (ps := ["_law_deck_here", "_law_span"]) (N := N__law_shape) (k := 5) F T.g__law_shape sc__law_shape b__law_shape ⟨[], [], .nil, F.bindsN (fun _ _ _ _ _ _ us hl => match us, hl with | [_, _], _ => rfl), fun _ _ => .nil⟩ (fun cdv A outer s H E hr => w__law_shape T fd cdv A outer s H E hr)
abbrev N__law_way : List Str := ["_law_p", "_law_q", "_law_part"]
theorem sc__law_way : FnScope N__law_way ["_law_p", "_law_q"] (defScope (top 59)) := ⟨rfl, rfl, rfl, by decide +kernel, rfl, by decide +kernel, by decide +kernel⟩
theorem w__law_way (T : Fx K mg) (fd : FuncData) (cdv : Value) (A : Around) (outer : List Env) (s : Shared) (H : Hp) (E : XK) (hr : Room 1 (A.deeper (envOfC "_law_way" (defScope (top 59)) s.heap.objs.size (He.ga K "_law_way") cdv))) :
    PSs (cxOf (L2.CX P w) P w K mg base N__law_way "_law_way" (defScope (top 59)) (He.ga K "_law_way") cdv A outer s H E) (defBody (top 59)) (tS K (fun cls d _ H => E cls d H) b__law_way) := by
  have tk := tk_cx (P := P) (w := w) (K := K) (mg := mg) (base := base) (N := N__law_way) (qual := "_law_way") (scope := defScope (top 59)) (f := He.ga K "_law_way") (cd := cdv) (A := A) (outer := outer) (s := s) (H := H) (E := E)
  exact (mss_cons (ms_set (ps_set (i := 2) sc__law_way.nd rfl (Or.inl rfl) (me_call ((d__law_gcd T).mono (by decide)) hr tk (by rfl) (alen_cons (alen_cons alen_nil)) (ma_cons (me_var (pv 0)) (ma_cons (me_var (pv 1)) ma_nil)))))
  (mss_one (ms_ret (me_tup (ma_cons (me_op2 op_fdivB o_div (me_varW (pv 0)) (me_varW (pv 2))) (ma_cons (me_op2 op_fdivB o_div (me_varW (pv 1)) (me_varW (pv 2))) ma_nil))))))
theorem d__law_way (T : Fx K mg) : Def P w K mg base 2 "_law_way" 2 [] m__law_way := by
  obtain ⟨fd, F⟩ := T.f__law_way
  exact Def.mk' (ps := ["_law_p", "_law_q"]) (N := N__law_way) (k := 1) F T.g__law_way sc__law_way b__law_way ⟨[], [], .nil, F.bindsN (fun _ _ _ _ _ _ us hl => match us, hl with | [_, _], _ => rfl), fun _ _ => .nil⟩ (fun cdv A outer s H E hr => w__law_way T fd cdv A outer s H E hr)
abbrev N__law_ways : List Str := ["_law_shape_here", "_law_found", "_law_k", "_law_corner_here", "_law_behind"]
theorem sc__law_ways : FnScope N__law_ways ["_law_shape_here"] (defScope (top 58)) := ⟨rfl, rfl, rfl, by decide +kernel, rfl, by decide +kernel, by decide +kernel⟩
theorem w__law_ways (T : Fx K mg) (fd : FuncData) (cdv : Value) (A : Around) (outer : List Env) (s : Shared) (H : Hp) (E : XK) (hr : Room 2 (A.deeper (envOfC "_law_ways" (defScope (top 58)) s.heap.objs.size (He.ga K "_law_ways") cdv))) :
    PSs (cxOf (L2.CX P w) P w K mg base N__law_ways "_law_ways" (defScope (top 58)) (He.ga K "_law_ways") cdv A outer s H E) (defBody (top 58)) (tSf K (fun cls d _ H => E cls d H) b__law_ways) := by
  have tk := tk_cx (P := P) (w := w) (K := K) (mg := mg) (base := base) (N := N__law_ways) (qual := "_law_ways") (scope := defScope (top 58)) (f := He.ga K "_law_ways") (cd := cdv) (A := A) (outer := outer) (s := s) (H := H) (E := E)
  exact (mss_consF (ms_setOwn (ps_set (i := 1) sc__law_ways.nd rfl (Or.inl rfl) (mf_lst ma_nil)))
  (mss_consF (ms_for po_cx rfl (mi_enum2 (by rfl) T.z_enumerate (ma_cons (me_var (pv 0)) ma_nil)) (mg_tup rfl (glen_cons (glen_cons glen_nil)) (mgs_cons (mg_name (pg_name (i := 2) sc__law_ways.nd rfl (Or.inl rfl))) (mgs_cons (mg_name (pg_name (i := 3) sc__law_ways.nd rfl (Or.inl rfl))) mgs_nil))) (mss_cons (ms_set (ps_set (i := 4) sc__law_ways.nd rfl (Or.inl rfl) (me_ix ix_seq o_ix (me_varW (pv 0)) (weak (me_op2 op_modN o_mod (weak (me_op2 op_add4 o_add (me_varW (pv 2)) (weak me_int))) (weak (me_callB call_len3 c_len (by rfl) T.z_len (by decide +kernel) (maw_cons (me_varW (pv 0)) maw_nil))))) (fun _ _ => rfl))))
  (mss_one (ms_app (ps_expr (pe_bm PySem.F.plainAttrs_list PySem.F.slot_list_append PySem.F.type_list_append mt_append (pv 1) (pa_cons (me_call ((d__law_way T).mono (by decide)) hr tk (by rfl) (alen_cons (alen_cons alen_nil)) (ma_cons (me_op2 op_sub o_sub (weak (me_ix ix_seq o_ix (me_varW (pv 4)) (weak me_int) (fun _ _ => rfl))) (weak (me_ix ix_seq o_ix (me_varW (pv 3)) (weak me_int) (fun _ _ => rfl)))) (ma_cons (me_op2 op_sub o_sub (weak (me_ix ix_seq o_ix (me_varW (pv 3)) (weak me_int) (fun _ _ => rfl))) (weak (me_ix ix_seq o_ix (me_varW (pv 4)) (weak me_int) (fun _ _ => rfl)))) ma_nil))) pa_nil)))))))
  (mss_oneF (ms_retF (pv 1)))))
theorem dF__law_ways (T : Fx K mg) : DefF P w K mg base 3 "_law_ways" 1 mF__law_ways := by
  obtain ⟨fd, F⟩ := T.f__law_ways
  exact DefF.mk' (ps := ["_law_shape_here"]) (N := N__law_ways) (k := 2) F T.g__law_ways sc__law_ways b__law_ways ⟨[], .nil, F.bindsN (fun _ _ _ _ _ _ us hl => match us, hl with | [_], _ => rfl)⟩ (fun cdv A outer s H E hr => w__law_ways T fd cdv A outer s H E hr)
theorem d__law_ways (T : Fx K mg) : Def P w K mg base 3 "_law_ways" 1 [] m__law_ways := (dF__law_ways T).asDef
abbrev N__law_pair_ways : List Str := ["_law_one", "_law_other", "_law_found", "_law_way_here"]
theorem sc__law_pair_ways : FnScope N__law_pair_ways ["_law_one", "_law_other"] (defScope (top 60)) := ⟨rfl, rfl, rfl, by decide +kernel, rfl, by decide +kernel, by decide +kernel⟩
theorem w__law_pair_ways (T : Fx K mg) (fd : FuncData) (cdv : Value) (A : Around) (outer : List Env) (s : Shared) (H : Hp) (E : XK) (hr : Room 3 (A.deeper (envOfC "_law_pair_ways" (defScope (top 60)) s.heap.objs.size (He.ga K "_law_pair_ways") cdv))) :
    PSs (cxOf (L2.CX P w) P w K mg base N__law_pair_ways "_law_pair_ways" (defScope (top 60)) (He.ga K "_law_pair_ways") cdv A outer s H E) (defBody (top 60)) (tSf K (fun cls d _ H => E cls d H) b__law_pair_ways) := by
  have tk := tk_cx (P := P) (w := w) (K := K) (mg := mg) (base := base) (N := N__law_pair_ways) (qual := "_law_pair_ways") (scope := defScope (top 60)) (f := He.ga K "_law_pair_ways") (cd := cdv) (A := A) (outer := outer) (s := s) (H := H) (E := E)
  exact (mss_consF (ms_setOwn (ps_set (i := 2) sc__law_pair_ways.nd rfl (Or.inl rfl) (mf_callF ((dF__law_ways T).mono (by decide)) hr tk (by rfl) (alen_cons alen_nil) (ma_cons (me_ix ix_seq o_ix (me_varW (pv 0)) (weak me_int) (fun _ _ => rfl)) ma_nil))))
  (mss_consF (ms_for po_cx rfl (mi_seq (me_call ((d__law_ways T).mono (by decide)) hr tk (by rfl) (alen_cons alen_nil) (ma_cons (me_ix ix_seq o_ix (me_varW (pv 1)) (weak me_int) (fun _ _ => rfl)) ma_nil))) (mg_name (pg_name (i := 3) sc__law_pair_ways.nd rfl (Or.inl rfl))) (mss_one (ms_if (mt_cmp2 (op_notInD (room65 hr)) o_notin (weak (me_tup (ma_cons (me_un un_neg o_neg (weak (me_ix ix_seq o_ix (me_varW (pv 3)) (weak me_int) (fun _ _ => rfl)))) (ma_cons (me_un un_neg o_neg (weak (me_ix ix_seq o_ix (me_varW (pv 3)) (weak me_int) (fun _ _ => rfl)))) ma_nil)))) (me_varW (pv 2)) (by rfl)) (mss_one (ms_app (ps_expr (pe_bm PySem.F.plainAttrs_list PySem.F.slot_list_append PySem.F.type_list_append mt_append (pv 2) (pa_cons (me_tup (ma_cons (me_un un_neg o_neg (weak (me_ix ix_seq o_ix (me_varW (pv 3)) (weak me_int) (fun _ _ => rfl)))) (ma_cons (me_un un_neg o_neg (weak (me_ix ix_seq o_ix (me_varW (pv 3)) (weak me_int) (fun _ _ => rfl)))) ma_nil))) pa_nil))))) mss_nil)))
  (mss_oneF (ms_retE (mf_sortD hr.units (by rfl) T.z_sorted (maw_cons (me_varW (pv 2)) maw_nil))))))
theorem dF__law_pair_ways (T : Fx K mg) : DefF P w K mg base 4 "_law_pair_ways" 2 mF__law_pair_ways := by
  obtain ⟨fd, F⟩ := T.f__law_pair_ways
  exact DefF.mk' (ps := ["_law_one", "_law_other"]) (N := N__law_pair_ways) (k := 3) F T.g__law_pair_ways sc__law_pair_ways b__law_pair_ways ⟨[], .nil, F.bindsN (fun _ _ _ _ _ _ us hl => match us, hl with | [_, _], _ => rfl)⟩ (fun cdv A outer s H E hr => w__law_pair_ways T fd cdv A outer s H E hr)
abbrev N__law_names : List Str := ["_law_deck_here", "_law_letters", "_law_stem", "_law_at", "_law_first_letter", "_law_second_letter", "_law_turn"]
theorem sc__law_names : FnScope N__law_names ["_law_deck_here"] (defScope (top 61)) := ⟨rfl, rfl, rfl, by decide +kernel, rfl, by decide +kernel, by decide +kernel⟩
theorem w__law_names (T : Fx K mg) (fd : FuncData) (cdv : Value) (A : Around) (outer : List Env) (s : Shared) (H : Hp) (E : XK) (hr : Room 2 (A.deeper (envOfC "_law_names" (defScope (top 61)) s.heap.objs.size (He.ga K "_law_names") cdv))) :
    PSs (cxOf (L2.CX P w) P w K mg base N__law_names "_law_names" (defScope (top 61)) (He.ga K "_law_names") cdv A outer s H E) (defBody (top 61)) (tS K (fun cls d _ H => E cls d H) b__law_names) := by
  have tk := tk_cx (P := P) (w := w) (K := K) (mg := mg) (base := base) (N := N__law_names) (qual := "_law_names") (scope := defScope (top 61)) (f := He.ga K "_law_names") (cd := cdv) (A := A) (outer := outer) (s := s) (H := H) (E := E)
  exact (mss_cons (ms_set (ps_set (i := 1) sc__law_names.nd rfl (Or.inr rfl) me_str))
  (mss_cons (ms_set (ps_set (i := 2) sc__law_names.nd rfl (Or.inl rfl) (me_join (weak (me_new (mf_lc (own := [("_law_turn", 6)]) (ws := [6]) rfl sc__law_names.nd (toO (mi_range1 (by rfl) T.z_range (maw_cons (weak (me_ix ix_seq o_ix (weak (me_new (mf_lst (ma_cons me_int (ma_cons me_int (ma_cons me_int (ma_cons me_int ma_nil))))))) (weak (me_callS ((d__law_take T).mono (by decide)) hr tk (by rfl) (alen_cons (alen_cons alen_nil)) (ma_cons (me_var (pv 0)) (ma_cons me_int ma_nil)))) (fun _ _ => rfl))) maw_nil))) (blkOk_by (N := N__law_names) (sc := defScope (top 61)) (by decide +kernel)) (by decide) (fun _ _ _ _ _ => (mg_name (pg_name (i := 6) sc__law_names.nd rfl (Or.inl rfl)))) (fun _ _ _ _ _ => mts_nil) (fun _ _ _ _ _ => (me_ix ix_seq o_ix (me_varW (pv 1)) (weak (me_callS ((d__law_take T).mono (by decide)) hr takes0 (by rfl) (alen_cons (alen_cons alen_nil)) (ma_cons (me_var (pv 0)) (ma_cons me_int ma_nil)))) (fun _ _ => rfl)))))))))
  (mss_cons (ms_set (ps_set (i := 3) sc__law_names.nd rfl (Or.inl rfl) (me_callS ((d__law_take T).mono (by decide)) hr tk (by rfl) (alen_cons (alen_cons alen_nil)) (ma_cons (me_var (pv 0)) (ma_cons (me_op2 op_add4 o_add (weak (me_callB call_len3 c_len (by rfl) T.z_len (by decide +kernel) (maw_cons (me_varW (pv 2)) maw_nil))) (weak me_int)) ma_nil)))))
  (mss_cons (ms_set (ps_set (i := 4) sc__law_names.nd rfl (Or.inl rfl) (me_callS ((d__law_take T).mono (by decide)) hr tk (by rfl) (alen_cons (alen_cons alen_nil)) (ma_cons (me_var (pv 0)) (ma_cons me_int ma_nil)))))
  (mss_cons (ms_set (ps_set (i := 5) sc__law_names.nd rfl (Or.inl rfl) (me_op2 op_modN o_mod (weak (me_op2 op_add4 o_add (weak (me_op2 op_add4 o_add (me_varW (pv 4)) (weak me_int))) (weak (me_callS ((d__law_take T).mono (by decide)) hr tk (by rfl) (alen_cons (alen_cons alen_nil)) (ma_cons (me_var (pv 0)) (ma_cons me_int ma_nil)))))) (weak me_int))))
  (mss_one (ms_ret (me_new (mf_lst (ma_cons (me_op2 op_add4 o_add (weak (me_op2 op_add4 o_add (weak (me_cutA (me_varW (pv 2)) mo_none (mo_some (me_var (pv 3))))) (weak (me_ix ix_seq o_ix (me_varW (pv 1)) (me_varW (pv 4)) (fun _ _ => rfl))))) (weak (me_cutA (me_varW (pv 2)) (mo_some (me_var (pv 3))) mo_none))) (ma_cons (me_op2 op_add4 o_add (weak (me_op2 op_add4 o_add (weak (me_cutA (me_varW (pv 2)) mo_none (mo_some (me_var (pv 3))))) (weak (me_ix ix_seq o_ix (me_varW (pv 1)) (me_varW (pv 5)) (fun _ _ => rfl))))) (weak (me_cutA (me_varW (pv 2)) (mo_some (me_var (pv 3))) mo_none))) ma_nil)))))))))))
theorem d__law_names (T : Fx K mg) : Def P w K mg base 3 "_law_names" 1 [] m__law_names := by
  obtain ⟨fd, F⟩ := T.f__law_names
  exact Def.mk' (ps := ["_law_deck_here"]) (N := N__law_names) (k := 2) F T.g__law_names sc__law_names b__law_names ⟨[], [], .nil, F.bindsN (fun _ _ _ _ _ _ us hl => match us, hl with | [_], _ => rfl), fun _ _ => .nil⟩ (fun cdv A outer s H E hr => w__law_names T fd cdv A outer s H E hr)
abbrev N__law_drawn : List Str := ["_law_deck_here", "_law_size", "_law_many", "_law_sign"]
theorem sc__law_drawn : FnScope N__law_drawn ["_law_deck_here", "_law_size"] (defScope (top 62)) := ⟨rfl, rfl, rfl, by decide +kernel, rfl, by decide +kernel, by decide +kernel⟩
theorem w__law_drawn (T : Fx K mg) (fd : FuncData) (cdv : Value) (A : Around) (outer : List Env) (s : Shared) (H : Hp) (E : XK) (hr : Room 3 (A.deeper (envOfC "_law_drawn" (defScope (top 62)) s.heap.objs.size (He.ga K "_law_drawn") cdv))) :
    PSs (cxOf (L2.CX P w) P w K mg base N__law_drawn "_law_drawn" (defScope (top 62)) (He.ga K "_law_drawn") cdv A outer s H E) (defBody (top 62)) (tS K (fun cls d _ H => E cls d H) b__law_drawn) := by
  have tk := tk_cx (P := P) (w := w) (K := K) (mg := mg) (base := base) (N := N__law_drawn) (qual := "_law_drawn") (scope := defScope (top 62)) (f := He.ga K "_law_drawn") (cd := cdv) (A := A) (outer := outer) (s := s) (H := H) (E := E)
  exact (mss_cons (ms_set (ps_set (i := 2) sc__law_drawn.nd rfl (Or.inl rfl) (me_ix ix_seq o_ix (weak (me_new (mf_lst (ma_cons me_int (ma_cons me_int (ma_cons me_int ma_nil)))))) (me_varW (pv 1)) (fun _ _ => rfl))))
  (mss_cons (ms_if (mt_cmp2 (op_eqD hr.units) o_eq (me_varW (pv 2)) (weak me_int) (nomark _)) (mss_one (ms_ret (me_call ((d__law_share T).mono (by decide)) hr tk (by rfl) (alen_cons (alen_cons alen_nil)) (ma_cons (me_op2 op_sub o_sub (weak (me_callS ((d__law_take T).mono (by decide)) hr tk (by rfl) (alen_cons (alen_cons alen_nil)) (ma_cons (me_var (pv 0)) (ma_cons me_int ma_nil)))) (weak me_int)) (ma_cons (me_op2 op_add4 o_add (weak me_int) (weak (me_op2 op_mulW o_mul (weak (me_callS ((d__law_take T).mono (by decide)) hr tk (by rfl) (alen_cons (alen_cons alen_nil)) (ma_cons (me_var (pv 0)) (ma_cons me_int ma_nil)))) (weak (me_callS ((d__law_take T).mono (by decide)) hr tk (by rfl) (alen_cons (alen_cons alen_nil)) (ma_cons (me_var (pv 0)) (ma_cons me_int ma_nil))))))) ma_nil))))) mss_nil)
  (mss_cons (ms_set (ps_set (i := 3) sc__law_drawn.nd rfl (Or.inl rfl) (me_op2 op_sub o_sub (weak me_int) (weak (me_op2 op_mulW o_mul (weak me_int) (weak (me_callS ((d__law_take T).mono (by decide)) hr tk (by rfl) (alen_cons (alen_cons alen_nil)) (ma_cons (me_var (pv 0)) (ma_cons me_int ma_nil)))))))))
  (mss_one (ms_ret (me_call ((d__law_share T).mono (by decide)) hr tk (by rfl) (alen_cons (alen_cons alen_nil)) (ma_cons (me_op2 op_mulW o_mul (me_varW (pv 3)) (weak (me_callS ((d__law_long T).mono (by decide)) hr tk (by rfl) (alen_cons (alen_cons alen_nil)) (ma_cons (me_var (pv 0)) (ma_cons (me_var (pv 2)) ma_nil))))) (ma_cons (me_op2 op_add4 o_add (weak me_int) (weak (me_callS ((d__law_long T).mono (by decide)) hr tk (by rfl) (alen_cons (alen_cons alen_nil)) (ma_cons (me_var (pv 0)) (ma_cons (me_callS ((d__law_take T).mono (by decide)) hr tk (by rfl) (alen_cons (alen_cons alen_nil)) (ma_cons (me_var (pv 0)) (ma_cons (me_var (pv 2)) ma_nil))) ma_nil))))) ma_nil))))))))
theorem d__law_drawn (T : Fx K mg) : Def P w K mg base 4 "_law_drawn" 2 [] m__law_drawn := by
  obtain ⟨fd, F⟩ := T.f__law_drawn
  exact Def.mk' (ps := ["_law_deck_here", "_law_size"]) (N := N__law_drawn) (k := 3) F T.g__law_drawn sc__law_drawn b__law_drawn ⟨[], [], .nil, F.bindsN (fun _ _ _ _ _ _ us hl => match us, hl with | [_, _], _ => rfl), fun _ _ => .nil⟩ (fun cdv A outer s H E hr => w__law_drawn T fd cdv A outer s H E hr)
abbrev N__law_row : List Str := ["_law_deck_here", "_law_name", "_law_span", "_law_size", "_law_is_free", "_law_kind", "_law_shape_here", "_law_place", "_law_mass", "_law_p", "_law_q", "_law_rail", "_law_speed"]
theorem sc__law_row : FnScope N__law_row ["_law_deck_here", "_law_name", "_law_span", "_law_size", "_law_is_free"] (defScope (top 63)) := ⟨rfl, rfl, rfl, by decide +kernel, rfl, by decide +kernel, by decide +kernel⟩
theorem w__law_row (T : Fx K mg) (fd : FuncData) (cdv : Value) (A : Around) (outer : List Env) (s : Shared) (H : Hp) (E : XK) (hr : Room 6 (A.deeper (envOfC "_law_row" (defScope (top 63)) s.heap.objs.size (He.ga K "_law_row") cdv))) :
    PSs (cxOf (L2.CX P w) P w K mg base N__law_row "_law_row" (defScope (top 63)) (He.ga K "_law_row") cdv A outer s H E) (defBody (top 63)) (tS K (fun cls d _ H => E cls d H) b__law_row) := by
  have tk := tk_cx (P := P) (w := w) (K := K) (mg := mg) (base := base) (N := N__law_row) (qual := "_law_row") (scope := defScope (top 63)) (f := He.ga K "_law_row") (cd := cdv) (A := A) (outer := outer) (s := s) (H := H) (E := E)
  exact (mss_cons (ms_set (ps_set (i := 5) sc__law_row.nd rfl (Or.inl rfl) (me_callS ((d__law_take T).mono (by decide)) hr tk (by rfl) (alen_cons (alen_cons alen_nil)) (ma_cons (me_var (pv 0)) (ma_cons me_int ma_nil)))))
  (mss_cons (ms_set (ps_set (i := 6) sc__law_row.nd rfl (Or.inl rfl) (me_callS ((d__law_shape T).mono (by decide)) hr tk (by rfl) (alen_cons (alen_cons alen_nil)) (ma_cons (me_var (pv 0)) (ma_cons (me_var (pv 2)) ma_nil)))))
  (mss_cons (ms_set (ps_set (i := 7) sc__law_row.nd rfl (Or.inl rfl) (me_tup (ma_cons (me_callS ((d__law_drawn T).mono (by decide)) hr tk (by rfl) (alen_cons (alen_cons alen_nil)) (ma_cons (me_var (pv 0)) (ma_cons (me_var (pv 3)) ma_nil))) (ma_cons (me_callS ((d__law_drawn T).mono (by decide)) hr tk (by rfl) (alen_cons (alen_cons alen_nil)) (ma_cons (me_var (pv 0)) (ma_cons (me_var (pv 3)) ma_nil))) ma_nil)))))
  (mss_cons (ms_if (PW.pt (mw_and (mt_cmp2 (op_eqD hr.units) o_eq (me_varW (pv 5)) (weak me_int) (nomark _)) (mw_and1 (mt_not (mt_truth (me_varW (pv 4))))))) (mss_one (ms_ret (me_tup (ma_cons (me_var (pv 1)) (ma_cons (me_var (pv 6)) (ma_cons me_int (ma_cons me_non (ma_cons (me_var (pv 7)) (ma_cons (me_tup (ma_cons (me_tup (ma_cons me_int (ma_cons me_int ma_nil))) (ma_cons (me_tup (ma_cons me_int (ma_cons me_int ma_nil))) ma_nil))) ma_nil))))))))) mss_nil)
  (mss_cons (ms_set (ps_set (i := 8) sc__law_row.nd rfl (Or.inl rfl) (me_op2 op_add4 o_add (weak me_int) (weak (me_op2 op_mulW o_mul (weak (me_callS ((d__law_take T).mono (by decide)) hr tk (by rfl) (alen_cons (alen_cons alen_nil)) (ma_cons (me_var (pv 0)) (ma_cons me_int ma_nil)))) (weak (me_op2 op_add4 o_add (weak me_int) (weak (me_callS ((d__law_take T).mono (by decide)) hr tk (by rfl) (alen_cons (alen_cons alen_nil)) (ma_cons (me_var (pv 0)) (ma_cons me_int ma_nil)))))))))))
  (mss_cons (ms_if (PW.pt (mw_or (mt_cmp2 (op_neD hr.units) o_ne (me_varW (pv 5)) (weak me_int) (nomark _)) (mw_or1 (mt_truth (me_varW (pv 4)))))) (mss_one (ms_ret (me_tup (ma_cons (me_var (pv 1)) (ma_cons (me_var (pv 6)) (ma_cons (me_var (pv 8)) (ma_cons me_non (ma_cons (me_var (pv 7)) (ma_cons (me_tup (ma_cons (me_callS ((d__law_drawn T).mono (by decide)) hr tk (by rfl) (alen_cons (alen_cons alen_nil)) (ma_cons (me_var (pv 0)) (ma_cons (me_var (pv 3)) ma_nil))) (ma_cons (me_callS ((d__law_drawn T).mono (by decide)) hr tk (by rfl) (alen_cons (alen_cons alen_nil)) (ma_cons (me_var (pv 0)) (ma_cons (me_var (pv 3)) ma_nil))) ma_nil))) ma_nil))))))))) mss_nil)
  (mss_cons (ms_par (ps_par (i := 9) (j := 10) rfl sc__law_row.nd rfl rfl (by decide) rfl rfl (ma_cons (me_op2 op_add4 o_add (weak me_int) (weak (me_callS ((d__law_take T).mono (by decide)) hr tk (by rfl) (alen_cons (alen_cons alen_nil)) (ma_cons (me_var (pv 0)) (ma_cons me_int ma_nil))))) (ma_cons (me_op2 op_sub o_sub (weak (me_callS ((d__law_take T).mono (by decide)) hr tk (by rfl) (alen_cons (alen_cons alen_nil)) (ma_cons (me_var (pv 0)) (ma_cons me_int ma_nil)))) (weak me_int)) ma_nil)) (by rfl)))
  (mss_cons (ms_set (ps_set (i := 11) sc__law_row.nd rfl (Or.inl rfl) (me_ix ix_seq o_ix (weak (me_new (mf_lst (ma_cons (me_call ((d__law_way T).mono (by decide)) hr tk (by rfl) (alen_cons (alen_cons alen_nil)) (ma_cons (me_var (pv 9)) (ma_cons (me_var (pv 10)) ma_nil))) (ma_cons (me_call ((d__law_way T).mono (by decide)) hr tk (by rfl) (alen_cons (alen_cons alen_nil)) (ma_cons (me_var (pv 10)) (ma_cons (me_var (pv 9)) ma_nil))) ma_nil))))) (weak (me_callS ((d__law_take T).mono (by decide)) hr tk (by rfl) (alen_cons (alen_cons alen_nil)) (ma_cons (me_var (pv 0)) (ma_cons me_int ma_nil)))) (fun _ _ => rfl))))
  (mss_cons (ms_set (ps_set (i := 12) sc__law_row.nd rfl (Or.inl rfl) (me_call ((d__law_spot T).mono (by decide)) hr tk (by rfl) (alen_cons alen_nil) (ma_cons (me_call ((d__law_spot_times T).mono (by decide)) hr tk (by rfl) (alen_cons (alen_cons alen_nil)) (ma_cons (me_tup (ma_cons (me_tup (ma_cons (me_ix ix_seq o_ix (me_varW (pv 11)) (weak me_int) (fun _ _ => rfl)) (ma_cons me_int ma_nil))) (ma_cons (me_tup (ma_cons (me_ix ix_seq o_ix (me_varW (pv 11)) (weak me_int) (fun _ _ => rfl)) (ma_cons me_int ma_nil))) ma_nil))) (ma_cons (me_callS ((d__law_drawn T).mono (by decide)) hr tk (by rfl) (alen_cons (alen_cons alen_nil)) (ma_cons (me_var (pv 0)) (ma_cons (me_var (pv 3)) ma_nil))) ma_nil))) ma_nil))))
  (mss_one (ms_ret (me_tup (ma_cons (me_var (pv 1)) (ma_cons (me_var (pv 6)) (ma_cons (me_var (pv 8)) (ma_cons (me_var (pv 11)) (ma_cons (me_var (pv 7)) (ma_cons (me_var (pv 12)) ma_nil))))))))))))))))))
theorem d__law_row (T : Fx K mg) : Def P w K mg base 7 "_law_row" 5 [] m__law_row := by
  obtain ⟨fd, F⟩ := T.f__law_row
  exact Def.mk' (ps := ["_law_deck_here", "_law_name", "_law_span", "_law_size", "_law_is_free"]) (N := N__law_row) (k := 6) F T.g__law_row sc__law_row b__law_row ⟨[], [], .nil, F.bindsN (fun _ _ _ _ _ _ us hl => match us, hl with | [_, _, _, _, _], _ => rfl), fun _ _ => .nil⟩ (fun cdv A outer s H E hr => w__law_row T fd cdv A outer s H E hr)
abbrev N__law_pair : List Str := ["_law_deck_here", "_law_near", "_law_aim", "_law_size", "_law_span", "_law_names_here", "_law_one", "_law_other", "_law_when", "_law_at", "_law_corner_here", "_law_behind", "_law_side", "_law_tip", "_law_part", "_law_spot_here", "_law_place", "_law_speed", "_law_some", "_law_to"]
theorem sc__law_pair : FnScope N__law_pair ["_law_deck_here"] (defScope (top 64)) := ⟨rfl, rfl, rfl, by decide +kernel, rfl, by decide +kernel, by decide +kernel⟩
theorem w__law_pair (T : Fx K mg) (fd : FuncData) (cdv : Value) (A : Around) (outer : List Env) (s : Shared) (H : Hp) (E : XK) (hr : Room 7 (A.deeper (envOfC "_law_pair" (defScope (top 64)) s.heap.objs.size (He.ga K "_law_pair") cdv))) :
    PSs (cxOf (L2.CX P w) P w K mg base N__law_pair "_law_pair" (defScope (top 64)) (He.ga K "_law_pair") cdv A outer s H E) (defBody (top 64)) (tS K (fun cls d _ H => E cls d H) b__law_pair) := by
  have tk := tk_cx (P := P) (w := w) (K := K) (mg := mg) (base := base) (N := N__law_pair) (qual := "_law_pair") (scope := defScope (top 64)) (f := He.ga K "_law_pair") (cd := cdv) (A := A) (outer := outer) (s := s) (H := H) (E := E)
  exact (mss_cons (ms_par (ps_par (i := 1) (j := 2) rfl sc__law_pair.nd rfl rfl (by decide) rfl rfl (ma_cons (me_callS ((d__law_take T).mono (by decide)) hr tk (by rfl) (alen_cons (alen_cons alen_nil)) (ma_cons (me_var (pv 0)) (ma_cons me_int ma_nil))) (ma_cons (me_callS ((d__law_take T).mono (by decide)) hr tk (by rfl) (alen_cons (alen_cons alen_nil)) (ma_cons (me_var (pv 0)) (ma_cons me_int ma_nil))) ma_nil)) (by rfl)))
  (mss_cons (ms_set (ps_set (i := 3) sc__law_pair.nd rfl (Or.inl rfl) (me_ix ix_seq o_ix (weak (me_new (mf_lst (ma_cons me_int (ma_cons me_int (ma_cons me_int (ma_cons me_int (ma_cons me_int ma_nil)))))))) (weak (me_callS ((d__law_take T).mono (by decide)) hr tk (by rfl) (alen_cons (alen_cons alen_nil)) (ma_cons (me_var (pv 0)) (ma_cons me_int ma_nil)))) (fun _ _ => rfl))))
  (mss_cons (ms_set (ps_set (i := 4) sc__law_pair.nd rfl (Or.inl rfl) (me_ix ix_seq o_ix (weak (me_new (mf_lst (ma_cons me_int (ma_cons me_int (ma_cons me_int (ma_cons me_int ma_nil))))))) (weak (me_callS ((d__law_take T).mono (by decide)) hr tk (by rfl) (alen_cons (alen_cons alen_nil)) (ma_cons (me_var (pv 0)) (ma_cons me_int ma_nil)))) (fun _ _ => rfl))))
  (mss_cons (ms_set (ps_set (i := 5) sc__law_pair.nd rfl (Or.inl rfl) (me_callS ((d__law_names T).mono (by decide)) hr tk (by rfl) (alen_cons alen_nil) (ma_cons (me_var (pv 0)) ma_nil))))
  (mss_cons (ms_set (ps_set (i := 6) sc__law_pair.nd rfl (Or.inl rfl) (me_callS ((d__law_row T).mono (by decide)) hr tk (by rfl) (alen_cons (alen_cons (alen_cons (alen_cons (alen_cons alen_nil))))) (ma_cons (me_var (pv 0)) (ma_cons (me_ix ix_seq o_ix (me_varW (pv 5)) (weak me_int) (fun _ _ => rfl)) (ma_cons (me_var (pv 4)) (ma_cons (me_var (pv 3)) (ma_cons me_bl ma_nil))))))))
  (mss_cons (ms_set (ps_set (i := 7) sc__law_pair.nd rfl (Or.inl rfl) (me_callS ((d__law_row T).mono (by decide)) hr tk (by rfl) (alen_cons (alen_cons (alen_cons (alen_cons (alen_cons alen_nil))))) (ma_cons (me_var (pv 0)) (ma_cons (me_ix ix_seq o_ix (me_varW (pv 5)) (weak me_int) (fun _ _ => rfl)) (ma_cons (me_var (pv 4)) (ma_cons (me_var (pv 3)) (ma_cons (me_cmp2 op_gt o_gt (me_varW (pv 2)) (weak me_int) (nomark _)) ma_nil))))))))
  (mss_cons (ms_set (ps_set (i := 8) sc__law_pair.nd rfl (Or.inl rfl) (me_call ((d__law_share T).mono (by decide)) hr tk (by rfl) (alen_cons (alen_cons alen_nil)) (ma_cons (me_op2 op_add4 o_add (weak me_int) (weak (me_callS ((d__law_take T).mono (by decide)) hr tk (by rfl) (alen_cons (alen_cons alen_nil)) (ma_cons (me_var (pv 0)) (ma_cons me_int ma_nil))))) (ma_cons (me_op2 op_add4 o_add (weak me_int) (weak (me_callS ((d__law_take T).mono (by decide)) hr tk (by rfl) (alen_cons (alen_cons alen_nil)) (ma_cons (me_var (pv 0)) (ma_cons me_int ma_nil))))) ma_nil)))))
  (mss_cons (ms_set (ps_set (i := 9) sc__law_pair.nd rfl (Or.inl rfl) (me_callS ((d__law_take T).mono (by decide)) hr tk (by rfl) (alen_cons (alen_cons alen_nil)) (ma_cons (me_var (pv 0)) (ma_cons (me_callB call_len3 c_len (by rfl) T.z_len (by decide +kernel) (maw_cons (weak (me_ix ix_seq o_ix (me_varW (pv 6)) (weak me_int) (fun _ _ => rfl))) maw_nil)) ma_nil)))))
  (mss_cons (ms_par (ps_par (i := 10) (j := 11) rfl sc__law_pair.nd rfl rfl (by decide) rfl rfl (ma_cons (me_ix ix_seq o_ix (weak (me_ix ix_seq o_ix (me_varW (pv 6)) (weak me_int) (fun _ _ => rfl))) (me_varW (pv 9)) (fun _ _ => rfl)) (ma_cons (me_ix ix_seq o_ix (weak (me_ix ix_seq o_ix (me_varW (pv 6)) (weak me_int) (fun _ _ => rfl))) (weak (me_op2 op_modN o_mod (weak (me_op2 op_add4 o_add (me_varW (pv 9)) (weak me_int))) (weak (me_callB call_len3 c_len (by rfl) T.z_len (by decide +kernel) (maw_cons (weak (me_ix ix_seq o_ix (me_varW (pv 6)) (weak me_int) (fun _ _ => rfl))) maw_nil))))) (fun _ _ => rfl)) ma_nil)) (by rfl)))
  (mss_cons (ms_set (ps_set (i := 12) sc__law_pair.nd rfl (Or.inl rfl) (me_tup (ma_cons (me_tup (ma_cons (me_op2 op_sub o_sub (weak (me_ix ix_seq o_ix (me_varW (pv 11)) (weak me_int) (fun _ _ => rfl))) (weak (me_ix ix_seq o_ix (me_varW (pv 10)) (weak me_int) (fun _ _ => rfl)))) (ma_cons me_int ma_nil))) (ma_cons (me_tup (ma_cons (me_op2 op_sub o_sub (weak (me_ix ix_seq o_ix (me_varW (pv 11)) (weak me_int) (fun _ _ => rfl))) (weak (me_ix ix_seq o_ix (me_varW (pv 10)) (weak me_int) (fun _ _ => rfl)))) (ma_cons me_int ma_nil))) ma_nil)))))
  (mss_cons (ms_set (ps_set (i := 13) sc__law_pair.nd rfl (Or.inl rfl) (me_ix ix_seq o_ix (weak (me_ix ix_seq o_ix (me_varW (pv 7)) (weak me_int) (fun _ _ => rfl))) (weak (me_callS ((d__law_take T).mono (by decide)) hr tk (by rfl) (alen_cons (alen_cons alen_nil)) (ma_cons (me_var (pv 0)) (ma_cons (me_callB call_len3 c_len (by rfl) T.z_len (by decide +kernel) (maw_cons (weak (me_ix ix_seq o_ix (me_varW (pv 7)) (weak me_int) (fun _ _ => rfl))) maw_nil)) ma_nil)))) (fun _ _ => rfl))))
  (mss_cons (ms_set (ps_set (i := 14) sc__law_pair.nd rfl (Or.inl rfl) (me_ix ix_seq o_ix (weak (me_new (mf_lst (ma_cons (me_tup (ma_cons me_int (ma_cons me_int ma_nil))) (ma_cons (me_tup (ma_cons me_int (ma_cons me_int ma_nil))) (ma_cons (me_tup (ma_cons me_int (ma_cons me_int ma_nil))) (ma_cons (me_tup (ma_cons me_int (ma_cons me_int ma_nil))) ma_nil))))))) (weak (me_callS ((d__law_take T).mono (by decide)) hr tk (by rfl) (alen_cons (alen_cons alen_nil)) (ma_cons (me_var (pv 0)) (ma_cons me_int ma_nil)))) (fun _ _ => rfl))))
  (mss_cons (ms_set (ps_set (i := 15) sc__law_pair.nd rfl (Or.inl rfl) (me_call ((d__law_spot_plus T).mono (by decide)) hr tk (by rfl) (alen_cons (alen_cons alen_nil)) (ma_cons (me_ix ix_seq o_ix (me_varW (pv 6)) (weak me_int) (fun _ _ => rfl)) (ma_cons (me_tup (ma_cons (me_tup (ma_cons (me_op2 op_sub o_sub (weak (me_ix ix_seq o_ix (me_varW (pv 10)) (weak me_int) (fun _ _ => rfl))) (weak (me_ix ix_seq o_ix (me_varW (pv 13)) (weak me_int) (fun _ _ => rfl)))) (ma_cons me_int ma_nil))) (ma_cons (me_tup (ma_cons (me_op2 op_sub o_sub (weak (me_ix ix_seq o_ix (me_varW (pv 10)) (weak me_int) (fun _ _ => rfl))) (weak (me_ix ix_seq o_ix (me_varW (pv 13)) (weak me_int) (fun _ _ => rfl)))) (ma_cons me_int ma_nil))) ma_nil))) ma_nil)))))
  (mss_cons (ms_set (ps_set (i := 15) sc__law_pair.nd rfl (Or.inl rfl) (me_call ((d__law_spot_plus T).mono (by decide)) hr tk (by rfl) (alen_cons (alen_cons alen_nil)) (ma_cons (me_var (pv 15)) (ma_cons (me_call ((d__law_spot_times T).mono (by decide)) hr tk (by rfl) (alen_cons (alen_cons alen_nil)) (ma_cons (me_var (pv 12)) (ma_cons (me_var (pv 14)) ma_nil))) ma_nil)))))
  (mss_cons (ms_par (ps_par (i := 16) (j := 17) rfl sc__law_pair.nd rfl rfl (by decide) rfl rfl (ma_cons (me_ix ix_seq o_ix (me_varW (pv 7)) (weak me_int) (fun _ _ => rfl)) (ma_cons (me_ix ix_seq o_ix (me_varW (pv 7)) (weak me_int) (fun _ _ => rfl)) ma_nil)) (by rfl)))
  (mss_cons (ms_if (mt_cmp2 op_gt o_gt (me_varW (pv 1)) (weak me_int) (nomark _)) (mss_cons (ms_set (ps_set (i := 18) sc__law_pair.nd rfl (Or.inl rfl) (me_new (mf_lst (ma_cons (me_tup (ma_cons me_int (ma_cons me_int ma_nil))) (ma_cons (me_tup (ma_cons me_int (ma_cons me_int ma_nil))) (ma_cons (me_tup (ma_cons me_int (ma_cons me_int ma_nil))) (ma_cons (me_tup (ma_cons (me_un un_neg o_neg (weak me_int)) (ma_cons me_int ma_nil))) ma_nil))))))))
  (mss_one (ms_set (ps_set (i := 16) sc__law_pair.nd rfl (Or.inl rfl) (me_call ((d__law_spot T).mono (by decide)) hr tk (by rfl) (alen_cons alen_nil) (ma_cons (me_call ((d__law_spot_plus T).mono (by decide)) hr tk (by rfl) (alen_cons (alen_cons alen_nil)) (ma_cons (me_var (pv 15)) (ma_cons (me_tup (ma_cons (me_ix ix_seq o_ix (me_varW (pv 18)) (weak (me_callS ((d__law_take T).mono (by decide)) hr tk (by rfl) (alen_cons (alen_cons alen_nil)) (ma_cons (me_var (pv 0)) (ma_cons me_int ma_nil)))) (fun _ _ => rfl)) (ma_cons (me_ix ix_seq o_ix (me_varW (pv 18)) (weak (me_callS ((d__law_take T).mono (by decide)) hr tk (by rfl) (alen_cons (alen_cons alen_nil)) (ma_cons (me_var (pv 0)) (ma_cons me_int ma_nil)))) (fun _ _ => rfl)) ma_nil))) ma_nil))) ma_nil)))))) mss_nil)
  (mss_cons (ms_if (mt_cmp2 (op_eqD hr.units) o_eq (me_varW (pv 2)) (weak me_int) (nomark _)) (mss_one (ms_set (ps_set (i := 17) sc__law_pair.nd rfl (Or.inl rfl) (me_ix ix_seq o_ix (me_varW (pv 6)) (weak me_int) (fun _ _ => rfl))))) mss_nil)
  (mss_cons (ms_if (mt_cmp2 (op_eqD hr.units) o_eq (me_varW (pv 2)) (weak me_int) (nomark _)) (mss_one (ms_set (ps_set (i := 17) sc__law_pair.nd rfl (Or.inl rfl) (me_call ((d__law_spot T).mono (by decide)) hr tk (by rfl) (alen_cons alen_nil) (ma_cons (me_call ((d__law_spot_plus T).mono (by decide)) hr tk (by rfl) (alen_cons (alen_cons alen_nil)) (ma_cons (me_ix ix_seq o_ix (me_varW (pv 6)) (weak me_int) (fun _ _ => rfl)) (ma_cons (me_call ((d__law_spot_times T).mono (by decide)) hr tk (by rfl) (alen_cons (alen_cons alen_nil)) (ma_cons (me_var (pv 12)) (ma_cons (me_tup (ma_cons (me_op2 op_sub o_sub (weak (me_callS ((d__law_take T).mono (by decide)) hr tk (by rfl) (alen_cons (alen_cons alen_nil)) (ma_cons (me_var (pv 0)) (ma_cons me_int ma_nil)))) (weak me_int)) (ma_cons me_int ma_nil))) ma_nil))) ma_nil))) ma_nil))))) mss_nil)
  (mss_cons (ms_if (mt_cmp2 op_gt o_gt (me_varW (pv 2)) (weak me_int) (nomark _)) (mss_cons (ms_set (ps_set (i := 19) sc__law_pair.nd rfl (Or.inl rfl) (me_call ((d__law_spot_plus T).mono (by decide)) hr tk (by rfl) (alen_cons (alen_cons alen_nil)) (ma_cons (me_var (pv 15)) (ma_cons (me_call ((d__law_spot_times T).mono (by decide)) hr tk (by rfl) (alen_cons (alen_cons alen_nil)) (ma_cons (me_var (pv 16)) (ma_cons (me_tup (ma_cons (me_un un_neg o_neg (weak me_int)) (ma_cons me_int ma_nil))) ma_nil))) ma_nil)))))
  (mss_one (ms_set (ps_set (i := 17) sc__law_pair.nd rfl (Or.inl rfl) (me_call ((d__law_spot T).mono (by decide)) hr tk (by rfl) (alen_cons alen_nil) (ma_cons (me_call ((d__law_spot_plus T).mono (by decide)) hr tk (by rfl) (alen_cons (alen_cons alen_nil)) (ma_cons (me_ix ix_seq o_ix (me_varW (pv 6)) (weak me_int) (fun _ _ => rfl)) (ma_cons (me_call ((d__law_spot_times T).mono (by decide)) hr tk (by rfl) (alen_cons (alen_cons alen_nil)) (ma_cons (me_var (pv 19)) (ma_cons (me_tup (ma_cons (me_ix ix_seq o_ix (me_varW (pv 8)) (weak me_int) (fun _ _ => rfl)) (ma_cons (me_ix ix_seq o_ix (me_varW (pv 8)) (weak me_int) (fun _ _ => rfl)) ma_nil))) ma_nil))) ma_nil))) ma_nil)))))) mss_nil)
  (mss_one (ms_ret (me_tup (ma_cons (me_var (pv 6)) (ma_cons (me_op2 op_add4 o_add (weak (me_cutA (me_varW (pv 7)) mo_none (mo_some me_int))) (weak (me_tup (ma_cons (me_var (pv 16)) (ma_cons (me_var (pv 17)) ma_nil))))) (ma_cons (me_var (pv 8)) ma_nil)))))))))))))))))))))))))
theorem d__law_pair (T : Fx K mg) : Def P w K mg base 8 "_law_pair" 1 [] m__law_pair := by
  obtain ⟨fd, F⟩ := T.f__law_pair
  exact Def.mk' (ps := ["_law_deck_here"]) (N := N__law_pair) (k := 7) F T.g__law_pair sc__law_pair b__law_pair ⟨[], [], .nil, F.bindsN (fun _ _ _ _ _ _ us hl => match us, hl with | [_], _ => rfl), fun _ _ => .nil⟩ (fun cdv A outer s H E hr => w__law_pair T fd cdv A outer s H E hr)
abbrev N__law_corner : List Str := ["_law_row_here", "_law_at", "_law_after", "_law_corner_here", "_law_place"]
theorem sc__law_corner : FnScope N__law_corner ["_law_row_here", "_law_at", "_law_after"] (defScope (top 65)) := ⟨rfl, rfl, rfl, by decide +kernel, rfl, by decide +kernel, by decide +kernel⟩
theorem w__law_corner (T : Fx K mg) (fd : FuncData) (cdv : Value) (A : Around) (outer : List Env) (s : Shared) (H : Hp) (E : XK) (hr : Room 2 (A.deeper (envOfC "_law_corner" (defScope (top 65)) s.heap.objs.size (He.ga K "_law_corner") cdv))) :
    PSs (cxOf (L2.CX P w) P w K mg base N__law_corner "_law_corner" (defScope (top 65)) (He.ga K "_law_corner") cdv A outer s H E) (defBody (top 65)) (tS K (fun cls d _ H => E cls d H) b__law_corner) := by
  have tk := tk_cx (P := P) (w := w) (K := K) (mg := mg) (base := base) (N := N__law_corner) (qual := "_law_corner") (scope := defScope (top 65)) (f := He.ga K "_law_corner") (cd := cdv) (A := A) (outer := outer) (s := s) (H := H) (E := E)
  exact (mss_cons (ms_set (ps_set (i := 3) sc__law_corner.nd rfl (Or.inl rfl) (me_ix ix_seq o_ix (weak (me_ix ix_seq o_ix (me_varW (pv 0)) (weak me_int) (fun _ _ => rfl))) (weak (me_op2 op_modN o_mod (me_varW (pv 1)) (weak (me_callB call_len3 c_len (by rfl) T.z_len (by decide +kernel) (maw_cons (weak (me_ix ix_seq o_ix (me_varW (pv 0)) (weak me_int) (fun _ _ => rfl))) maw_nil))))) (fun _ _ => rfl))))
  (mss_cons (ms_set (ps_set (i := 4) sc__law_corner.nd rfl (Or.inl rfl) (me_call ((d__law_spot_plus T).mono (by decide)) hr tk (by rfl) (alen_cons (alen_cons alen_nil)) (ma_cons (me_ix ix_seq o_ix (me_varW (pv 0)) (weak me_int) (fun _ _ => rfl)) (ma_cons (me_call ((d__law_spot_times T).mono (by decide)) hr tk (by rfl) (alen_cons (alen_cons alen_nil)) (ma_cons (me_ix ix_seq o_ix (me_varW (pv 0)) (weak me_int) (fun _ _ => rfl)) (ma_cons (me_var (pv 2)) ma_nil))) ma_nil)))))
  (mss_one (ms_ret (me_call ((d__law_spot_plus T).mono (by decide)) hr tk (by rfl) (alen_cons (alen_cons alen_nil)) (ma_cons (me_var (pv 4)) (ma_cons (me_tup (ma_cons (me_tup (ma_cons (me_ix ix_seq o_ix (me_varW (pv 3)) (weak me_int) (fun _ _ => rfl)) (ma_cons me_int ma_nil))) (ma_cons (me_tup (ma_cons (me_ix ix_seq o_ix (me_varW (pv 3)) (weak me_int) (fun _ _ => rfl)) (ma_cons me_int ma_nil))) ma_nil))) ma_nil)))))))
theorem d__law_corner (T : Fx K mg) : Def P w K mg base 3 "_law_corner" 3 [] m__law_corner := by
  obtain ⟨fd, F⟩ := T.f__law_corner
  exact Def.mk' (ps := ["_law_row_here", "_law_at", "_law_after"]) (N := N__law_corner) (k := 2) F T.g__law_corner sc__law_corner b__law_corner ⟨[], [], .nil, F.bindsN (fun _ _ _ _ _ _ us hl => match us, hl with | [_, _, _], _ => rfl), fun _ _ => .nil⟩ (fun cdv A outer s H E hr => w__law_corner T fd cdv A outer s H E hr)
abbrev N__law_mean : List Str := ["_law_one", "_law_other"]
theorem sc__law_mean : FnScope N__law_mean ["_law_one", "_law_other"] (defScope (top 66)) := ⟨rfl, rfl, rfl, by decide +kernel, rfl, by decide +kernel, by decide +kernel⟩
theorem w__law_mean (T : Fx K mg) (fd : FuncData) (cdv : Value) (A : Around) (outer : List Env) (s : Shared) (H : Hp) (E : XK) (hr : Room 3 (A.deeper (envOfC "_law_mean" (defScope (top 66)) s.heap.objs.size (He.ga K "_law_mean") cdv))) :
    PSs (cxOf (L2.CX P w) P w K mg base N__law_mean "_law_mean" (defScope (top 66)) (He.ga K "_law_mean") cdv A outer s H E) (defBody (top 66)) (tS K (fun cls d _ H => E cls d H) b__law_mean) := by
  have tk := tk_cx (P := P) (w := w) (K := K) (mg := mg) (base := base) (N := N__law_mean) (qual := "_law_mean") (scope := defScope (top 66)) (f := He.ga K "_law_mean") (cd := cdv) (A := A) (outer := outer) (s := s) (H := H) (E := E)
  exact (mss_one (ms_ret (me_call ((d__law_spot T).mono (by decide)) hr tk (by rfl) (alen_cons alen_nil) (ma_cons (me_call ((d__law_spot_times T).mono (by decide)) hr tk (by rfl) (alen_cons (alen_cons alen_nil)) (ma_cons (me_call ((d__law_spot_plus T).mono (by decide)) hr tk (by rfl) (alen_cons (alen_cons alen_nil)) (ma_cons (me_var (pv 0)) (ma_cons (me_var (pv 1)) ma_nil))) (ma_cons (me_tup (ma_cons me_int (ma_cons me_int ma_nil))) ma_nil))) ma_nil))))
theorem d__law_mean (T : Fx K mg) : Def P w K mg base 4 "_law_mean" 2 [] m__law_mean := by
  obtain ⟨fd, F⟩ := T.f__law_mean
  exact Def.mk' (ps := ["_law_one", "_law_other"]) (N := N__law_mean) (k := 3) F T.g__law_mean sc__law_mean b__law_mean ⟨[], [], .nil, F.bindsN (fun _ _ _ _ _ _ us hl => match us, hl with | [_, _], _ => rfl), fun _ _ => .nil⟩ (fun cdv A outer s H E hr => w__law_mean T fd cdv A outer s H E hr)
abbrev N__law_spots : List Str := ["_law_deck_here", "_law_one", "_law_other", "_law_after", "_law_at", "_law_mine", "_law_theirs", "_law_low", "_law_high", "_law_found", "_law_turn", "_law_k"]
theorem sc__law_spots : FnScope N__law_spots ["_law_deck_here", "_law_one", "_law_other", "_law_after"] (defScope (top 67)) := ⟨rfl, rfl, rfl, by decide +kernel, rfl, by decide +kernel, by decide +kernel⟩
theorem w__law_spots (T : Fx K mg) (fd : FuncData) (cdv : Value) (A : Around) (outer : List Env) (s : Shared) (H : Hp) (E : XK) (hr : Room 4 (A.deeper (envOfC "_law_spots" (defScope (top 67)) s.heap.objs.size (He.ga K "_law_spots") cdv))) :
    PSs (cxOf (L2.CX P w) P w K mg base N__law_spots "_law_spots" (defScope (top 67)) (He.ga K "_law_spots") cdv A outer s H E) (defBody (top 67)) (tSf K (fun cls d _ H => E cls d H) b__law_spots) := by
  have tk := tk_cx (P := P) (w := w) (K := K) (mg := mg) (base := base) (N := N__law_spots) (qual := "_law_spots") (scope := defScope (top 67)) (f := He.ga K "_law_spots") (cd := cdv) (A := A) (outer := outer) (s := s) (H := H) (E := E)
  exact (mss_consF (ms_lc (by decide) (ps_setLc (i := 4) (own := [("_law_turn", 10)]) rfl sc__law_spots.nd rfl rfl (sw_true rfl rfl rfl (by decide +kernel)) (toO (mi_range1 (by rfl) T.z_range (maw_cons (weak me_int) maw_nil))) (blkOk_by (N := N__law_spots) (sc := defScope (top 67)) (by decide +kernel)) (fun _ _ _ _ _ => (mg_name (pg_name (i := 10) sc__law_spots.nd rfl (Or.inl rfl)))) (fun _ _ _ _ _ => mts_nil) (fun _ _ _ _ _ => (me_callS ((d__law_take T).mono (by decide)) hr takes0 (by rfl) (alen_cons (alen_cons alen_nil)) (ma_cons (me_var (pv 0)) (ma_cons me_int ma_nil))))))
  (mss_consF (ms_lc (by decide) (ps_setLc (i := 5) (own := [("_law_k", 11)]) rfl sc__law_spots.nd rfl rfl (sw_true rfl rfl rfl (by decide +kernel)) (toO (mi_seq (me_var (pv 4)))) (blkOk_by (N := N__law_spots) (sc := defScope (top 67)) (by decide +kernel)) (fun _ _ _ _ _ => (mg_name (pg_name (i := 11) sc__law_spots.nd rfl (Or.inl rfl)))) (fun _ _ _ _ _ => mts_nil) (fun _ _ _ _ _ => (me_call ((d__law_corner T).mono (by decide)) hr takes0 (by rfl) (alen_cons (alen_cons (alen_cons alen_nil))) (ma_cons (me_var (pv 1)) (ma_cons (me_var (pv 11)) (ma_cons (me_var (pv 3)) ma_nil)))))))
  (mss_consF (ms_lc (by decide) (ps_setLc (i := 6) (own := [("_law_k", 11)]) rfl sc__law_spots.nd rfl rfl (sw_true rfl rfl rfl (by decide +kernel)) (toO (mi_seq (me_var (pv 4)))) (blkOk_by (N := N__law_spots) (sc := defScope (top 67)) (by decide +kernel)) (fun _ _ _ _ _ => (mg_name (pg_name (i := 11) sc__law_spots.nd rfl (Or.inl rfl)))) (fun _ _ _ _ _ => mts_nil) (fun _ _ _ _ _ => (me_call ((d__law_corner T).mono (by decide)) hr takes0 (by rfl) (alen_cons (alen_cons (alen_cons alen_nil))) (ma_cons (me_var (pv 2)) (ma_cons (me_var (pv 11)) (ma_cons (me_var (pv 3)) ma_nil)))))))
  (mss_consF (ms_par (ps_par (i := 7) (j := 8) rfl sc__law_spots.nd rfl rfl (by decide) rfl rfl (ma_cons (me_call ((d__law_mean T).mono (by decide)) hr tk (by rfl) (alen_cons (alen_cons alen_nil)) (ma_cons (me_ix ix_seq o_ix (me_varW (pv 5)) (weak me_int) (fun _ _ => rfl)) (ma_cons (me_ix ix_seq o_ix (me_varW (pv 5)) (weak me_int) (fun _ _ => rfl)) ma_nil))) (ma_cons (me_call ((d__law_mean T).mono (by decide)) hr tk (by rfl) (alen_cons (alen_cons alen_nil)) (ma_cons (me_ix ix_seq o_ix (me_varW (pv 6)) (weak me_int) (fun _ _ => rfl)) (ma_cons (me_ix ix_seq o_ix (me_varW (pv 6)) (weak me_int) (fun _ _ => rfl)) ma_nil))) ma_nil)) (by rfl)))
  (mss_consF (ms_set (ps_set (i := 9) sc__law_spots.nd rfl (Or.inl rfl) (me_new (mf_lst (ma_cons (me_call ((d__law_mean T).mono (by decide)) hr tk (by rfl) (alen_cons (alen_cons alen_nil)) (ma_cons (me_var (pv 7)) (ma_cons (me_var (pv 8)) ma_nil))) (ma_cons (me_call ((d__law_mean T).mono (by decide)) hr tk (by rfl) (alen_cons (alen_cons alen_nil)) (ma_cons (me_ix ix_seq o_ix (me_varW (pv 5)) (weak me_int) (fun _ _ => rfl)) (ma_cons (me_ix ix_seq o_ix (me_varW (pv 5)) (weak me_int) (fun _ _ => rfl)) ma_nil))) ma_nil))))))
  (mss_consF (ms_set (ps_set (i := 9) sc__law_spots.nd rfl (Or.inl rfl) (me_op2 op_add4 o_add (me_varW (pv 9)) (weak (me_new (mf_lst (ma_cons (me_call ((d__law_mean T).mono (by decide)) hr tk (by rfl) (alen_cons (alen_cons alen_nil)) (ma_cons (me_ix ix_seq o_ix (me_varW (pv 6)) (weak me_int) (fun _ _ => rfl)) (ma_cons (me_ix ix_seq o_ix (me_varW (pv 6)) (weak me_int) (fun _ _ => rfl)) ma_nil))) (ma_cons (me_call ((d__law_mean T).mono (by decide)) hr tk (by rfl) (alen_cons (alen_cons alen_nil)) (ma_cons (me_ix ix_seq o_ix (me_varW (pv 5)) (weak me_int) (fun _ _ => rfl)) (ma_cons (me_ix ix_seq o_ix (me_varW (pv 6)) (weak me_int) (fun _ _ => rfl)) ma_nil))) ma_nil))))))))
  (mss_oneF (ms_retE (mf_cat (me_varW (pv 9)) (weak (me_new (mf_lst (ma_cons (me_call ((d__law_spot T).mono (by decide)) hr tk (by rfl) (alen_cons alen_nil) (ma_cons (me_ix ix_seq o_ix (me_varW (pv 5)) (weak me_int) (fun _ _ => rfl)) ma_nil)) ma_nil)))))))))))))
theorem dF__law_spots (T : Fx K mg) : DefF P w K mg base 5 "_law_spots" 4 mF__law_spots := by
  obtain ⟨fd, F⟩ := T.f__law_spots
  exact DefF.mk' (ps := ["_law_deck_here", "_law_one", "_law_other", "_law_after"]) (N := N__law_spots) (k := 4) F T.g__law_spots sc__law_spots b__law_spots ⟨[], .nil, F.bindsN (fun _ _ _ _ _ _ us hl => match us, hl with | [_, _, _, _], _ => rfl)⟩ (fun cdv A outer s H E hr => w__law_spots T fd cdv A outer s H E hr)
abbrev N__law_some_ways : List Str := ["_law_deck_here", "_law_one", "_law_other", "_law_some", "_law_turn"]
theorem sc__law_some_ways : FnScope N__law_some_ways ["_law_deck_here", "_law_one", "_law_other"] (defScope (top 68)) := ⟨rfl, rfl, rfl, by decide +kernel, rfl, by decide +kernel, by decide +kernel⟩
theorem w__law_some_ways (T : Fx K mg) (fd : FuncData) (cdv : Value) (A : Around) (outer : List Env) (s : Shared) (H : Hp) (E : XK) (hr : Room 4 (A.deeper (envOfC "_law_some_ways" (defScope (top 68)) s.heap.objs.size (He.ga K "_law_some_ways") cdv))) :
    PSs (cxOf (L2.CX P w) P w K mg base N__law_some_ways "_law_some_ways" (defScope (top 68)) (He.ga K "_law_some_ways") cdv A outer s H E) (defBody (top 68)) (tS K (fun cls d _ H => E cls d H) b__law_some_ways) := by
  have tk := tk_cx (P := P) (w := w) (K := K) (mg := mg) (base := base) (N := N__law_some_ways) (qual := "_law_some_ways") (scope := defScope (top 68)) (f := He.ga K "_law_some_ways") (cd := cdv) (A := A) (outer := outer) (s := s) (H := H) (E := E)
  exact (mss_cons (ms_setOwn (ps_set (i := 3) sc__law_some_ways.nd rfl (Or.inl rfl) (mf_callF ((dF__law_pair_ways T).mono (by decide)) hr tk (by rfl) (alen_cons (alen_cons alen_nil)) (ma_cons (me_var (pv 1)) (ma_cons (me_var (pv 2)) ma_nil)))))
  (mss_cons (ms_for po_cx rfl (mi_range1 (by rfl) T.z_range (maw_cons (weak me_int) maw_nil)) (mg_name (pg_name (i := 4) sc__law_some_ways.nd rfl (Or.inl rfl))) (mss_one (ms_app (ps_expr (pe_bm PySem.F.plainAttrs_list PySem.F.slot_list_append PySem.F.type_list_append mt_append (pv 3) (pa_cons (me_call ((d__law_way T).mono (by decide)) hr tk (by rfl) (alen_cons (alen_cons alen_nil)) (ma_cons (me_op2 op_sub o_sub (weak (me_callS ((d__law_take T).mono (by decide)) hr tk (by rfl) (alen_cons (alen_cons alen_nil)) (ma_cons (me_var (pv 0)) (ma_cons me_int ma_nil)))) (weak me_int)) (ma_cons (me_op2 op_add4 o_add (weak me_int) (weak (me_callS ((d__law_take T).mono (by decide)) hr tk (by rfl) (alen_cons (alen_cons alen_nil)) (ma_cons (me_var (pv 0)) (ma_cons me_int ma_nil))))) ma_nil))) pa_nil))))))
  (mss_cons (ms_app (ps_expr (pe_bm PySem.F.plainAttrs_list PySem.F.slot_list_append PySem.F.type_list_append mt_append (pv 3) (pa_cons (me_call ((d__law_way T).mono (by decide)) hr tk (by rfl) (alen_cons (alen_cons alen_nil)) (ma_cons (me_op2 op_add4 o_add (weak me_int) (weak (me_callS ((d__law_long T).mono (by decide)) hr tk (by rfl) (alen_cons (alen_cons alen_nil)) (ma_cons (me_var (pv 0)) (ma_cons me_int ma_nil))))) (ma_cons (me_callS ((d__law_long T).mono (by decide)) hr tk (by rfl) (alen_cons (alen_cons alen_nil)) (ma_cons (me_var (pv 0)) (ma_cons me_int ma_nil))) ma_nil))) pa_nil))))
  (mss_frz (mss_one (ms_ret (me_op2 op_add4 o_add (me_varW (pv 3)) (weak (me_new (mf_lst (ma_cons (me_tup (ma_cons (me_un un_neg o_neg (weak (me_ix ix_seq o_ix (weak (me_ix ix_seq o_ix (me_varW (pv 3)) (weak (me_un un_neg o_neg (weak me_int))) (fun _ _ => rfl))) (weak me_int) (fun _ _ => rfl)))) (ma_cons (me_ix ix_seq o_ix (weak (me_ix ix_seq o_ix (me_varW (pv 3)) (weak (me_un un_neg o_neg (weak me_int))) (fun _ _ => rfl))) (weak me_int) (fun _ _ => rfl)) ma_nil))) (ma_cons (me_tup (ma_cons me_int (ma_cons (me_un un_neg o_neg (weak me_int)) ma_nil))) (ma_cons (me_tup (ma_cons me_int (ma_cons me_int ma_nil))) ma_nil)))))))))))))
theorem d__law_some_ways (T : Fx K mg) : Def P w K mg base 5 "_law_some_ways" 3 [] m__law_some_ways := by
  obtain ⟨fd, F⟩ := T.f__law_some_ways
  exact Def.mk' (ps := ["_law_deck_here", "_law_one", "_law_other"]) (N := N__law_some_ways) (k := 4) F T.g__law_some_ways sc__law_some_ways b__law_some_ways ⟨[], [], .nil, F.bindsN (fun _ _ _ _ _ _ us hl => match us, hl with | [_, _, _], _ => rfl), fun _ _ => .nil⟩ (fun cdv A outer s H E hr => w__law_some_ways T fd cdv A outer s H E hr)
abbrev N__law_turned : List Str := ["_law_paper"]
theorem sc__law_turned : FnScope N__law_turned ["_law_paper"] (defScope (top 69)) := ⟨rfl, rfl, rfl, by decide +kernel, rfl, by decide +kernel, by decide +kernel⟩
theorem w__law_turned (T : Fx K mg) (fd : FuncData) (cdv : Value) (A : Around) (outer : List Env) (s : Shared) (H : Hp) (E : XK) (hr : Room 0 (A.deeper (envOfC "_law_turned" (defScope (top 69)) s.heap.objs.size (He.ga K "_law_turned") cdv))) :
    PSs (cxOf (L2.CX P w) P w K mg base N__law_turned "_law_turned" (defScope (top 69)) (He.ga K "_law_turned") cdv A outer s H E) (defBody (top 69)) (tS K (fun cls d _ H => E cls d H) b__law_turned) := by
  have tk := tk_cx (P := P) (w := w) (K := K) (mg := mg) (base := base) (N := N__law_turned) (qual := "_law_turned") (scope := defScope (top 69)) (f := He.ga K "_law_turned") (cd := cdv) (A := A) (outer := outer) (s := s) (H := H) (E := E)
  exact (mss_cons (ms_if (mt_cmp2 (op_eqD hr.units) o_eq (weak (me_ix ix_seq o_ix (me_varW (pv 0)) (weak me_int) (fun _ _ => rfl))) (weak me_str) (nomark _)) (mss_one (ms_ret (me_tup (ma_cons me_str (ma_cons (me_tup (ma_cons (me_un un_neg o_neg (weak (me_ix ix_seq o_ix (weak (me_ix ix_seq o_ix (me_varW (pv 0)) (weak me_int) (fun _ _ => rfl))) (weak me_int) (fun _ _ => rfl)))) (ma_cons (me_un un_neg o_neg (weak (me_ix ix_seq o_ix (weak (me_ix ix_seq o_ix (me_varW (pv 0)) (weak me_int) (fun _ _ => rfl))) (weak me_int) (fun _ _ => rfl)))) ma_nil))) ma_nil))))) mss_nil)
  (mss_one (ms_ret (me_var (pv 0)))))
theorem d__law_turned (T : Fx K mg) : Def P w K mg base 1 "_law_turned" 1 [] m__law_turned := by
  obtain ⟨fd, F⟩ := T.f__law_turned
  exact Def.mk' (ps := ["_law_paper"]) (N := N__law_turned) (k := 0) F T.g__law_turned sc__law_turned b__law_turned ⟨[], [], .nil, F.bindsN (fun _ _ _ _ _ _ us hl => match us, hl with | [_], _ => rfl), fun _ _ => .nil⟩ (fun cdv A outer s H E hr => w__law_turned T fd cdv A outer s H E hr)
abbrev N_law : List Str := ["_law_script", "_law_deck_here", "_law_one", "_law_other", "_law_when", "_law_after", "_law_spots_here", "_law_turn", "_law_aside", "_law_ways_here", "_law_held_ways", "_law_held_spots", "_law_told", "_law_way_here", "_law_spot_here"]
theorem sc_law : FnScope N_law ["_law_script"] (defScope (top 70)) := ⟨rfl, rfl, rfl, by decide +kernel, rfl, by decide +kernel, by decide +kernel⟩
def law0 : Stmt := (defBody (top 70)).headD (.Pass ⟨0, 0, 0, 0⟩)
def lawr : List Stmt := (defBody (top 70)).tail
theorem law_body : defBody (top 70) = law0 :: lawr := by rfl
theorem w_law0 (T : Fx K mg) (cdv : Value) (A : Around) (outer : List Env) (s : Shared) (H : Hp) (E : XK) (hr : Room 8 (A.deeper (envOfC "law" (defScope (top 70)) s.heap.objs.size (He.ga K "law") cdv))) :
    PS (cxOf (L2.CX P w) P w K mg base N_law "law" (defScope (top 70)) (He.ga K "law") cdv A outer s H E) law0 (tAsg (tCallSD (spDk 1 K m__law_deck) [] (WE fun cls d _ H => E cls d H) (tCons (tVar 0) tNil)) (gName 1)) := by
  have tk := tk_cx (P := P) (w := w) (K := K) (mg := mg) (base := base) (N := N_law) (qual := "law") (scope := defScope (top 70)) (f := He.ga K "law") (cd := cdv) (A := A) (outer := outer) (s := s) (H := H) (E := E)
  exact (ps_set (i := 1) sc_law.nd rfl (Or.inl rfl) (pe_deck ((d__law_deck T).mono (by decide)) hr tk (by rfl) (pa_cons (pv 0) pa_nil)))
theorem w_law (T : Fx K mg) (cdv : Value) (A : Around) (outer : List Env) (s : Shared) (H : Hp) (E : XK) (hr : Room 8 (A.deeper (envOfC "law" (defScope (top 70)) s.heap.objs.size (He.ga K "law") cdv))) :
    PSs (cxOf (L2.CX P w) P w K mg base N_law "law" (defScope (top 70)) (He.ga K "law") cdv A outer s H E) lawr (tS K (fun cls d _ H => E cls d H) b_law) := by
  have tk := tk_cx (P := P) (w := w) (K := K) (mg := mg) (base := base) (N := N_law) (qual := "law") (scope := defScope (top 70)) (f := He.ga K "law") (cd := cdv) (A := A) (outer := outer) (s := s) (H := H) (E := E)
  exact (mss_cons (ms_asg (me_callS ((d__law_pair T).mono (by decide)) hr tk (by rfl) (alen_cons alen_nil) (ma_cons (me_var (pv 1)) ma_nil)) (mg_tup rfl (glen_cons (glen_cons (glen_cons glen_nil))) (mgs_cons (mg_name (pg_name (i := 2) sc_law.nd rfl (Or.inr rfl))) (mgs_cons (mg_name (pg_name (i := 3) sc_law.nd rfl (Or.inr rfl))) (mgs_cons (mg_name (pg_name (i := 4) sc_law.nd rfl (Or.inl rfl))) mgs_nil)))))
  (mss_cons (ms_set (ps_set (i := 5) sc_law.nd rfl (Or.inr rfl) (me_ix ix_seq o_ix (weak (me_new (mf_lst (ma_cons (me_var (pv 4)) (ma_cons (me_tup (ma_cons me_int (ma_cons me_int ma_nil))) (ma_cons (me_call ((d__law_share T).mono (by decide)) hr tk (by rfl) (alen_cons (alen_cons alen_nil)) (ma_cons (me_un un_neg o_neg (weak (me_callS ((d__law_take T).mono (by decide)) hr tk (by rfl) (alen_cons (alen_cons alen_nil)) (ma_cons (me_var (pv 1)) (ma_cons me_int ma_nil))))) (ma_cons (me_op2 op_add4 o_add (weak me_int) (weak (me_callS ((d__law_take T).mono (by decide)) hr tk (by rfl) (alen_cons (alen_cons alen_nil)) (ma_cons (me_var (pv 1)) (ma_cons me_int ma_nil))))) ma_nil))) ma_nil)))))) (weak (me_callS ((d__law_take T).mono (by decide)) hr tk (by rfl) (alen_cons (alen_cons alen_nil)) (ma_cons (me_var (pv 1)) (ma_cons me_int ma_nil)))) (fun _ _ => rfl))))
  (mss_cons (ms_setOwn (ps_set (i := 6) sc_law.nd rfl (Or.inl rfl) (mf_callFS ((dF__law_spots T).mono (by decide)) hr tk (by rfl) (alen_cons (alen_cons (alen_cons (alen_cons alen_nil)))) (ma_cons (me_var (pv 1)) (ma_cons (me_var (pv 2)) (ma_cons (me_var (pv 3)) (ma_cons (me_var (pv 5)) ma_nil)))))))
  (mss_cons (ms_for po_cx rfl (mi_range1 (by rfl) T.z_range (maw_cons (weak me_int) maw_nil)) (mg_name (pg_name (i := 7) sc_law.nd rfl (Or.inl rfl))) (mss_cons (ms_set (ps_set (i := 8) sc_law.nd rfl (Or.inl rfl) (me_tup (ma_cons (me_tup (ma_cons (me_op2 op_sub o_sub (weak (me_callS ((d__law_take T).mono (by decide)) hr tk (by rfl) (alen_cons (alen_cons alen_nil)) (ma_cons (me_var (pv 1)) (ma_cons me_int ma_nil)))) (weak me_int)) (ma_cons me_int ma_nil))) (ma_cons (me_tup (ma_cons (me_op2 op_sub o_sub (weak (me_callS ((d__law_take T).mono (by decide)) hr tk (by rfl) (alen_cons (alen_cons alen_nil)) (ma_cons (me_var (pv 1)) (ma_cons me_int ma_nil)))) (weak me_int)) (ma_cons me_int ma_nil))) ma_nil)))))
  (mss_one (ms_app (ps_expr (pe_bm PySem.F.plainAttrs_list PySem.F.slot_list_append PySem.F.type_list_append mt_append (pv 6) (pa_cons (me_call ((d__law_spot T).mono (by decide)) hr tk (by rfl) (alen_cons alen_nil) (ma_cons (me_call ((d__law_spot_plus T).mono (by decide)) hr tk (by rfl) (alen_cons (alen_cons alen_nil)) (ma_cons (me_call ((d__law_corner T).mono (by decide)) hr tk (by rfl) (alen_cons (alen_cons (alen_cons alen_nil))) (ma_cons (me_var (pv 2)) (ma_cons (me_var (pv 7)) (ma_cons (me_var (pv 5)) ma_nil)))) (ma_cons (me_var (pv 8)) ma_nil))) ma_nil)) pa_nil)))))))
  (mss_frz (mss_cons (ms_set (ps_set (i := 9) sc_law.nd rfl (Or.inl rfl) (me_callS ((d__law_some_ways T).mono (by decide)) hr tk (by rfl) (alen_cons (alen_cons (alen_cons alen_nil))) (ma_cons (me_var (pv 1)) (ma_cons (me_var (pv 2)) (ma_cons (me_var (pv 3)) ma_nil))))))
  (mss_cons (ms_lc (by decide) (ps_setLc (i := 10) (own := [("_law_way_here", 13)]) rfl sc_law.nd rfl rfl (sw_true rfl rfl rfl (by decide +kernel)) (toO (mi_seq (me_var (pv 9)))) (blkOk_by (N := N_law) (sc := defScope (top 70)) (by decide +kernel)) (fun _ _ _ _ _ => (mg_name (pg_name (i := 13) sc_law.nd rfl (Or.inl rfl)))) (fun _ _ _ _ _ => (mts_one (mt_truth (weak (me_call ((d_apart_held T).mono (by decide)) hr takes0 (by rfl) (alen_cons (alen_cons (alen_cons (alen_cons alen_nil)))) (ma_cons (me_var (pv 2)) (ma_cons (me_var (pv 3)) (ma_cons (me_tup (ma_cons me_str (ma_cons (me_var (pv 13)) ma_nil))) (ma_cons (me_var (pv 5)) ma_nil))))))))) (fun _ _ _ _ _ => (me_var (pv 13)))))
  (mss_cons (ms_lc (by decide) (ps_setLc (i := 11) (own := [("_law_spot_here", 14)]) rfl sc_law.nd rfl rfl (sw_true rfl rfl rfl (by decide +kernel)) (toO (mi_seq (me_var (pv 6)))) (blkOk_by (N := N_law) (sc := defScope (top 70)) (by decide +kernel)) (fun _ _ _ _ _ => (mg_name (pg_name (i := 14) sc_law.nd rfl (Or.inl rfl)))) (fun _ _ _ _ _ => (mts_one (mt_truth (weak (me_call ((d_apart_held T).mono (by decide)) hr takes0 (by rfl) (alen_cons (alen_cons (alen_cons (alen_cons alen_nil)))) (ma_cons (me_var (pv 2)) (ma_cons (me_var (pv 3)) (ma_cons (me_tup (ma_cons me_str (ma_cons (me_var (pv 14)) ma_nil))) (ma_cons (me_var (pv 5)) ma_nil))))))))) (fun _ _ _ _ _ => (me_var (pv 14)))))
  (mss_cons (ms_set (ps_set (i := 12) sc_law.nd rfl (Or.inl rfl) (me_call ((d_apart T).mono (by decide)) hr tk (by rfl) (alen_cons (alen_cons (alen_cons alen_nil))) (ma_cons (me_var (pv 2)) (ma_cons (me_var (pv 3)) (ma_cons (me_var (pv 5)) ma_nil))))))
  (mss_cons (ms_if (PW.pt (mw_or (mt_not (mt_truth (weak (me_call ((d_apart_held T).mono (by decide)) hr tk (by rfl) (alen_cons (alen_cons (alen_cons (alen_cons alen_nil)))) (ma_cons (me_var (pv 2)) (ma_cons (me_var (pv 3)) (ma_cons (me_var (pv 12)) (ma_cons (me_var (pv 5)) ma_nil)))))))) (mw_or1 (mt_not (mt_truth (weak (me_call ((d_apart_held T).mono (by decide)) hr tk (by rfl) (alen_cons (alen_cons (alen_cons (alen_cons alen_nil)))) (ma_cons (me_var (pv 3)) (ma_cons (me_var (pv 2)) (ma_cons (me_call ((d__law_turned T).mono (by decide)) hr tk (by rfl) (alen_cons alen_nil) (ma_cons (me_var (pv 12)) ma_nil)) (ma_cons (me_var (pv 5)) ma_nil))))))))))) (mss_one (ms_ret me_bl)) mss_nil)
  (mss_cons (ms_if (mt_cmp2 (op_eqD hr.units) o_eq (weak (me_ix ix_seq o_ix (me_varW (pv 12)) (weak me_int) (fun _ _ => rfl))) (weak me_str) (nomark _)) (mss_one (ms_ret (me_cmp2 (op_eqD hr.units) o_eq (me_varW (pv 10)) (weak (me_new (mf_lst ma_nil))) (nomark _)))) mss_nil)
  (mss_one (ms_ret (me_and (me_cmp2 (op_eqD hr.units) o_eq (weak (me_ix ix_seq o_ix (me_varW (pv 12)) (weak me_int) (fun _ _ => rfl))) (weak me_str) (nomark _)) (me_one (me_cmp2 (op_eqD hr.units) o_eq (me_varW (pv 11)) (weak (me_new (mf_lst ma_nil))) (nomark _)))))))))))))))))
theorem d_law (T : Fx K mg) : ∃ fd : FuncData, (∀ (s : Shared) (u : Value), BindsTo s fd ⟨[u], []⟩ [("_law_script", u)]) ∧ ∀ base : Heap, FnOk P w K mg base (L2.CX P w) 9 (He.ga K "law") fd ["_law_script"] (spLaw K 15 m__law_deck b_law) := by
  obtain ⟨fd, F⟩ := T.f_law
  refine ⟨fd, fun s u => F.bindsA (ps := ["_law_script"]) (fun _ _ _ _ _ _ us hl => match us, hl with | [_], _ => rfl) s [u] rfl, fun base => ?_⟩
  rw [law_body] at F
  exact law_fn (N := N_law) F sc_law (by decide) ((d__law_deck T).mono (by decide)) (fun cdv A outer s H E hr => w_law0 T cdv A outer s H E hr) (fun cdv A outer s H E hr => w_law T cdv A outer s H E hr)
end
end MM
end
namespace MM
open PySem PySem.Spec PyProof.Rows L2
theorem lawFx {K : Fg} {h : Heap} {mg : Str → Option Value} (X : K.In h) (G : h.Ns mainGlobals mg) (c : SaysM lawChk lawFn K) : Fx K mg where
  z_int := cFree_ok X G (c.fact 0)
  z_isinstance := cFree_ok X G (c.fact 1)
  z_bool := cFree_ok X G (c.fact 2)
  f_is_whole := c.def_ 0
  g_is_whole := cGlo_ok X G (c.fact 3)
  z_abs := cFree_ok X G (c.fact 4)
  f_divisor := c.def_ 1
  g_divisor := cGlo_ok X G (c.fact 5)
  z_tuple := cFree_ok X G (c.fact 6)
  z_len := cFree_ok X G (c.fact 7)
  f_is_share := c.def_ 2
  g_is_share := cGlo_ok X G (c.fact 8)
  x_NoShare := cExc_ok X G (c.fact 9)
  f_share := c.def_ 3
  g_share := cGlo_ok X G (c.fact 10)
  f_plus := c.def_ 4
  g_plus := cGlo_ok X G (c.fact 11)
  f_minus := c.def_ 5
  g_minus := cGlo_ok X G (c.fact 12)
  f_times := c.def_ 6
  g_times := cGlo_ok X G (c.fact 13)
  f_over := c.def_ 7
  g_over := cGlo_ok X G (c.fact 14)
  f_order := c.def_ 8
  g_order := cGlo_ok X G (c.fact 15)
  z_all := cFree_ok X G (c.fact 16)
  f_is_spot := c.def_ 9
  g_is_spot := cGlo_ok X G (c.fact 17)
  f_is_way := c.def_ 10
  g_is_way := cGlo_ok X G (c.fact 18)
  x_NoWay := cExc_ok X G (c.fact 19)
  f_way_of := c.def_ 11
  g_way_of := cGlo_ok X G (c.fact 20)
  f_along := c.def_ 12
  g_along := cGlo_ok X G (c.fact 21)
  z_zip := cFree_ok X G (c.fact 22)
  f_spot_plus := c.def_ 13
  g_spot_plus := cGlo_ok X G (c.fact 23)
  f_spot_minus := c.def_ 14
  g_spot_minus := cGlo_ok X G (c.fact 24)
  f_spot_times := c.def_ 15
  g_spot_times := cGlo_ok X G (c.fact 25)
  f_sides := c.def_ 16
  g_sides := cGlo_ok X G (c.fact 26)
  z_max := cFree_ok X G (c.fact 27)
  f_reach := c.def_ 17
  g_reach := cGlo_ok X G (c.fact 28)
  f_within := c.def_ 18
  g_within := cGlo_ok X G (c.fact 29)
  f_turned_way := c.def_ 19
  g_turned_way := cGlo_ok X G (c.fact 30)
  z_list := cFree_ok X G (c.fact 31)
  z_sorted := cFree_ok X G (c.fact 32)
  f_pair_ways := c.def_ 20
  g_pair_ways := cGlo_ok X G (c.fact 33)
  f_rate := c.def_ 21
  g_rate := cGlo_ok X G (c.fact 34)
  f_gap := c.def_ 22
  g_gap := cGlo_ok X G (c.fact 35)
  f_place_after := c.def_ 23
  g_place_after := cGlo_ok X G (c.fact 36)
  f_corners_after := c.def_ 24
  g_corners_after := cGlo_ok X G (c.fact 37)
  f_crossing := c.def_ 25
  g_crossing := cGlo_ok X G (c.fact 38)
  z_enumerate := cFree_ok X G (c.fact 39)
  f_cut_by := c.def_ 26
  g_cut_by := cGlo_ok X G (c.fact 40)
  c_STILL := cVal_ok X G (c.fact 41)
  f_common_spot := c.def_ 27
  g_common_spot := cGlo_ok X G (c.fact 42)
  f_apart := c.def_ 28
  g_apart := cGlo_ok X G (c.fact 43)
  f_apart_held := c.def_ 29
  g_apart_held := cGlo_ok X G (c.fact 44)
  f__law_cell := c.def_ 30
  g__law_cell := cGlo_ok X G (c.fact 45)
  f__law_deck := c.def_ 31
  g__law_deck := cGlo_ok X G (c.fact 46)
  f__law_take := c.def_ 32
  g__law_take := cGlo_ok X G (c.fact 47)
  z_range := cFree_ok X G (c.fact 48)
  f__law_long := c.def_ 33
  g__law_long := cGlo_ok X G (c.fact 49)
  f__law_gcd := c.def_ 34
  g__law_gcd := cGlo_ok X G (c.fact 50)
  f__law_share := c.def_ 35
  g__law_share := cGlo_ok X G (c.fact 51)
  f__law_plus := c.def_ 36
  g__law_plus := cGlo_ok X G (c.fact 52)
  f__law_times := c.def_ 37
  g__law_times := cGlo_ok X G (c.fact 53)
  f__law_spot := c.def_ 38
  g__law_spot := cGlo_ok X G (c.fact 54)
  f__law_spot_plus := c.def_ 39
  g__law_spot_plus := cGlo_ok X G (c.fact 55)
  f__law_spot_times := c.def_ 40
  g__law_spot_times := cGlo_ok X G (c.fact 56)
  f__law_left := c.def_ 41
  g__law_left := cGlo_ok X G (c.fact 57)
  f__law_half := c.def_ 42
  g__law_half := cGlo_ok X G (c.fact 58)
  f__law_number := c.def_ 43
  g__law_number := cGlo_ok X G (c.fact 59)
  f__law_eight := c.def_ 44
  g__law_eight := cGlo_ok X G (c.fact 60)
  f__law_shape := c.def_ 45
  g__law_shape := cGlo_ok X G (c.fact 61)
  f__law_way := c.def_ 47
  g__law_way := cGlo_ok X G (c.fact 62)
  f__law_ways := c.def_ 46
  g__law_ways := cGlo_ok X G (c.fact 63)
  f__law_pair_ways := c.def_ 48
  g__law_pair_ways := cGlo_ok X G (c.fact 64)
  f__law_names := c.def_ 49
  g__law_names := cGlo_ok X G (c.fact 65)
  f__law_drawn := c.def_ 50
  g__law_drawn := cGlo_ok X G (c.fact 66)
  f__law_row := c.def_ 51
  g__law_row := cGlo_ok X G (c.fact 67)
  f__law_pair := c.def_ 52
  g__law_pair := cGlo_ok X G (c.fact 68)
  f__law_corner := c.def_ 53
  g__law_corner := cGlo_ok X G (c.fact 69)
  f__law_mean := c.def_ 54
  g__law_mean := cGlo_ok X G (c.fact 70)
  f__law_spots := c.def_ 55
  g__law_spots := cGlo_ok X G (c.fact 71)
  f__law_some_ways := c.def_ 56
  g__law_some_ways := cGlo_ok X G (c.fact 72)
  f__law_turned := c.def_ 57
  g__law_turned := cGlo_ok X G (c.fact 73)
  f_law := c.def_ 58
  g_law := cGlo_ok X G (c.fact 74)
end MM
open PySem PySem.W PySem.Calls PyProof.Rows
theorem PySem.Challenge.cw_restbodies_k19_whole_apart_or_over_holds : PySem.Challenge.rw_restbodies_k19_whole_apart_or_over.Holds := by
  w_on; o_law
  refine MM.head_anyL (r := OpenLaw.row PySem.Challenge.rw_restbodies_k19_whole_apart_or_over) (q := view (OpenLaw.row PySem.Challenge.rw_restbodies_k19_whole_apart_or_over).prog [70]) (H := MM.lawHook) (ob := MM.lawOb) (M := 20000) (loose := MM.lawLoose) (d := HandSHeadRun.topDef (OpenLaw.row PySem.Challenge.rw_restbodies_k19_whole_apart_or_over).prog 70) (kwd := []) MM.lawOb_eq
    (by kernel_rfl) (fun s => by kernel_rfl) MM.lawRun (fun _ => ⟨rfl, rfl, rfl⟩) (by kernel_rfl) (by kernel_rfl) (by kernel_rfl) (by rfl) (by first | assumption | decide +kernel) (by decide +kernel) ⟨rfl, rfl, rfl, rfl, rfl, by decide +kernel⟩ ?hw ?hc
  case hw => w_witness2
  case hc =>
    exact MM.walk_mm (n := 63) (k := 9) (nn := 5) (N := 15) (m := MM.m__law_deck) (rest := MM.b_law) rfl (by decide) rfl rfl (MM.room_k (by decide))
      (fun w mg K h X G c => ⟨MM.cGlo_ok X G (c.fact 74), MM.d_law (MM.lawFx X G c)⟩) (fun ns hl hb => MM.law_good ns hl hb)

