import PyProof.Rows.All
import Wide.All
import OpenK.AllK
import Wide.FinOn
import HandS.ForMost
import HandS.ForExc
import HandS.Wide
import HandS.CallSlots
import HandS.HeadHook2
import HandS.Walk
import PyProof.DictRoadsH
import HandS.TryOnly
import HandS.ExcIs
import HandS.IsInst
import HandS.TupAny
import HandS.Flow
import HandS.EndBits
import HandS.IntHex
import HandS.Head0
import HandS.Head1
import HandS.Head2
import HandS.HeadEnd
import HandS.HeadHook1
import HandS.Ends
import KE.KUnpackStar
import HandS.Iter
import HandS.Zip
import HandS.Rev
import HandS.List
import HandS.SortInts
import HandS.Defaults
import HandS.Zip0
import HandS.Style
import KE.SortData
import KE.DataMinMax
import HandS.Deep
import KE.DataEq
import HandS.DictComp
import HandS.Small
import KE.KDictWalk
import KE.KDictList
import HandS.DictSubView
import KE.GoesMore
import HandS.Sort
import PyProof.NeKinds
import HandS.TupMul
import HandS.ExcInit
import HandS.ExcField
import HandS.ClsMeth
import PyProof.WalkInts
import KE.KIsAll
import HandS.HotCalls
import HandS.RevRange
import HandS.Conv
import KE.KDictZip
import KE.KDictPairs
import PyProof.ReprRoads
import HandS.Strs
import HandS.TryMany
import HandS.FStr
import HandS.Text
import PyProof.SliceStr2
import HandS.SuiteRaise
import HandS.RaiseFrom
import HandS.ExcInitHot
import PyProof.CompFree
import HandS.Comp
import HandS.More
import PySem.Challenge.RW_restbodies_k10_rows_made
set_option Elab.async false
set_option linter.all false
set_option maxRecDepth 100000
set_option maxHeartbeats 4000000
namespace MM
open PySem PySem.Spec PyProof.Rows L2
inductive D where
  | non | bl (b : Bool) | int (i : Int) | str (x : Str)
  | tup (xs : List D) | lst (xs : List D) | dct (ks vs : List D) | obj (C : Str) (ns : List Str) (vs : List D) | at (a : Addr) | ty (n : String) | cls (C : Str) | scr (ns : List Int)

abbrev Fg := PySem.W.Frag

abbrev Chk := List (Fg → Bool)
def obsM (chk : Chk) (fn : List He.DefD) (K : Fg) : He.AlD := ((chk.all fun f => f K) && fn.all fun d => d.ok K, fn.map fun d => He.fnW K d.at_)
def SaysM (chk : Chk) (fn : List He.DefD) (K : Fg) : Prop := obsM chk fn K = He.valD fn
def strN {α : Type} (n : Nat) (k : Nat → α) : α := match n with
  | 0 => k 0
  | m + 1 => k (m + 1)
def bitIn (s r : Nat) : Bool := Nat.beq (Nat.land (Nat.shiftRight s r) 1) 1
def seeK {α : Type} : List Addr → Nat → List Addr → (Nat → List Addr → α) → α
  | [], s, acc, k => k s acc
  | r :: rs, s, acc, k => match bitIn s r with
    | true => seeK rs s acc k
    | false => strN (Nat.lor s (Nat.shiftLeft 1 r)) fun s => seeK rs s (r :: acc) k
def growK {α : Type} (g : Addr → Option Obj) : List Addr → Nat → List Addr → (Nat → List Addr → α) → α
  | [], s, acc, k => k s acc
  | a :: as, s, acc, k => match g a with
    | some o => seeK (He.refsD o) s acc fun s acc => growK g as s acc k
    | none => growK g as s acc k
def bfsK (g : Addr → Option Obj) : Nat → List Addr → Nat → List Addr → List Addr
  | 0, _, _, all => all
  | n + 1, fr, s, all => growK g fr s [] fun s new => bfsK g n new s (all ++ new)
def asM (g : Addr → Option Obj) (n : Nat) : List Addr := bfsK g n [mainGlobals] (Nat.shiftLeft 1 mainGlobals) [mainGlobals] ++ [cStatics]
def obsMG (n : Nat) (chk : Chk) (fn : List He.DefD) (g : Addr → Option Obj) : He.AlD := obsM chk fn (He.frG g (asM g n))
def hookM (n : Nat) (chk : Chk) (fn : List He.DefD) : PySem.W.Hook where
  α := He.AlD
  obs := fun s => obsMG n chk fn s.heap.get?
  val := fun _ => He.valD fn
  says := fun _ h => ∃ K : Fg, K.In h ∧ SaysM chk fn K
  of := fun _ _ e => ⟨_, He.frG_in, e⟩
  keeps := fun _ _ _ ⟨K, hK, c⟩ k => ⟨K, PySem.W.Frag.In.keeps hK k, c⟩
theorem obsMG_eq {n : Nat} {chk : Chk} {fn : List He.DefD} {g : Addr → Option Obj} {s : Shared} (h : ∀ a, g a = s.heap.get? a) : obsMG n chk fn g = (hookM n chk fn).obs s := by
  have e : g = s.heap.get? := funext h
  rw [e] <;> rfl
def cGlo (x : Str) : Fg → Bool := fun K => He.Fa.ok K (.glo x)
def cFree (x : Str) : Fg → Bool := fun K => He.Fa.ok K (.free x)
def cExc (x : Str) : Fg → Bool := fun K => He.Fa.ok K (.exc x) && He.Fa.ok K (.glo x)
def cExcC (x : Str) : Fg → Bool := fun K => decide (PySem.W.findIn K (.ref (He.ga K x)) "__getattribute__" = some (some (.builtin "BaseException.__getattribute__"))) && (decide (PySem.W.findIn K (.ref (He.ga K x)) "__getattr__" = some none) &&
  (decide (PySem.W.subIn K (.ref (He.ga K x)) (.type "BaseException") = some true) && (PySem.W.hasDictIn K (He.ga K x) && (decide (PySem.W.findIn K (.ref (He.ga K x)) "__class__" = some (some (.builtin "object.__class__"))) &&
  (decide (PySem.W.specialIn K (.builtin "object.__class__") "__get__" = some (some (.builtin "getset_descriptor.__get__"))) && (decide (PySem.W.takesIn K (.builtin "object.__class__") = some true) && decide (PySem.W.mroIn K (He.ga K x) (.type "object") = some true)))))))
def cKit (x : Str) (c : Fg → Value) (b : Bool) : Fg → Bool := fun K => decide (PySem.W.kitOne K (.ref (He.ga K x)) (c K) = some b)
def cExm (x : Str) (c : Fg → Value) (b : Bool) : Fg → Bool := fun K => decide (PySem.W.exmOne K (.ref (He.ga K x)) (c K) = some b)
def cLim : Fg → Bool := fun K => decide (PySem.W.nsIn K cStatics "sys.int_max_str_digits" = some none)
mutual
def isDV (K : Fg) : Nat → Value → D → Bool
  | _, .none, .non => true
  | _, .bool b, .bl c => b == c
  | _, .int i _, .int j => decide (i = j)
  | _, .str x _, .str y => decide (x = y)
  | n + 1, .ref a, .tup ds => (match K.lookup a with
    | some ⟨.type c, _, .seq its _, _⟩ => decide (c = "tuple") && (decide (its.size ≤ sizeLine) && isDVs K n its.toList ds)
    | _ => false)
  | _, _, _ => false
def isDVs (K : Fg) : Nat → List Value → List D → Bool
  | _, [], [] => true
  | n, v :: vs, d :: ds => isDV K n v d && isDVs K n vs ds
  | _, _, _ => false
end
def cVal (x : Str) (d : D) : Fg → Bool := fun K => match PySem.W.nsIn K mainGlobals x with
  | some (some v) => isDV K 8 v d
  | _ => false
def clsBody : Stmt → List Stmt
  | .ClassDef _ _ _ body _ _ _ _ _ _ _ => body
  | _ => []
def cClsF (x : Str) : Fg → Bool := fun K => He.Fa.ok K (.cls x) && (decide (PySem.W.findIn K (.ref (He.ga K x)) "__class__" = some (some (.builtin "object.__class__"))) && (decide (PySem.W.specialIn K (.builtin "object.__class__") "__get__" = some (some (.builtin "getset_descriptor.__get__"))) &&
  (decide (PySem.W.takesIn K (.builtin "object.__class__") = some true) && decide (PySem.W.mroIn K (He.ga K x) (.type "object") = some true))))
def cNoat (x f : Str) : Fg → Bool := fun K => decide (PySem.W.findIn K (.ref (He.ga K x)) f = some none)
def cMeth (x m : Str) : Fg → Bool := fun K => He.Fa.ok K (.meth x m)
def cMkr (x : Str) : Fg → Bool := fun K => He.Fa.ok K (.mkr x)
def cBaseX (B : Str) : Fg → Bool := fun K => He.Fa.ok K (.glo B) && (PySem.W.readsIn K (He.ga K B) (.type "type") && (decide (PySem.W.specialIn K (.ref (He.ga K B)) "__getattribute__" = some (some (.builtin "type.__getattribute__"))) &&
  match PySem.W.findCls K (.ref (He.ga K B)) (.type "type") "__init__" with
  | some (.val v) => v == .builtin "ValueError.__init__"
  | _ => false))
def oexB (K : Fg) (C : Addr) : Bool := match K.lookup C with
  | some ⟨.type "type", _, .cls cd, sl⟩ => (match cd.mro, sl.toList with
    | .ref C' :: bm, [_, _, _, _, some (.builtin n), _] => C' == C && n == "ValueError.__new__" && !cd.hasDel && cd.hasDict && PySem.HandSPX.refsVE bm
    | _, _ => false)
  | _ => false
def cOexX (C : Str) (fs : List Str) : Fg → Bool := fun K => He.Fa.ok K (.glo C) && (oexB K (He.ga K C) && (decide (PySem.W.findIn K (.ref (He.ga K C)) "__setattr__" = some (some (.builtin "object.__setattr__"))) && (decide (PySem.W.subIn K (.ref (He.ga K C)) (.type "BaseException") = some true) &&
  (decide (PySem.W.typeIn K (.ref (He.ga K C)) = some (.type "type")) && (PySem.W.keepIn K (.ref (He.ga K C)) && (decide (PySem.W.findIn K (.ref (He.ga K C)) "__init__" = some (some (.ref (He.ma K (He.ga K C) "__init__")))) &&
  (decide (PySem.W.typeIn K (.ref (He.ma K (He.ga K C) "__init__")) = some (.type "function")) && ((fs.all fun f => decide (PySem.W.findIn K (.ref (He.ga K C)) f = some none)) && xfB K (He.ga K C)))))))))
def nsEq : List Nat → List Nat → Bool
  | [], [] => true
  | a :: x, b :: y => Nat.beq a b && nsEq x y
  | _, _ => false
def sEqL (a b : Str) : Bool := nsEq a.cps.toList b.cps.toList
def linKeys (own : List Str) : List Str → List Str → Bool
  | [], _ => true
  | k :: ks, [] => (startupNames.contains k || own.contains k) && linKeys own ks []
  | k :: ks, x :: xs => match sEqL k x with
    | true => linKeys own ks xs
    | false => (startupNames.contains k || own.contains k) && linKeys own ks (x :: xs)
noncomputable def seenL (q : Program) (loose mods : List Str) (Xt : Shared → Bool) (s : Shared) :=
  ((HandSHeadRun.seenQ q [] mods Xt s).1, (HandSHeadRun.seenQ q [] mods Xt s).2.1,
   linKeys ((recsOf q).map (·.name)) (s.heap.nsKeys mainGlobals) loose && s.heap.accountedOkI mods && s.heap.isNs mainGlobals && s.heap.isNs builtinsNs && tablesOk q s.heap && Xt s && (s.gens.size == 0),
   (HandSHeadRun.seenQ q [] mods Xt s).2.2.2)
def RunEqL (r : PySem.W.OpenRow) (q : Program) (H : PySem.W.Hook) (ob : PySem.W.SharedT → H.α) (M : Nat) (loose : List Str) (w : World) : Prop :=
  ∀ os : OsState, (HandSHeadRun.endF (HandSHeadRun.stepQ (HandSHeadRun.denQ HandSHeadRun.tabQ) r.prog w) M r.prog w os).map (fun s => (HandSHeadRun.looksF r.prog (PySem.W.boot_heap w.params) s.abs, seenL q loose (importedModules r.prog.main.body) (fun s => PySem.W.xlAt q [] s && PySem.W.recOk r.toRowW.records s) s.abs, ob s)) = some (true, PySem.W.openGood q [], H.val w)
end MM
noncomputable section
namespace MM
open PySem PySem.Spec PyProof.Rows L2
def top (i : Nat) : Stmt := PySem.Challenge.pw_restbodies_k10_rows_made.main.body.getD i (.Pass ⟨0, 0, 0, 0⟩)
def mth (i j : Nat) : Stmt := (clsBody (top i)).getD j (.Pass ⟨0, 0, 0, 0⟩)
def lawChk0 : Chk := [cFree "int", cFree "isinstance", cFree "bool", cGlo "is_whole", cFree "abs", cGlo "divisor", cFree "tuple", cFree "len", cGlo "is_share", cVal "GREATEST" (.int 10000000000000000000000000000000000000000000000000000000000000000000000000000000000000000000000000000000000000000000000000000000000000000000000000000000000000000000000000000000000000000000000000000000000000000000000000000000000000000000000000000000000000000000000000000000000000000000000000000000000000000000000000000000000000000000000000000000000000000000000000000000000000000000000000000000000000000), cGlo "is_fine", cExc "NoShare", cGlo "share", cFree "all", cGlo "is_spot", cGlo "is_fine_spot", cGlo "is_way", cGlo "along", cGlo "across", cFree "list", cExc "BadShape", cVal "REACH" (.int 1000000), cGlo "look_corner", cGlo "is_left", cVal "CORNERS" (.int 8), cFree "enumerate", cFree "min", cGlo "look_shape", cFree "str", cVal "LONGEST" (.int 12)]
def lawChk1 : Chk := [cVal "LETTERS" (.str "abcdefghijklmnopqrstuvwxyz"), cGlo "is_name", cGlo "is_rail", cVal "STILL" (.tup [(.tup [(.int 0), (.int 1)]), (.tup [(.int 0), (.int 1)])]), cVal "NOUGHT" (.tup [(.int 0), (.int 1)]), cGlo "may_go", cGlo "BadShape", cExm "BadShape" (fun K => (.ref (He.ga K "BadShape"))) true, cGlo "look_corners", cVal "MASS" (.int 1000000), cGlo "look_parts", cGlo "wall", cGlo "STILL", cGlo "free", cGlo "railed", cGlo "_law_cell", cGlo "_law_mixed", cGlo "_law_deck", cGlo "_law_take", cGlo "_law_gcd", cGlo "_law_left", cGlo "_law_half", cFree "sorted", cGlo "_law_hull", cGlo "_law_number", cGlo "_law_whole", cFree "range", cGlo "_law_is_round", cFree "max", cGlo "_law_is_spot"]
def lawChk2 : Chk := [cGlo "_law_is_rail", cGlo "_law_wrong", cGlo "_law_due", cGlo "_law_name", cGlo "_law_share", cGlo "_law_rail", cGlo "_law_times", cGlo "_law_things", cGlo "_law_spoil", cGlo "_law_free_made", cGlo "_law_railed_made", cGlo "_law_made", cFree "zip", cGlo "_law_alike", cGlo "BadRow", cExm "BadRow" (fun K => (.ref (He.ga K "BadRow"))) true, cFree "ValueError", cExcC "BadRow", cKit "BadRow" (fun K => (.type "ValueError")) true, cGlo "BodyError", cKit "BadRow" (fun K => (.ref (He.ga K "BodyError"))) true, cOexX "BadRow" ["part"], cKit "BadRow" (fun K => (.ref (He.ga K "BadShape"))) false, cGlo "_law_held", cGlo "law", cBaseX "BodyError"]
def lawChk : Chk := List.flatten [lawChk0, lawChk1, lawChk2]
def lawFn0 : List He.DefD := [⟨("is_whole", none), "is_whole", "is_whole", defArgs (top 11), defBody (top 11), defScope (top 11), [], []⟩, ⟨("divisor", none), "divisor", "divisor", defArgs (top 12), defBody (top 12), defScope (top 12), [], []⟩, ⟨("is_share", none), "is_share", "is_share", defArgs (top 13), defBody (top 13), defScope (top 13), [], []⟩, ⟨("is_fine", none), "is_fine", "is_fine", defArgs (top 14), defBody (top 14), defScope (top 14), [], []⟩, ⟨("share", none), "share", "share", defArgs (top 15), defBody (top 15), defScope (top 15), [.int 1], []⟩, ⟨("is_spot", none), "is_spot", "is_spot", defArgs (top 18), defBody (top 18), defScope (top 18), [], []⟩, ⟨("is_fine_spot", none), "is_fine_spot", "is_fine_spot", defArgs (top 19), defBody (top 19), defScope (top 19), [], []⟩, ⟨("is_way", none), "is_way", "is_way", defArgs (top 20), defBody (top 20), defScope (top 20), [], []⟩, ⟨("along", none), "along", "along", defArgs (top 21), defBody (top 21), defScope (top 21), [], []⟩, ⟨("across", none), "across", "across", defArgs (top 22), defBody (top 22), defScope (top 22), [], []⟩, ⟨("look_corner", none), "look_corner", "look_corner", defArgs (top 24), defBody (top 24), defScope (top 24), [], []⟩, ⟨("is_left", none), "is_left", "is_left", defArgs (top 25), defBody (top 25), defScope (top 25), [], []⟩, ⟨("look_shape", none), "look_shape", "look_shape", defArgs (top 26), defBody (top 26), defScope (top 26), [], []⟩, ⟨("is_name", none), "is_name", "is_name", defArgs (top 30), defBody (top 30), defScope (top 30), [], []⟩, ⟨("is_rail", none), "is_rail", "is_rail", defArgs (top 31), defBody (top 31), defScope (top 31), [], []⟩, ⟨("may_go", none), "may_go", "may_go", defArgs (top 32), defBody (top 32), defScope (top 32), [], []⟩, ⟨("look_corners", none), "look_corners", "look_corners", defArgs (top 33), defBody (top 33), defScope (top 33), [], []⟩, ⟨("look_parts", none), "look_parts", "look_parts", defArgs (top 34), defBody (top 34), defScope (top 34), [], [("lightest", .int 0), ("needs_rail", .bl false)]⟩, ⟨("wall", none), "wall", "wall", defArgs (top 35), defBody (top 35), defScope (top 35), [], [("at", .glo "STILL")]⟩, ⟨("free", none), "free", "free", defArgs (top 36), defBody (top 36), defScope (top 36), [], [("mass", .int 1), ("at", .glo "STILL"), ("speed", .glo "STILL")]⟩, ⟨("railed", none), "railed", "railed", defArgs (top 37), defBody (top 37), defScope (top 37), [], [("mass", .int 1), ("at", .glo "STILL"), ("speed", .glo "STILL")]⟩, ⟨("_law_cell", none), "_law_cell", "_law_cell", defArgs (top 39), defBody (top 39), defScope (top 39), [], []⟩, ⟨("_law_mixed", none), "_law_mixed", "_law_mixed", defArgs (top 40), defBody (top 40), defScope (top 40), [], []⟩, ⟨("_law_deck", none), "_law_deck", "_law_deck", defArgs (top 41), defBody (top 41), defScope (top 41), [], []⟩, ⟨("_law_take", none), "_law_take", "_law_take", defArgs (top 42), defBody (top 42), defScope (top 42), [], []⟩, ⟨("_law_gcd", none), "_law_gcd", "_law_gcd", defArgs (top 43), defBody (top 43), defScope (top 43), [], []⟩, ⟨("_law_left", none), "_law_left", "_law_left", defArgs (top 44), defBody (top 44), defScope (top 44), [], []⟩, ⟨("_law_half", none), "_law_half", "_law_half", defArgs (top 45), defBody (top 45), defScope (top 45), [], []⟩, ⟨("_law_hull", none), "_law_hull", "_law_hull", defArgs (top 46), defBody (top 46), defScope (top 46), [], []⟩, ⟨("_law_number", none), "_law_number", "_law_number", defArgs (top 47), defBody (top 47), defScope (top 47), [], []⟩]
def lawFn1 : List He.DefD := [⟨("_law_whole", none), "_law_whole", "_law_whole", defArgs (top 48), defBody (top 48), defScope (top 48), [], []⟩, ⟨("_law_is_round", none), "_law_is_round", "_law_is_round", defArgs (top 49), defBody (top 49), defScope (top 49), [], []⟩, ⟨("_law_is_spot", none), "_law_is_spot", "_law_is_spot", defArgs (top 50), defBody (top 50), defScope (top 50), [], []⟩, ⟨("_law_is_rail", none), "_law_is_rail", "_law_is_rail", defArgs (top 51), defBody (top 51), defScope (top 51), [], []⟩, ⟨("_law_wrong", none), "_law_wrong", "_law_wrong", defArgs (top 52), defBody (top 52), defScope (top 52), [], []⟩, ⟨("_law_due", none), "_law_due", "_law_due", defArgs (top 53), defBody (top 53), defScope (top 53), [], []⟩, ⟨("_law_name", none), "_law_name", "_law_name", defArgs (top 54), defBody (top 54), defScope (top 54), [], []⟩, ⟨("_law_share", none), "_law_share", "_law_share", defArgs (top 55), defBody (top 55), defScope (top 55), [], []⟩, ⟨("_law_rail", none), "_law_rail", "_law_rail", defArgs (top 56), defBody (top 56), defScope (top 56), [], []⟩, ⟨("_law_times", none), "_law_times", "_law_times", defArgs (top 57), defBody (top 57), defScope (top 57), [], []⟩, ⟨("_law_things", none), "_law_things", "_law_things", defArgs (top 58), defBody (top 58), defScope (top 58), [], []⟩, ⟨("_law_spoil", none), "_law_spoil", "_law_spoil", defArgs (top 59), defBody (top 59), defScope (top 59), [], []⟩, ⟨("_law_free_made", none), "_law_free_made", "_law_free_made", defArgs (top 60), defBody (top 60), defScope (top 60), [], []⟩, ⟨("_law_railed_made", none), "_law_railed_made", "_law_railed_made", defArgs (top 61), defBody (top 61), defScope (top 61), [], []⟩, ⟨("_law_made", none), "_law_made", "_law_made", defArgs (top 62), defBody (top 62), defScope (top 62), [], []⟩, ⟨("_law_alike", none), "_law_alike", "_law_alike", defArgs (top 63), defBody (top 63), defScope (top 63), [], []⟩, ⟨("_law_held", none), "_law_held", "_law_held", defArgs (top 64), defBody (top 64), defScope (top 64), [], []⟩, ⟨("law", none), "law", "law", defArgs (top 65), defBody (top 65), defScope (top 65), [], []⟩, ⟨("BadRow", some "__init__"), "__init__", "BadRow.__init__", defArgs (mth 7 0), defBody (mth 7 0), defScope (mth 7 0), [], []⟩]
def lawFn : List He.DefD := List.flatten [lawFn0, lawFn1]
def lawFnA0 : List He.DefD := [⟨("is_whole", none), "is_whole", "is_whole", defArgs (top 11), defBody (top 11), defScope (top 11), [], []⟩, ⟨("divisor", none), "divisor", "divisor", defArgs (top 12), defBody (top 12), defScope (top 12), [], []⟩, ⟨("is_share", none), "is_share", "is_share", defArgs (top 13), defBody (top 13), defScope (top 13), [], []⟩, ⟨("is_fine", none), "is_fine", "is_fine", defArgs (top 14), defBody (top 14), defScope (top 14), [], []⟩, ⟨("share", none), "share", "share", defArgs (top 15), defBody (top 15), defScope (top 15), [.int 1], []⟩, ⟨("is_spot", none), "is_spot", "is_spot", defArgs (top 18), defBody (top 18), defScope (top 18), [], []⟩, ⟨("is_fine_spot", none), "is_fine_spot", "is_fine_spot", defArgs (top 19), defBody (top 19), defScope (top 19), [], []⟩, ⟨("is_way", none), "is_way", "is_way", defArgs (top 20), defBody (top 20), defScope (top 20), [], []⟩, ⟨("along", none), "along", "along", defArgs (top 21), defBody (top 21), defScope (top 21), [], []⟩, ⟨("across", none), "across", "across", defArgs (top 22), defBody (top 22), defScope (top 22), [], []⟩, ⟨("look_corner", none), "look_corner", "look_corner", defArgs (top 24), defBody (top 24), defScope (top 24), [], []⟩, ⟨("is_left", none), "is_left", "is_left", defArgs (top 25), defBody (top 25), defScope (top 25), [], []⟩, ⟨("look_shape", none), "look_shape", "look_shape", defArgs (top 26), defBody (top 26), defScope (top 26), [], []⟩, ⟨("is_name", none), "is_name", "is_name", defArgs (top 30), defBody (top 30), defScope (top 30), [], []⟩, ⟨("is_rail", none), "is_rail", "is_rail", defArgs (top 31), defBody (top 31), defScope (top 31), [], []⟩, ⟨("may_go", none), "may_go", "may_go", defArgs (top 32), defBody (top 32), defScope (top 32), [], []⟩, ⟨("look_corners", none), "look_corners", "look_corners", defArgs (top 33), defBody (top 33), defScope (top 33), [], []⟩, ⟨("look_parts", none), "look_parts", "look_parts", defArgs (top 34), defBody (top 34), defScope (top 34), [], [("lightest", .int 0), ("needs_rail", .bl false)]⟩, ⟨("wall", none), "wall", "wall", defArgs (top 35), defBody (top 35), defScope (top 35), [], [("at", .glo "STILL")]⟩, ⟨("free", none), "free", "free", defArgs (top 36), defBody (top 36), defScope (top 36), [], [("mass", .int 1), ("at", .glo "STILL"), ("speed", .glo "STILL")]⟩, ⟨("railed", none), "railed", "railed", defArgs (top 37), defBody (top 37), defScope (top 37), [], [("mass", .int 1), ("at", .glo "STILL"), ("speed", .glo "STILL")]⟩, ⟨("_law_cell", none), "_law_cell", "_law_cell", defArgs (top 39), defBody (top 39), defScope (top 39), [], []⟩, ⟨("_law_mixed", none), "_law_mixed", "_law_mixed", defArgs (top 40), defBody (top 40), defScope (top 40), [], []⟩, ⟨("_law_deck", none), "_law_deck", "_law_deck", defArgs (top 41), defBody (top 41), defScope (top 41), [], []⟩, ⟨("_law_take", none), "_law_take", "_law_take", defArgs (top 42), defBody (top 42), defScope (top 42), [], []⟩]
def lawFnA : List He.DefD := lawFnA0
def lawFnB0 : List He.DefD := [⟨("_law_gcd", none), "_law_gcd", "_law_gcd", defArgs (top 43), defBody (top 43), defScope (top 43), [], []⟩, ⟨("_law_left", none), "_law_left", "_law_left", defArgs (top 44), defBody (top 44), defScope (top 44), [], []⟩, ⟨("_law_half", none), "_law_half", "_law_half", defArgs (top 45), defBody (top 45), defScope (top 45), [], []⟩, ⟨("_law_hull", none), "_law_hull", "_law_hull", defArgs (top 46), defBody (top 46), defScope (top 46), [], []⟩, ⟨("_law_number", none), "_law_number", "_law_number", defArgs (top 47), defBody (top 47), defScope (top 47), [], []⟩, ⟨("_law_whole", none), "_law_whole", "_law_whole", defArgs (top 48), defBody (top 48), defScope (top 48), [], []⟩, ⟨("_law_is_round", none), "_law_is_round", "_law_is_round", defArgs (top 49), defBody (top 49), defScope (top 49), [], []⟩, ⟨("_law_is_spot", none), "_law_is_spot", "_law_is_spot", defArgs (top 50), defBody (top 50), defScope (top 50), [], []⟩, ⟨("_law_is_rail", none), "_law_is_rail", "_law_is_rail", defArgs (top 51), defBody (top 51), defScope (top 51), [], []⟩, ⟨("_law_wrong", none), "_law_wrong", "_law_wrong", defArgs (top 52), defBody (top 52), defScope (top 52), [], []⟩, ⟨("_law_due", none), "_law_due", "_law_due", defArgs (top 53), defBody (top 53), defScope (top 53), [], []⟩, ⟨("_law_name", none), "_law_name", "_law_name", defArgs (top 54), defBody (top 54), defScope (top 54), [], []⟩, ⟨("_law_share", none), "_law_share", "_law_share", defArgs (top 55), defBody (top 55), defScope (top 55), [], []⟩, ⟨("_law_rail", none), "_law_rail", "_law_rail", defArgs (top 56), defBody (top 56), defScope (top 56), [], []⟩, ⟨("_law_times", none), "_law_times", "_law_times", defArgs (top 57), defBody (top 57), defScope (top 57), [], []⟩, ⟨("_law_things", none), "_law_things", "_law_things", defArgs (top 58), defBody (top 58), defScope (top 58), [], []⟩, ⟨("_law_spoil", none), "_law_spoil", "_law_spoil", defArgs (top 59), defBody (top 59), defScope (top 59), [], []⟩, ⟨("_law_free_made", none), "_law_free_made", "_law_free_made", defArgs (top 60), defBody (top 60), defScope (top 60), [], []⟩, ⟨("_law_railed_made", none), "_law_railed_made", "_law_railed_made", defArgs (top 61), defBody (top 61), defScope (top 61), [], []⟩, ⟨("_law_made", none), "_law_made", "_law_made", defArgs (top 62), defBody (top 62), defScope (top 62), [], []⟩, ⟨("_law_alike", none), "_law_alike", "_law_alike", defArgs (top 63), defBody (top 63), defScope (top 63), [], []⟩, ⟨("_law_held", none), "_law_held", "_law_held", defArgs (top 64), defBody (top 64), defScope (top 64), [], []⟩, ⟨("law", none), "law", "law", defArgs (top 65), defBody (top 65), defScope (top 65), [], []⟩, ⟨("BadRow", some "__init__"), "__init__", "BadRow.__init__", defArgs (mth 7 0), defBody (mth 7 0), defScope (mth 7 0), [], []⟩]
def lawFnB : List He.DefD := lawFnB0
def lawLoose0 : List Str := [Str.ofString "CORNERS", Str.ofString "REACH", Str.ofString "MASS", Str.ofString "BodyError", Str.ofString "NoShare", Str.ofString "BadShape", Str.ofString "BadRow", Str.ofString "NOUGHT", Str.ofString "GREATEST", Str.ofString "is_whole", Str.ofString "divisor", Str.ofString "is_share", Str.ofString "is_fine", Str.ofString "share", Str.ofString "STILL", Str.ofString "is_spot", Str.ofString "is_fine_spot", Str.ofString "is_way", Str.ofString "along", Str.ofString "across", Str.ofString "look_corner", Str.ofString "is_left", Str.ofString "look_shape", Str.ofString "LETTERS", Str.ofString "LONGEST", Str.ofString "is_name", Str.ofString "is_rail", Str.ofString "may_go", Str.ofString "look_corners", Str.ofString "look_parts", Str.ofString "wall", Str.ofString "free", Str.ofString "railed", Str.ofString "_law_cell", Str.ofString "_law_mixed", Str.ofString "_law_deck", Str.ofString "_law_take", Str.ofString "_law_gcd", Str.ofString "_law_left", Str.ofString "_law_half"]
def lawLoose1 : List Str := [Str.ofString "_law_hull", Str.ofString "_law_number", Str.ofString "_law_whole", Str.ofString "_law_is_round", Str.ofString "_law_is_spot", Str.ofString "_law_is_rail", Str.ofString "_law_wrong", Str.ofString "_law_due", Str.ofString "_law_name", Str.ofString "_law_share", Str.ofString "_law_rail", Str.ofString "_law_times", Str.ofString "_law_things", Str.ofString "_law_spoil", Str.ofString "_law_free_made", Str.ofString "_law_railed_made", Str.ofString "_law_made", Str.ofString "_law_alike", Str.ofString "_law_held"]
def lawLoose : List Str := List.flatten [lawLoose0, lawLoose1]
abbrev lawRow : PySem.W.OpenRow := PySem.W.OpenLaw.row PySem.Challenge.rw_restbodies_k10_rows_made
abbrev lawHook : PySem.W.Hook := hookM 5 lawChk lawFn
def lawOb (s : PySem.W.SharedT) : He.AlD := obsMG 5 lawChk lawFn (HandSHeadRun.getT s)
theorem lawOb_eq (s : PySem.W.SharedT) : lawOb s = lawHook.obs s.abs := obsMG_eq (HandSHeadRun.getT_eq s)
abbrev lawEnd (w : World) (os : OsState) : Option PySem.W.SharedT := HandSHeadRun.endF (HandSHeadRun.stepQ (HandSHeadRun.denQ HandSHeadRun.tabQ) lawRow.prog w) 20000 lawRow.prog w os
def lawK (s : PySem.W.SharedT) : Fg := He.frG (HandSHeadRun.getT s) (asM (HandSHeadRun.getT s) 5)
theorem lawRunA (w : World) (os : OsState) : (lawEnd w os).map (fun s => (HandSHeadRun.looksF lawRow.prog (PySem.W.boot_heap w.params) s.abs, seenL (PySem.W.view lawRow.prog [65]) lawLoose (importedModules lawRow.prog.main.body) (fun s => PySem.W.xlAt (PySem.W.view lawRow.prog [65]) [] s && PySem.W.recOk lawRow.toRowW.records s) s.abs)) = some (true, PySem.W.openGood (PySem.W.view lawRow.prog [65]) []) := by
  kernel_rfl
theorem lawRunB (w : World) (os : OsState) : (lawEnd w os).map (fun s => lawChk.all fun f => f (lawK s)) = some true := by
  kernel_rfl
theorem lawRunC (w : World) (os : OsState) : (lawEnd w os).map (fun s => (lawFnA.all (fun d => d.ok (lawK s)), lawFnA.map fun d => He.fnW (lawK s) d.at_)) = some (true, lawFnA.map He.DefD.val) := by
  kernel_rfl
theorem lawRunD (w : World) (os : OsState) : (lawEnd w os).map (fun s => (lawFnB.all (fun d => d.ok (lawK s)), lawFnB.map fun d => He.fnW (lawK s) d.at_)) = some (true, lawFnB.map He.DefD.val) := by
  kernel_rfl
theorem lawFn_two : lawFn = lawFnA ++ lawFnB := by rfl
theorem lawRun (w : World) : RunEqL lawRow (PySem.W.view lawRow.prog [65]) lawHook lawOb 20000 lawLoose w := by
  intro os
  have a := lawRunA w os
  have b := lawRunB w os
  have c := lawRunC w os
  have d := lawRunD w os
  show (lawEnd w os).map _ = _
  generalize lawEnd w os = e at a b c d ⊢
  cases e with
  | none => cases a
  | some s =>
    rw [Option.map_some, Option.some.injEq, Prod.mk.injEq] at a c d
    rw [Option.map_some, Option.some.injEq] at b
    rw [Option.map_some, Option.some.injEq]
    refine Prod.ext a.1 (Prod.ext a.2 ?_)
    show ((lawChk.all fun f => f (lawK s)) && lawFn.all (fun d => d.ok (lawK s)), lawFn.map fun d => He.fnW (lawK s) d.at_) = (true, lawFn.map He.DefD.val)
    rw [lawFn_two, List.all_append, List.map_append, List.map_append, b, c.1, c.2, d.1, d.2]
    rfl
end MM
end
namespace MM
open PySem PySem.Spec PyProof.Rows L2
abbrev St := L2.St

abbrev Fp := Addr → Prop
def TupF (K : Fg) (F : Fp) (H : Hp) (a : Addr) (xs : List V) : Prop :=
  (¬ F a ∧ Rd H a (.tup xs)) ∨ ∃ (o : Obj) (its : Array Value) (n : Nat), K.lookup a = some o ∧ o.cls = .type "tuple" ∧ o.data = .seq its n ∧ its.size ≤ sizeLine ∧ Vals xs its.toList
abbrev LsR (_ : Fg) (H : Hp) (a : Addr) (xs : List V) : Prop := Rd H a (.lst xs)
def LstF (K : Fg) (F : Fp) (H : Hp) (a : Addr) (xs : List V) : Prop := ¬ F a ∧ LsR K H a xs
def ScrF (K : Fg) (F : Fp) (H : Hp) (a : Addr) (xs : List V) : Prop :=
  (¬ F a ∧ Rd H a (.lst xs)) ∨ ∃ (o : Obj) (its : Array Value) (n : Nat), K.lookup a = some o ∧ o.cls = .type "list" ∧ o.dict = none ∧ o.data = .seq its n ∧ its.size ≤ sizeLine ∧ Vals xs its.toList
theorem LsR.sq {K : Fg} {H : Hp} {a : Addr} {xs : List V} (h : LsR K H a xs) : SqL K H a xs := .inl h
theorem LstF.ls {K : Fg} {F : Fp} {H : Hp} {a : Addr} {xs : List V} (h : LstF K F H a xs) : LsR K H a xs := h.2
theorem ScrF.sq {K : Fg} {F : Fp} {H : Hp} {a : Addr} {xs : List V} (h : ScrF K F H a xs) : SqL K H a xs := by
  rcases h with ⟨_, h⟩ | h
  · exact .inl h
  · exact .inr h
theorem TupF.sq {K : Fg} {F : Fp} {H : Hp} {a : Addr} {xs : List V} (h : TupF K F H a xs) : SqT K H a xs := by
  rcases h with ⟨_, h⟩ | h
  · exact .inl h
  · exact .inr h
theorem LstF.sq {K : Fg} {F : Fp} {H : Hp} {a : Addr} {xs : List V} (h : LstF K F H a xs) : SqL K H a xs := .inl h.2

section
abbrev EX := List Int × Addr × V
def thi (ks : List Int) : Int := reduceHash (Builtin.Tuple.tupleHashOf (ks.map hashInt))
def entX (x : List Int × Addr × Value) : DictEntry := ⟨thi x.1, .ref x.2.1, x.2.2⟩
abbrev PX : List EX → List (List Int × Addr × Value) → Prop := Paired fun p q => p.1 = q.1 ∧ p.2.1 = q.2.1 ∧ RelV p.2.2 q.2.2
def OX (a : Addr) (o : Obj) (es : List EX) : Prop :=
  es.length ≤ sizeLine ∧ (a == sysModules) = false ∧ (es.map (·.1)).Nodup ∧ ∃ xs, PX es xs ∧ ∃ (arr : Array DictEntry) (ep : Nat), o.ExactDict ∧ o.data = .dict arr ep ∧ arr.toList = xs.map entX
def exo (a : Addr) (o : Obj) : HO := .ext fun h => h.get? a = some o
theorem PX.any {es : List EX} {xs : List (List Int × Addr × Value)} (r : PX es xs) (k : List Int) : (es.any fun p => decide (p.1 = k)) = (atKey xs k).isSome := by
  induction r with
  | nil => rfl
  | @cons p q ps qs h t ih =>
    rw [List.any_cons, ih]
    by_cases e : q.1 = k
    · have : atKey (q :: qs) k = some q.2 := by simp [atKey, List.find?_cons, e]
      rw [this, h.1, decide_eq_true e]; rfl
    · have : atKey (q :: qs) k = atKey qs k := by simp [atKey, List.find?_cons, e]
      rw [this, h.1, decide_eq_false e]; rfl
variable {X : Cx} {pins : List (Addr × Obj)} {σ : L2.St} {H : Hp} {s : Shared} {a b : Addr} {es : List EX} {k : List Int} {v : V} {r : Value} {A : Around} {E : Value → Shared → Prop}
def valX (es : List EX) (k : List Int) : Option V := (es.find? fun p => decide (p.1 = k)).map (·.2.2)
theorem PX.val {es : List EX} {xs : List (List Int × Addr × Value)} (r : PX es xs) {k : List Int} {v : V} (h : valX es k = some v) : ∃ p, atKey xs k = some p ∧ RelV v p.2 := by
  induction r with
  | nil => cases h
  | @cons p q ps qs hq t ih =>
    unfold valX at h
    rw [List.find?_cons] at h
    by_cases e : p.1 = k
    · rw [decide_eq_true e] at h
      cases h
      exact ⟨q.2, by simp [atKey, List.find?_cons, ← hq.1, e], hq.2.2⟩
    · rw [decide_eq_false e] at h
      obtain ⟨z, h1, h2⟩ := ih h
      refine ⟨z, ?_, h2⟩
      rw [← h1]
      simp [atKey, List.find?_cons, ← hq.1, e]
end

def keyD : Key → D
  | .inl i => .int i
  | .inr x => .str x

mutual
inductive Rep (K : Fg) (F : Fp) (H : Hp) : V → D → Prop
  | non : Rep K F H .non .non
  | bl (b : Bool) : Rep K F H (.bl b) (.bl b)
  | int (i : Int) : Rep K F H (.int i) (.int i)
  | str (x : Str) : Rep K F H (.str x) (.str x)
  | tup {a : Addr} {vs : List V} {ds : List D} : TupF K F H a vs → Reps K F H vs ds → Rep K F H (.ref a) (.tup ds)
  | lst {a : Addr} {vs : List V} {ds : List D} : LstF K F H a vs → Reps K F H vs ds → Rep K F H (.ref a) (.lst ds)
  | dK {a : Addr} {kvs : List (Key × V)} {ds : List D} : ¬ F a → H a = some (.dK kvs) → Reps K F H (kvs.map (·.2)) ds → Rep K F H (.ref a) (.dct (kvs.map fun p => keyD p.1) ds)
  | dX {a : Addr} {o : Obj} {es : List EX} {ds : List D} : ¬ F a → es ≠ [] → H a = some (exo a o) → OX a o es → (∀ p ∈ es, TupF K F H p.2.1 (p.1.map V.int)) → Reps K F H (es.map (·.2.2)) ds → Rep K F H (.ref a) (.dct (es.map fun p => .tup (p.1.map D.int)) ds)
  | obj {a dx : Addr} {C : Str} {fs : List (Str × V)} {ds : List D} : ¬ F a → H a = some (.ins (He.ga K C) dx fs) → Reps K F H (fs.map (·.2)) ds → Rep K F H (.ref a) (.obj C (fs.map (·.1)) ds)
  | at (a : Addr) : Rep K F H (.ref a) (.at a)
  | ty (n : String) : Rep K F H (.ty n) (.ty n)
  | cls (C : Str) : Rep K F H (.ref (He.ga K C)) (.cls C)
  | scr {a : Addr} {ns : List Int} : ScrF K F H a (ns.map V.int) → Rep K F H (.ref a) (.scr ns)
inductive Reps (K : Fg) (F : Fp) (H : Hp) : List V → List D → Prop
  | nil : Reps K F H [] []
  | cons {v : V} {vs : List V} {d : D} {ds : List D} : Rep K F H v d → Reps K F H vs ds → Reps K F H (v :: vs) (d :: ds)
end

section
variable {K : Fg} {F F' F1 F2 : Fp} {H H' H1 H2 : Hp}
theorem Reps.length : ∀ {vs : List V} {ds : List D}, Reps K F H vs ds → vs.length = ds.length
  | _, _, .nil => rfl
  | _, _, .cons _ t => congrArg (· + 1) (Reps.length t)
theorem Reps.get : ∀ {vs : List V} {ds : List D} {i : Nat} {d : D}, Reps K F H vs ds → ds[i]? = some d → ∃ v, vs[i]? = some v ∧ Rep K F H v d
  | _, _, _, _, .nil, e => by simp at e
  | _, _, 0, _, .cons r _, e => by simp at e; subst e; exact ⟨_, rfl, r⟩
  | _, _, i + 1, d, .cons _ t, e => by
    obtain ⟨v, h1, h2⟩ := Reps.get (i := i) (d := d) t (by simpa using e)
    exact ⟨v, by simpa using h1, h2⟩
theorem Reps.getV : ∀ {vs : List V} {ds : List D} {i : Nat} {v : V}, Reps K F H vs ds → vs[i]? = some v → ∃ d, ds[i]? = some d ∧ Rep K F H v d
  | _, _, _, _, .nil, e => by simp at e
  | _, _, 0, _, .cons r _, e => by simp at e; subst e; exact ⟨_, rfl, r⟩
  | _, _, i + 1, v, .cons _ t, e => by
    obtain ⟨d, h1, h2⟩ := Reps.getV (i := i) (v := v) t (by simpa using e)
    exact ⟨d, by simpa using h1, h2⟩
theorem Reps.append : ∀ {vs ws : List V} {ds es : List D}, Reps K F H vs ds → Reps K F H ws es → Reps K F H (vs ++ ws) (ds ++ es)
  | _, _, _, _, .nil, s => s
  | _, _, _, _, .cons r t, s => .cons r (Reps.append t s)
theorem Reps.take : ∀ {vs : List V} {ds : List D} (n : Nat), Reps K F H vs ds → Reps K F H (vs.take n) (ds.take n)
  | _, _, 0, _ => .nil
  | _, _, _ + 1, .nil => .nil
  | _, _, n + 1, .cons r t => .cons r (Reps.take n t)
theorem Reps.drop : ∀ {vs : List V} {ds : List D} (n : Nat), Reps K F H vs ds → Reps K F H (vs.drop n) (ds.drop n)
  | _, _, 0, r => r
  | _, _, _ + 1, .nil => .nil
  | _, _, n + 1, .cons r t => Reps.drop n t
theorem Reps.set {x : V} {d : D} (r : Rep K F H x d) : ∀ {vs : List V} {ds : List D} (i : Nat), Reps K F H vs ds → Reps K F H (vs.set i x) (ds.set i d)
  | _, _, _, .nil => .nil
  | _, _, 0, .cons _ t => .cons r t
  | _, _, i + 1, .cons q t => .cons q (Reps.set r i t)
theorem Reps.snoc {vs : List V} {ds : List D} {v : V} {d : D} (h : Reps K F H vs ds) (r : Rep K F H v d) : Reps K F H (vs ++ [v]) (ds ++ [d]) := h.append (.cons r .nil)

structure Stp (F1 : Fp) (H : Hp) (F2 : Fp) (H' : Hp) : Prop where
  keep : ∀ b o, ¬ F1 b → H b = some o → H' b = some o
  new : ∀ b, F2 b → F1 b ∨ H b = none
abbrev Sm (F : Fp) (H H' : Hp) : Prop := ∀ b o, ¬ F b → H b = some o → H' b = some o
theorem Sm.refl (F : Fp) (H : Hp) : Sm F H H := fun _ _ _ e => e
theorem Sm.trans (a : Sm F H H1) (b : Sm F H1 H2) : Sm F H H2 := fun c o n e => b c o n (a c o n e)
theorem Sm.of_same (a : Same H H') : Sm F H H' := fun b o _ e => a b o e
theorem Sm.mono (a : Sm F H H') (h : ∀ b, F b → F' b) : Sm F' H H' := fun b o n e => a b o (fun z => n (h b z)) e
theorem Stp.refl (F : Fp) (H : Hp) : Stp F H F H := ⟨fun _ _ _ e => e, fun _ h => .inl h⟩
theorem Stp.trans {F3 : Fp} (a : Stp F1 H F2 H1) (b : Stp F2 H1 F3 H2) : Stp F1 H F3 H2 where
  keep := fun c o n e => b.keep c o (fun z => by rcases a.new c z with q | q; exact n q; rw [q] at e; cases e) (a.keep c o n e)
  new := fun c h => by
    rcases b.new c h with q | q
    · exact a.new c q
    · by_cases n : F1 c
      · exact .inl n
      · right
        cases e : H c with
        | none => rfl
        | some o => rw [a.keep c o n e] at q; cases q
theorem Stp.of_sm (a : Sm F H H') (h : ∀ b, F b → F1 b) : Stp F1 H F1 H' := ⟨fun b o n e => a b o (fun z => n (h b z)) e, fun _ z => .inl z⟩

theorem TupF.step {a : Addr} {xs : List V} (h : TupF K F1 H a xs) (s : Stp F1 H F2 H') : TupF K F2 H' a xs := by
  rcases h with ⟨n, h⟩ | h
  · refine .inl ⟨fun z => ?_, ?_⟩
    · rcases s.new a z with q | q
      · exact n q
      · rcases h with h | ⟨o, h⟩ <;> (rw [q] at h; cases h)
    · rcases h with h | ⟨o, h⟩
      · exact .inl (s.keep a _ n h)
      · exact .inr ⟨o, s.keep a _ n h⟩
  · exact .inr h
theorem LstF.step {a : Addr} {xs : List V} (h : LstF K F1 H a xs) (s : Stp F1 H F2 H') : LstF K F2 H' a xs := by
  obtain ⟨n, h⟩ := h
  refine ⟨fun z => ?_, ?_⟩
  · rcases s.new a z with q | q
    · exact n q
    · rcases h with h | ⟨o, h⟩ <;> (rw [q] at h; cases h)
  · rcases h with h | ⟨o, h⟩
    · exact .inl (s.keep a _ n h)
    · exact .inr ⟨o, s.keep a _ n h⟩
theorem ScrF.step {a : Addr} {xs : List V} (h : ScrF K F1 H a xs) (s : Stp F1 H F2 H') : ScrF K F2 H' a xs := by
  rcases h with h | h
  · exact .inl (LstF.step (K := K) h s)
  · exact .inr h
theorem nstep {a : Addr} {o : HO} (s : Stp F1 H F2 H') (n : ¬ F1 a) (e : H a = some o) : ¬ F2 a := fun z => by
  rcases s.new a z with q | q
  · exact n q
  · rw [q] at e; cases e
mutual
theorem Rep.step (s : Stp F1 H F2 H') : ∀ {v : V} {d : D}, Rep K F1 H v d → Rep K F2 H' v d
  | _, _, .non => .non
  | _, _, .bl b => .bl b
  | _, _, .int i => .int i
  | _, _, .str x => .str x
  | _, _, .tup h r => .tup (h.step s) (Reps.step s r)
  | _, _, .lst h r => .lst (h.step s) (Reps.step s r)
  | _, _, .dK n e r => .dK (nstep s n e) (s.keep _ _ n e) (Reps.step s r)
  | _, _, .dX n ne e ox kt r => .dX (nstep s n e) ne (s.keep _ _ n e) ox (fun p hp => (kt p hp).step s) (Reps.step s r)
  | _, _, .obj n e r => .obj (nstep s n e) (s.keep _ _ n e) (Reps.step s r)
  | _, _, .at a => .at a
  | _, _, .ty n => .ty n
  | _, _, .cls C => .cls C
  | _, _, .scr h => .scr (h.step s)
theorem Reps.step (s : Stp F1 H F2 H') : ∀ {vs : List V} {ds : List D}, Reps K F1 H vs ds → Reps K F2 H' vs ds
  | _, _, .nil => .nil
  | _, _, .cons r t => .cons (Rep.step s r) (Reps.step s t)
end
theorem Stp.less (h : ∀ b, F2 b → F1 b) : Stp F1 H F2 H := ⟨fun _ _ _ e => e, fun b z => .inl (h b z)⟩
theorem Rep.anti {v : V} {d : D} (r : Rep K F1 H v d) (h : ∀ b, F2 b → F1 b) : Rep K F2 H v d := Rep.step (Stp.less h) r
theorem Reps.anti {v : List V} {d : List D} (r : Reps K F1 H v d) (h : ∀ b, F2 b → F1 b) : Reps K F2 H v d := Reps.step (Stp.less h) r
theorem Rep.same {v : V} {d : D} (r : Rep K F H v d) (s : Sm F H H') : Rep K F H' v d := Rep.step ⟨s, fun _ z => .inl z⟩ r
theorem Reps.same {v : List V} {d : List D} (r : Reps K F H v d) (s : Sm F H H') : Reps K F H' v d := Reps.step ⟨s, fun _ z => .inl z⟩ r

inductive DOb (K : Fg) (F : Fp) (H : Hp) (a : Addr) : HO → List D → List D → Prop
  | k {kvs : List (Key × V)} {ds : List D} : Reps K F H (kvs.map (·.2)) ds → DOb K F H a (.dK kvs) (kvs.map fun p => keyD p.1) ds
  | x {o : Obj} {es : List EX} {ds : List D} : es ≠ [] → OX a o es → (∀ p ∈ es, TupF K F H p.2.1 (p.1.map V.int)) → Reps K F H (es.map (·.2.2)) ds → DOb K F H a (exo a o) (es.map fun p => .tup (p.1.map D.int)) ds
theorem DOb.step {u : HO} {a : Addr} {ks ds : List D} (s : Stp F1 H F2 H') (r : DOb K F1 H a u ks ds) : DOb K F2 H' a u ks ds := by
  cases r with
  | k r => exact .k (r.step s)
  | x n ox kt r => exact .x n ox (fun p hp => (kt p hp).step s) (r.step s)
theorem DOb.anti {u : HO} {a : Addr} {ks ds : List D} (r : DOb K F1 H a u ks ds) (h : ∀ b, F2 b → F1 b) : DOb K F2 H a u ks ds := r.step (Stp.less h)
theorem DOb.same {u : HO} {a : Addr} {ks ds : List D} (r : DOb K F H a u ks ds) (s : Sm F H H') : DOb K F H' a u ks ds := r.step ⟨s, fun _ z => .inl z⟩
theorem DOb.rep {u : HO} {ks ds : List D} {a : Addr} (r : DOb K F H a u ks ds) (n : ¬ F a) (e : H a = some u) : Rep K F H (.ref a) (.dct ks ds) := by
  cases r with
  | k r => exact .dK n e r
  | x ne ox kt r => exact .dX n ne e ox kt r
inductive RepW (K : Fg) (F0 F : Fp) (H : Hp) : V → D → Prop
  | of {v : V} {d : D} : Rep K F H v d → RepW K F0 F H v d
  | dct {a : Addr} {u : HO} {ks ds : List D} : ¬ F0 a → H a = some u → DOb K F H a u ks ds → RepW K F0 F H (.ref a) (.dct ks ds)
  | lst {a : Addr} {vs : List V} {ds : List D} : LstF K F0 H a vs → Reps K F H vs ds → RepW K F0 F H (.ref a) (.lst ds)
inductive RepsW (K : Fg) (F0 F : Fp) (H : Hp) : List V → List D → Prop
  | nil : RepsW K F0 F H [] []
  | cons {v : V} {vs : List V} {d : D} {ds : List D} : RepW K F0 F H v d → RepsW K F0 F H vs ds → RepsW K F0 F H (v :: vs) (d :: ds)
section
variable {F0 : Fp}
theorem RepW.lstOf {v : V} {ds : List D} (r : RepW K F0 F H v (.lst ds)) : ∃ a vs, v = .ref a ∧ LsR K H a vs ∧ Reps K F H vs ds := by
  cases r with
  | of r => cases r with | lst h r => exact ⟨_, _, rfl, h.ls, r⟩
  | lst h r => exact ⟨_, _, rfl, h.ls, r⟩
theorem RepW.tupOf {v : V} {ds : List D} (r : RepW K F0 F H v (.tup ds)) : ∃ a vs, v = .ref a ∧ TupF K F H a vs ∧ Reps K F H vs ds := by
  cases r with
  | of r => cases r with | tup h r => exact ⟨_, _, rfl, h, r⟩
theorem RepW.scrOf {v : V} {ns : List Int} (r : RepW K F0 F H v (.scr ns)) : ∃ a, v = .ref a ∧ ScrF K F H a (ns.map V.int) := by
  cases r with
  | of r => cases r with | scr h => exact ⟨_, rfl, h⟩
theorem RepW.intOf {v : V} {i : Int} (r : RepW K F0 F H v (.int i)) : v = .int i := by
  cases r with | of r => cases r; rfl
theorem RepW.blOf {v : V} {i : Bool} (r : RepW K F0 F H v (.bl i)) : v = .bl i := by
  cases r with | of r => cases r; rfl
theorem RepW.strOf {v : V} {i : Str} (r : RepW K F0 F H v (.str i)) : v = .str i := by
  cases r with | of r => cases r; rfl
theorem RepW.nonOf {v : V} (r : RepW K F0 F H v .non) : v = .non := by
  cases r with | of r => cases r; rfl
theorem RepW.same {v : V} {d : D} (r : RepW K F0 F H v d) (s : Sm F0 H H') (h : ∀ b, F0 b → F b) : RepW K F0 F H' v d := by
  cases r with
  | of r => exact .of (r.same (s.mono h))
  | lst q r => exact .lst (q.step ⟨s, fun _ z => .inl z⟩) (r.same (s.mono h))
  | dct n e r => exact .dct n (s _ _ n e) (r.same (s.mono h))
theorem RepsW.same : ∀ {v : List V} {d : List D}, RepsW K F0 F H v d → Sm F0 H H' → (∀ b, F0 b → F b) → RepsW K F0 F H' v d
  | _, _, .nil, _, _ => .nil
  | _, _, .cons r t, s, h => .cons (r.same s h) (RepsW.same t s h)
theorem Reps.weak : ∀ {v : List V} {d : List D}, Reps K F H v d → RepsW K F0 F H v d
  | _, _, .nil => .nil
  | _, _, .cons r t => .cons (.of r) (Reps.weak t)
theorem RepW.lend {v : V} {d : D} (r : RepW K F0 F H v d) (h : ∀ b, F0 b → F b) : Rep K F0 H v d := by
  cases r with
  | of r => exact r.anti h
  | lst q r => exact .lst q (Reps.anti r h)
  | dct n e r => exact (r.anti h).rep n e
theorem RepsW.lend : ∀ {v : List V} {d : List D}, RepsW K F0 F H v d → (∀ b, F0 b → F b) → Reps K F0 H v d
  | _, _, .nil, _ => .nil
  | _, _, .cons r t, h => .cons (r.lend h) (RepsW.lend t h)
theorem RepsW.one {vs : List V} {d : D} (r : RepsW K F0 F H vs [d]) : ∃ v, vs = [v] ∧ RepW K F0 F H v d := by
  cases r with | cons r t => cases t; exact ⟨_, rfl, r⟩
theorem RepsW.two {vs : List V} {d e : D} (r : RepsW K F0 F H vs [d, e]) : ∃ v w, vs = [v, w] ∧ RepW K F0 F H v d ∧ RepW K F0 F H w e := by
  cases r with | cons r t => cases t with | cons r2 t => cases t; exact ⟨_, _, rfl, r, r2⟩
end
end

abbrev Fds := Option (List Str × List D)
inductive Res (τ α : Type) where
  | ok (a : α) (t : τ) | ex (n : Str) (fs : Fds) (t : τ) | bad
def Res.bind {τ α β : Type} (r : Res τ α) (k : α → τ → Res τ β) : Res τ β := match r with
  | .ok a t => k a t
  | .ex n fs t => .ex n fs t
  | .bad => .bad
@[simp] theorem Res.bind_ok {τ α β : Type} (a : α) (t : τ) (k : α → τ → Res τ β) : (Res.ok a t).bind k = k a t := rfl
@[simp] theorem Res.bind_ex {τ α β : Type} (n : Str) (fs : Fds) (t : τ) (k : α → τ → Res τ β) : (Res.ex n fs t : Res τ α).bind k = .ex n fs t := rfl
@[simp] theorem Res.bind_bad {τ α β : Type} (k : α → τ → Res τ β) : (Res.bad : Res τ α).bind k = .bad := rfl
def opt {τ α : Type} (o : Option α) (t : τ) : Res τ α := match o with
  | some a => .ok a t
  | none => .bad
@[simp] theorem opt_some {τ α : Type} (a : α) (t : τ) : opt (some a) t = Res.ok a t := rfl
@[simp] theorem opt_none {τ α : Type} (t : τ) : (opt none t : Res τ α) = .bad := rfl

inductive Slot where
  | no | val (d : D) | own (xs : List D) | dct (ks xs : List D)
def Slot.mine : Slot → Bool
  | .own _ => true
  | .dct .. => true
  | _ => false
inductive OwnR (K : Fg) (F : Fp) (H : Hp) (a : Addr) : HO → Slot → Prop
  | lst {vs : List V} {xs : List D} : Reps K F H vs xs → OwnR K F H a (.lst vs) (.own xs)
  | dct {u : HO} {ks xs : List D} : DOb K F H a u ks xs → OwnR K F H a u (.dct ks xs)
theorem OwnR.step {K : Fg} {F1 F2 : Fp} {H H' : Hp} {a : Addr} {u : HO} {x : Slot} (r : OwnR K F1 H a u x) (s : Stp F1 H F2 H') : OwnR K F2 H' a u x := by
  cases r with
  | lst r => exact .lst (r.step s)
  | dct r => exact .dct (r.step s)
theorem OwnR.anti {K : Fg} {F1 F2 : Fp} {H : Hp} {a : Addr} {u : HO} {x : Slot} (r : OwnR K F1 H a u x) (h : ∀ b, F2 b → F1 b) : OwnR K F2 H a u x := r.step (Stp.less h)
theorem OwnR.same {K : Fg} {F : Fp} {H H' : Hp} {a : Addr} {u : HO} {x : Slot} (r : OwnR K F H a u x) (s : Sm F H H') : OwnR K F H' a u x := r.step ⟨s, fun _ z => .inl z⟩
abbrev Rho := List Slot
inductive Fl (τ : Type) where
  | nx (ρ : Rho) (t : τ) | rt (d : D) (t : τ) | bk (ρ : Rho) (t : τ) | ct (ρ : Rho) (t : τ) | ex (n : Str) (fs : Fds) (ρ : Rho) (t : τ) | bad

def XRep (K : Fg) (F : Fp) (H : Hp) (n : Str) (fs : Fds) (cls : Value) (dd : Option Addr) : Prop :=
  cls = .ref (He.ga K n) ∧ match fs with
    | none => dd = none
    | some (ns, ds) => ∃ a vs, dd = some a ∧ H a = some (.xd (ns.zip vs)) ∧ vs.length = ns.length ∧ Reps K F H vs ds
theorem XRep.anti {K : Fg} {F F' : Fp} {H : Hp} {n : Str} {fs : Fds} {cls : Value} {dd : Option Addr} (x : XRep K F H n fs cls dd) (h : ∀ b, F' b → F b) : XRep K F' H n fs cls dd := by
  obtain ⟨e, x⟩ := x
  refine ⟨e, ?_⟩
  cases fs with
  | none => exact x
  | some p =>
    obtain ⟨ns, ds⟩ := p
    obtain ⟨a, vs, h1, h2, h3, h4⟩ := x
    exact ⟨a, vs, h1, h2, h3, h4.anti h⟩

structure SC (τ : Type) where
  F : Fp
  Iv : τ → Fp → Hp → Prop
  dom : ∀ t G H b, Iv t G H → F b → H b ≠ none
  step : ∀ t G H G' H', Iv t G H → (∀ b o, F b → H b = some o → H' b = some o) → Stp G H G' H' → Iv t G' H'
theorem SC.stay {τ : Type} (C : SC τ) {t : τ} {G : Fp} {H H' : Hp} (i : C.Iv t G H) (s : Same H H') : C.Iv t G H' := C.step t G H G H' i (fun b o _ e => s b o e) ⟨fun b o _ e => s b o e, fun _ h => .inl h⟩
theorem SC.less {τ : Type} (C : SC τ) {t : τ} {G G' : Fp} {H : Hp} (i : C.Iv t G H) (h : ∀ b, G' b → G b) : C.Iv t G' H := C.step t G H G' H i (fun _ _ _ e => e) (Stp.less h)

def SC.cmp {τ : Type} (C : SC τ) (D0 : Addr) (u : HO) : SC τ where
  F := fun b => C.F b ∨ b = D0
  Iv := fun t G H => C.Iv t G H ∧ H D0 = some u
  dom := fun t G H b h1 h2 => by
    rcases h2 with h2 | h2
    · exact C.dom t G H b h1.1 h2
    · rw [h2, h1.2]; intro z; cases z
  step := fun t G H G' H' h1 h2 s => ⟨C.step t G H G' H' h1.1 (fun b o q e => h2 b o (.inl q) e) s, h2 _ _ (.inr rfl) h1.2⟩
def SC.ov {τ : Type} (C : SC τ) (F : Fp) (H1 : Hp) (hF : ∀ b, C.F b → F b) (dm : ∀ b, F b → H1 b ≠ none) : SC τ where
  F := F
  Iv := fun t G H' => C.Iv t G H' ∧ Stp F H1 G H' ∧ ∀ b o, F b → ¬ C.F b → H1 b = some o → H' b = some o
  dom := fun t G H' b h hb => by
    by_cases q : C.F b
    · exact C.dom t G H' b h.1 q
    · cases e : H1 b with
      | none => exact absurd e (dm b hb)
      | some o => rw [h.2.2 b o hb q e]; intro z; cases z
  step := fun t G H G' H' h1 h2 s => ⟨C.step t G H G' H' h1.1 (fun b o h e => h2 b o (hF b h) e) s, h1.2.1.trans s, fun b o hb n e => h2 b o hb (h1.2.2 b o hb n e)⟩
def SC.lend {τ : Type} (C : SC τ) (O : Fp) (H1 : Hp) (hO : ∀ b, O b → ¬ C.F b) (dm : ∀ b, O b → H1 b ≠ none) : SC τ where
  F := C.F
  Iv := fun t G H => C.Iv t (fun b => G b ∨ O b) H ∧ (∀ b, O b → ¬ G b) ∧ ∀ b o, O b → H1 b = some o → H b = some o
  dom := fun t G H b h hb => C.dom t _ H b h.1 hb
  step := fun t G H G' H' h1 h2 s => by
    have nn : ∀ b, O b → H b ≠ none := fun b hb => by
      cases e : H1 b with
      | none => exact absurd e (dm b hb)
      | some o => rw [h1.2.2 b o hb e]; intro z; cases z
    refine ⟨C.step t _ H _ H' h1.1 h2 ⟨fun b o n e => s.keep b o (fun z => n (.inl z)) e, fun b h => h.elim (fun z => (s.new b z).elim (fun z => .inl (.inl z)) .inr) fun z => .inl (.inr z)⟩, fun b hb hg => ?_, fun b o hb e => ?_⟩
    · rcases s.new b hg with q | q
      · exact h1.2.1 b hb q
      · exact nn b hb q
    · exact s.keep b o (h1.2.1 b hb) (h1.2.2 b o hb e)
class Sto (τ : Type) where
  ok : Fg → SC τ → Prop
  cmp : ∀ K C D0 u, ¬ C.F D0 → ok K C → ok K (SC.cmp C D0 u)
  ov : ∀ K C F H1 hF dm, ok K C → ok K (SC.ov C F H1 hF dm)
  lend : ∀ K C O H1 hO dm, ok K C → ok K (SC.lend C O H1 hO dm)
instance : Sto Unit := ⟨fun _ _ => True, fun _ _ _ _ _ _ => trivial, fun _ _ _ _ _ _ _ => trivial, fun _ _ _ _ _ _ _ => trivial⟩

def Fo (F : Fp) (ρ : Rho) (σ : St) : Fp := fun b => F b ∨ ∃ (i : Nat) (x : Slot), (ρ[i]? = some x ∧ x.mine = true) ∧ σ[i]? = some (some (.ref b))

structure At {τ : Type} [Sto τ] (K : Fg) (C : SC τ) (ρ : Rho) (t : τ) (σ : St) (H : Hp) : Prop where
  okC : Sto.ok K C
  st : C.Iv t (Fo C.F ρ σ) H
  len : σ.length = ρ.length
  val : ∀ (i : Nat) (d : D), ρ[i]? = some (.val d) → ∃ v, σ[i]? = some (some v) ∧ Rep K (Fo C.F ρ σ) H v d
  mine : ∀ (i : Nat) (x : Slot), (ρ[i]? = some x ∧ x.mine = true) → ∃ (a : Addr) (u : HO), σ[i]? = some (some (.ref a)) ∧ ¬ C.F a ∧ H a = some u ∧ OwnR K (Fo C.F ρ σ) H a u x
  dis : ∀ (i j : Nat) (x y : Slot), (ρ[i]? = some x ∧ x.mine = true) → (ρ[j]? = some y ∧ y.mine = true) → σ[i]? = σ[j]? → i = j

section
variable {τ : Type} [Sto τ] {K : Fg} {C : SC τ} {ρ : Rho} {t t' : τ} {σ : St} {H H' H1 : Hp}
theorem At.dom (A : At K C ρ t σ H) : ∀ b, Fo C.F ρ σ b → H b ≠ none := fun b h => by
  rcases h with h | ⟨i, xs, h1, h2⟩
  · exact C.dom _ _ _ _ A.st h
  · obtain ⟨a, vs, e, _, q, _⟩ := A.mine i xs h1
    rw [e] at h2
    cases h2
    rw [q]
    intro z; cases z
theorem At.own (A : At K C ρ t σ H) (i : Nat) (xs : List D) (e : ρ[i]? = some (.own xs)) : ∃ (a : Addr) (vs : List V), σ[i]? = some (some (.ref a)) ∧ ¬ C.F a ∧ H a = some (.lst vs) ∧ Reps K (Fo C.F ρ σ) H vs xs := by
  obtain ⟨a, u, h1, h2, h3, h4⟩ := A.mine i _ ⟨e, rfl⟩
  cases h4 with
  | lst r => exact ⟨a, _, h1, h2, h3, r⟩
theorem At.dct (A : At K C ρ t σ H) (i : Nat) (ks xs : List D) (e : ρ[i]? = some (.dct ks xs)) : ∃ (a : Addr) (u : HO), σ[i]? = some (some (.ref a)) ∧ ¬ C.F a ∧ H a = some u ∧ DOb K (Fo C.F ρ σ) H a u ks xs := by
  obtain ⟨a, u, h1, h2, h3, h4⟩ := A.mine i _ ⟨e, rfl⟩
  cases h4 with
  | dct r => exact ⟨a, _, h1, h2, h3, r⟩
theorem Fo.base {F : Fp} {b : Addr} (h : F b) : Fo F ρ σ b := .inl h
theorem At.next (A : At K C ρ t σ H) (s : Sm C.F H H') (i : C.Iv t' (Fo C.F ρ σ) H') : At K C ρ t' σ H' where
  okC := A.okC
  st := i
  len := A.len
  val := fun i d e => by
    obtain ⟨v, h1, h2⟩ := A.val i d e
    exact ⟨v, h1, h2.same (s.mono fun _ z => .inl z)⟩
  mine := fun i xs e => by
    obtain ⟨a, vs, h1, h2, h3, h4⟩ := A.mine i xs e
    exact ⟨a, vs, h1, h2, s _ _ h2 h3, h4.same (s.mono fun _ z => .inl z)⟩
  dis := A.dis
end

section
variable {τ : Type} [Sto τ] {α β : Type}
abbrev Rel (β α : Type) := Fg → (Fp → Hp → Prop) → Fp → Fp → Hp → Hp → β → α → Prop
structure RelOk (R : Rel β α) : Prop where
  base : ∀ K I F0 F H H1 H' v d, Sm F H H1 → R K I F0 F H1 H' v d → R K I F0 F H H' v d
def Post (R : Rel β α) (K : Fg) (W : WX) (C : SC τ) (F : Fp) (σ : St) (H : Hp) (r : Res τ α) (Q : β → Hp → Prop) : Prop := match r with
  | .ok d t' => ∀ v H', Sm C.F H H' → C.Iv t' F H' → R K (C.Iv t') C.F F H H' v d → Q v H'
  | .ex n fs t' => ∀ cls dd H', Sm C.F H H' → C.Iv t' F H' → XRep K F H' n fs cls dd → W cls dd σ H'
  | .bad => False
def tG (R : Rel β α) (K : Fg) (W : WX) (m : Rho → τ → Res τ α) : St → Hp → (β → Hp → Prop) → Prop := fun σ H Q =>
  ∃ (C : SC τ) (ρ : Rho) (t : τ), At K C ρ t σ H ∧ Post R K W C (Fo C.F ρ σ) σ H (m ρ t) Q
variable {R : Rel β α} {K : Fg} {W : WX} {C : SC τ} {F : Fp} {σ : St} {H H1 : Hp} {ρ : Rho} {t : τ} {Q Q' : β → Hp → Prop}
theorem Post.rebase (ok : RelOk R) {r : Res τ α} (h : Post R K W C F σ H r Q) (s : Sm C.F H H1) (hF : ∀ b, C.F b → F b) : Post R K W C F σ H1 r Q := by
  cases r with
  | ok d t' => exact fun v H' s' i r => h v H' (s.trans s') i (ok.base _ _ _ _ _ _ _ _ _ (s.mono hF) r)
  | ex n fs t' => exact fun cls dd H' s' i x => h cls dd H' (s.trans s') i x
  | bad => exact h
theorem use {γ δ : Type} {R2 : Rel δ γ} {ma : Rho → τ → Res τ α} {k : α → τ → Res τ γ} {Qd : δ → Hp → Prop} (ok2 : RelOk R2) (A : At K C ρ t σ H) (h : Post R2 K W C (Fo C.F ρ σ) σ H ((ma ρ t).bind k) Qd)
    (hk : ∀ d t1 v H1, ma ρ t = .ok d t1 → Sm C.F H H1 → At K C ρ t1 σ H1 → R K (C.Iv t1) C.F (Fo C.F ρ σ) H H1 v d → Post R2 K W C (Fo C.F ρ σ) σ H1 (k d t1) Qd → Q v H1) : tG R K W ma σ H Q := by
  refine ⟨C, ρ, t, A, ?_⟩
  cases e : ma ρ t with
  | ok d t1 =>
    rw [e] at h
    exact fun v H1 s i r => hk d t1 v H1 e s (A.next s i) r (Post.rebase ok2 h s fun _ z => .inl z)
  | ex n fs t1 =>
    rw [e] at h
    exact h
  | bad =>
    rw [e] at h
    exact h
end

def rE : Rel V D := fun K _ _ F _ H' v d => Rep K F H' v d
def rW : Rel V D := fun K _ F0 F _ H' v d => RepW K F0 F H' v d
def rB : Rel Bool Bool := fun _ _ _ _ _ _ v d => v = d
def rA : Rel (List V) (List D) := fun K _ _ F _ H' v d => Reps K F H' v d
def rAW : Rel (List V) (List D) := fun K _ F0 F _ H' v d => RepsW K F0 F H' v d
def rF : Rel V (List D) := fun K I _ F H H' v ds => ∃ a vs, v = .ref a ∧ ¬ F a ∧ H a = none ∧ H' a = some (.lst vs) ∧ Reps K (fun b => F b ∨ b = a) H' vs ds ∧ I (fun b => F b ∨ b = a) H'
theorem okE : RelOk rE := ⟨fun _ _ _ _ _ _ _ _ _ _ h => h⟩
theorem okB : RelOk rB := ⟨fun _ _ _ _ _ _ _ _ _ _ h => h⟩
theorem okA : RelOk rA := ⟨fun _ _ _ _ _ _ _ _ _ _ h => h⟩
theorem okAW : RelOk rAW := ⟨fun _ _ _ _ _ _ _ _ _ _ h => h⟩
theorem okF : RelOk rF := ⟨fun K I F0 F H H1 H' v d s h => by
  obtain ⟨a, vs, e, n, q, r⟩ := h
  refine ⟨a, vs, e, n, ?_, r⟩
  cases z : H a with
  | none => rfl
  | some o => rw [s a o n z] at q; cases q⟩
abbrev tE {τ : Type} [Sto τ] (K : Fg) (W : WX) (m : Rho → τ → Res τ D) : TE := tG rE K W m
abbrev tW {τ : Type} [Sto τ] (K : Fg) (W : WX) (m : Rho → τ → Res τ D) : TE := tG rW K W m
abbrev tF {τ : Type} [Sto τ] (K : Fg) (W : WX) (m : Rho → τ → Res τ (List D)) : TE := tG rF K W m
abbrev tT {τ : Type} [Sto τ] (K : Fg) (W : WX) (m : Rho → τ → Res τ Bool) : TT := tG rB K W m
abbrev tAW {τ : Type} [Sto τ] (K : Fg) (W : WX) (m : Rho → τ → Res τ (List D)) : TA := tG rAW K W m
abbrev tA {τ : Type} [Sto τ] (K : Fg) (W : WX) (m : Rho → τ → Res τ (List D)) : TA := tG rA K W m

theorem PE.imp {X : Cx} {e : Expr} {t t' : TE} (h : PE X e t) (i : ∀ σ H Q, t' σ H Q → t σ H Q) : PE X e t' := ⟨fun pins s σ H Q I q => h.run pins s σ H Q I (i σ H Q q)⟩
theorem PT.imp {X : Cx} {e : Expr} {t t' : TT} (h : PT X e t) (i : ∀ σ H Q, t' σ H Q → t σ H Q) : PT X e t' := ⟨fun pins s σ H Q I q => h.run pins s σ H Q I (i σ H Q q)⟩
theorem PA.imp {X : Cx} {e : List Expr} {t t' : TA} (h : PA X e t) (i : ∀ σ H Q, t' σ H Q → t σ H Q) : PA X e t' := ⟨fun pos pins s σ H Q I q => h.run pos pins s σ H Q I (i σ H Q q)⟩
theorem PW.imp {X : Cx} {e : Expr} {t t' : TT} (h : PW X e t) (i : ∀ σ H Q, t' σ H Q → t σ H Q) : PW X e t' := ⟨fun wh pins s σ H Q I q => h.run wh pins s σ H Q I (i σ H Q q)⟩
theorem PS.imp {X : Cx} {e : Stmt} {t t' : TS} (h : PS X e t) (i : ∀ D σ H, t' D σ H → t D σ H) : PS X e t' := ⟨fun pins s σ H D I q => h.run pins s σ H D I (i D σ H q)⟩
theorem PSs.imp {X : Cx} {e : List Stmt} {t t' : TS} (h : PSs X e t) (i : ∀ D σ H, t' D σ H → t D σ H) : PSs X e t' := ⟨fun pins s σ H D I q => h.run pins s σ H D I (i D σ H q)⟩

section
variable {τ : Type} [Sto τ]
def SPost (K : Fg) (W : WX) (C : SC τ) (F1 : Fp) (H : Hp) (r : Fl τ) (E : Ends) : Prop := match r with
  | .nx ρ' t' => ∀ σ' H', Stp F1 H (Fo C.F ρ' σ') H' → At K C ρ' t' σ' H' → E.nx σ' H'
  | .bk ρ' t' => ∀ σ' H', Stp F1 H (Fo C.F ρ' σ') H' → At K C ρ' t' σ' H' → E.bk σ' H'
  | .ct ρ' t' => ∀ σ' H', Stp F1 H (Fo C.F ρ' σ') H' → At K C ρ' t' σ' H' → E.ct σ' H'
  | .rt d t' => ∀ v H', Sm F1 H H' → C.Iv t' C.F H' → Rep K C.F H' v d → E.rt v H'
  | .ex n fs ρ' t' => ∀ cls dd σ' H', Stp F1 H (Fo C.F ρ' σ') H' → At K C ρ' t' σ' H' → XRep K (Fo C.F ρ' σ') H' n fs cls dd → W cls dd σ' H'
  | .bad => False
def tS (K : Fg) (W : WX) (m : Rho → τ → Fl τ) : TS := fun E σ H => ∃ (C : SC τ) (ρ : Rho) (t : τ), At K C ρ t σ H ∧ SPost K W C (Fo C.F ρ σ) H (m ρ t) E
variable {K : Fg} {W : WX} {C : SC τ} {F1 F2 : Fp} {H H1 : Hp}
theorem SPost.rebase {r : Fl τ} {E : Ends} (h : SPost K W C F1 H r E) (s : Stp F1 H F2 H1) : SPost K W C F2 H1 r E := by
  cases r with
  | nx ρ' t' => exact fun σ' H' s' a => h σ' H' (s.trans s') a
  | bk ρ' t' => exact fun σ' H' s' a => h σ' H' (s.trans s') a
  | ct ρ' t' => exact fun σ' H' s' a => h σ' H' (s.trans s') a
  | rt d t' => exact fun v H' s' i r => h v H' (fun b o n e => s' b o (fun z => by rcases s.new b z with q | q; exact n q; rw [q] at e; cases e) (s.keep b o n e)) i r
  | ex n fs ρ' t' => exact fun cls dd σ' H' s' a x => h cls dd σ' H' (s.trans s') a x
  | bad => exact h
end
end MM

namespace MM
open PySem PySem.Spec PyProof.Rows L2
section
variable {X : Cx} {W : WX} {τ : Type} [Sto τ] {K : Fg}
abbrev ME (τ α : Type) := Rho → τ → Res τ α

def eVar (i : Nat) : ME τ D := fun ρ t => match ρ[i]? with
  | some (.val d) => .ok d t
  | _ => .bad
theorem me_var {i : Nat} {e : Expr} (h : PE X e (tVar i)) : PE X e (tE X.K W (eVar (τ := τ) i)) := PE.imp h fun σ H Q ⟨C, ρ, t, A, p⟩ => by
  unfold eVar at p
  cases e : ρ[i]? with
  | none => rw [e] at p; exact p.elim
  | some s => cases s with
    | no => rw [e] at p; exact p.elim
    | own xs => rw [e] at p; exact p.elim
    | dct ks xs => rw [e] at p; exact p.elim
    | val d =>
      rw [e] at p
      obtain ⟨v, h1, h2⟩ := A.val i d e
      exact ⟨v, h1, p v H (Sm.refl _ _) A.st h2⟩
def eVarW (i : Nat) : ME τ D := fun ρ t => match ρ[i]? with
  | some (.val d) => .ok d t
  | some (.own xs) => .ok (.lst xs) t
  | some (.dct ks xs) => .ok (.dct ks xs) t
  | _ => .bad
theorem me_varW {i : Nat} {e : Expr} (h : PE X e (tVar i)) : PE X e (tW X.K W (eVarW (τ := τ) i)) := PE.imp h fun σ H Q ⟨C, ρ, t, A, p⟩ => by
  unfold eVarW at p
  cases e : ρ[i]? with
  | none => rw [e] at p; exact p.elim
  | some s => cases s with
    | no => rw [e] at p; exact p.elim
    | own xs =>
      rw [e] at p
      obtain ⟨a, vs, h1, h2, h3, h4⟩ := A.own i xs e
      exact ⟨.ref a, h1, p _ H (Sm.refl _ _) A.st (.lst ⟨h2, .inl h3⟩ h4)⟩
    | dct ks xs =>
      rw [e] at p
      obtain ⟨a, u, h1, h2, h3, h4⟩ := A.dct i ks xs e
      exact ⟨.ref a, h1, p _ H (Sm.refl _ _) A.st (.dct h2 h3 h4)⟩
    | val d =>
      rw [e] at p
      obtain ⟨v, h1, h2⟩ := A.val i d e
      exact ⟨v, h1, p v H (Sm.refl _ _) A.st (.of h2)⟩
theorem weak {e : Expr} {m : ME τ D} (h : PE X e (tE K W m)) : PE X e (tW K W m) := PE.imp h fun σ H Q ⟨C, ρ, t, A, p⟩ => by
  refine ⟨C, ρ, t, A, ?_⟩
  cases e : m ρ t with
  | ok d t' => rw [e] at p; exact fun v H' s i r => p v H' s i (.of r)
  | ex n fs t' => rw [e] at p; exact p
  | bad => rw [e] at p; exact p
def eC (d : D) : ME τ D := fun _ t => .ok d t
theorem me_c {e : Expr} {v : V} {d : D} (h : PE X e (tC v)) (r : ∀ F H, Rep X.K F H v d) : PE X e (tE X.K W (eC (τ := τ) d)) := PE.imp h fun σ H Q ⟨C, ρ, t, A, p⟩ => p v H (Sm.refl _ _) A.st (r _ _)
theorem me_int {i j pos} : PE X (.Constant (.int i) j pos) (tE X.K W (eC (τ := τ) (.int i))) := me_c pe_int fun _ _ => .int i
theorem me_bl {i j pos} : PE X (.Constant (.bool i) j pos) (tE X.K W (eC (τ := τ) (.bl i))) := me_c pe_bl fun _ _ => .bl i
theorem me_str {i j pos} : PE X (.Constant (.str i) j pos) (tE X.K W (eC (τ := τ) (.str i))) := me_c pe_str fun _ _ => .str i
theorem me_non {j pos} : PE X (.Constant .none j pos) (tE X.K W (eC (τ := τ) .non)) := me_c pe_non fun _ _ => .non

def e1 {α β : Type} (f : α → Option β) (a : ME τ α) : ME τ β := fun ρ t => (a ρ t).bind fun d t => opt (f d) t
def e2 {α β γ : Type} (f : α → β → Option γ) (a : ME τ α) (b : ME τ β) : ME τ γ := fun ρ t => (a ρ t).bind fun d t => (b ρ t).bind fun e t => opt (f d e) t
abbrev Dom (F : Fp) (H : Hp) : Prop := ∀ b, F b → H b ≠ none
def DOp2 (K : Fg) (r : R2) (f : D → D → Option D) : Prop := ∀ (F0 F : Fp) (H : Hp) (x y : V) (d e z : D) (Q : VK), Dom F H → RepW K F0 F H x d → RepW K F0 F H y e → f d e = some z →
  (∀ v H', Same H H' → Rep K F H' v z → Q v H') → r x y H Q
theorem run2 {a b : Expr} {r : R2} {f : D → D → Option D} {ma mb : ME τ D} {σ : L2.St} {H : Hp} {Q : VK} (hf : DOp2 K r f) (p : tE K W (e2 f ma mb) σ H Q) : tOp r (tW K W ma) (tW K W mb) σ H Q := by
  obtain ⟨C, ρ, t, A, p⟩ := p
  refine use okE A p fun d t1 v H1 e1 s1 A1 r1 p1 => ?_
  refine use okE A1 p1 fun d2 t2 v2 H2 e2 s2 A2 r2 p2 => ?_
  cases e : f d d2 with
  | none => rw [e] at p2; exact p2.elim
  | some z =>
    rw [e] at p2
    exact hf C.F _ H2 v v2 d d2 z Q A2.dom (r1.same s2 fun _ => Fo.base) r2 e fun v' H' sm rr => p2 v' H' (Sm.of_same sm) (C.stay A2.st sm) rr
theorem me_op2 {op : Operator} {a b : Expr} {r : R2} {f : D → D → Option D} {ma mb : ME τ D} {pos : Pos} (ho : OpR X (binaryOp op) r) (hf : DOp2 X.K r f) (ha : PE X a (tW X.K W ma)) (hb : PE X b (tW X.K W mb)) :
    PE X (.BinOp a op b pos) (tE X.K W (e2 f ma mb)) := PE.imp (pe_op ho ha hb) fun σ H Q p => run2 (a := a) (b := b) hf p
theorem me_cmp2 {op : CmpOp} {a b : Expr} {r : R2} {f : D → D → Option D} {ma mb : ME τ D} {pos : Pos} (ho : OpR X (compareOp op) r) (hf : DOp2 X.K r f) (ha : PE X a (tW X.K W ma)) (hb : PE X b (tW X.K W mb)) (hm : behindInMarks op b = false) :
    PE X (.Compare a [op] [b] pos) (tE X.K W (e2 f ma mb)) := PE.imp (pe_cmpR ho ha hb hm) fun σ H Q p => run2 (a := a) (b := b) hf p
theorem me_ix {a b : Expr} {r : R2} {f : D → D → Option D} {ma mb : ME τ D} {pos : Pos} (ho : IxR X r) (hf : DOp2 X.K r f) (ha : PE X a (tW X.K W ma)) (hb : PE X b (tW X.K W mb)) (hs : PlainIx b) :
    PE X (.Subscript a b pos) (tE X.K W (e2 f ma mb)) := PE.imp (pe_ix ho ha hb hs) fun σ H Q p => run2 (a := a) (b := b) hf p
def DOp1 (K : Fg) (r : V → Hp → VK → Prop) (f : D → Option D) : Prop := ∀ (F0 F : Fp) (H : Hp) (x : V) (d z : D) (Q : VK), Dom F H → RepW K F0 F H x d → f d = some z →
  (∀ v H', Same H H' → Rep K F H' v z → Q v H') → r x H Q
theorem me_un {op : UnaryOp} {a : Expr} {r : V → Hp → VK → Prop} {f : D → Option D} {ma : ME τ D} {pos : Pos} (ho : UnR X (unaryOp op) r) (hf : DOp1 X.K r f) (ha : PE X a (tW X.K W ma)) : PE X (.UnaryOp op a pos) (tE X.K W (e1 f ma)) :=
  PE.imp (pe_un ho ha) fun σ H Q ⟨C, ρ, t, A, p⟩ => by
    refine use okE A p fun d t1 v H1 e1 s1 A1 r1 p1 => ?_
    cases e : f d with
    | none => rw [e] at p1; exact p1.elim
    | some z =>
      rw [e] at p1
      exact hf C.F _ H1 v d z Q A1.dom r1 e fun v' H' sm rr => p1 v' H' (Sm.of_same sm) (C.stay A1.st sm) rr

def asB : D → Option Bool
  | .bl b => some b
  | _ => none
theorem mt_cmp2 {op : CmpOp} {a b : Expr} {r : R2} {f : D → D → Option D} {ma mb : ME τ D} {pos : Pos} (ho : OpR X (compareOp op) r) (hf : DOp2 X.K r f) (ha : PE X a (tW X.K W ma)) (hb : PE X b (tW X.K W mb)) (hm : behindInMarks op b = false) :
    PT X (.Compare a [op] [b] pos) (tT X.K W (e1 asB (e2 f ma mb))) := by
  refine PT.imp (pt_cmpR ho ha hb hm) fun σ H Q ⟨C, ρ, t, A, p⟩ => ?_
  refine run2 (a := a) (b := b) (K := X.K) (W := W) hf ?_
  refine use okB A p fun d t1 v H1 e1 s1 A1 r1 p1 => ?_
  cases d <;> first
    | exact p1.elim
    | (cases r1; exact ⟨_, rfl, p1 _ H1 (Sm.refl _ _) A1.st rfl⟩)
def tNot1 (a : ME τ Bool) : ME τ Bool := fun ρ t => (a ρ t).bind fun b t => .ok (!b) t
def tAnd2 (a b : ME τ Bool) : ME τ Bool := fun ρ t => (a ρ t).bind fun c t => if c = true then b ρ t else .ok false t
def tOr2 (a b : ME τ Bool) : ME τ Bool := fun ρ t => (a ρ t).bind fun c t => if c = true then .ok true t else b ρ t
theorem mt_not {a : Expr} {ma : ME τ Bool} {pos : Pos} (h : PT X a (tT X.K W ma)) : PT X (.UnaryOp .Not a pos) (tT X.K W (tNot1 ma)) := PT.imp (pt_not h) fun σ H Q ⟨C, ρ, t, A, p⟩ => by
  refine use okB A p fun d t1 v H1 e1 s1 A1 r1 p1 => ?_
  cases r1
  exact p1 _ H1 (Sm.refl _ _) A1.st rfl
theorem and_red {ta tb : ME τ Bool} {σ : L2.St} {H : Hp} {Q : Bool → Hp → Prop} (p : tT K W (tAnd2 ta tb) σ H Q) : tAnd (tT K W ta) (tT K W tb) σ H Q := by
  obtain ⟨C, ρ, t, A, p⟩ := p
  refine use okB A p fun d t1 v H1 e1 s1 A1 r1 p1 => ?_
  cases r1
  cases d with
  | true => exact ⟨C, ρ, t1, A1, p1⟩
  | false => exact p1 _ H1 (Sm.refl _ _) A1.st rfl
theorem or_red {ta tb : ME τ Bool} {σ : L2.St} {H : Hp} {Q : Bool → Hp → Prop} (p : tT K W (tOr2 ta tb) σ H Q) : tOr (tT K W ta) (tT K W tb) σ H Q := by
  obtain ⟨C, ρ, t, A, p⟩ := p
  refine use okB A p fun d t1 v H1 e1 s1 A1 r1 p1 => ?_
  cases r1
  cases d with
  | false => exact ⟨C, ρ, t1, A1, p1⟩
  | true => exact p1 _ H1 (Sm.refl _ _) A1.st rfl
theorem mw_and1 {a : Expr} {ma : ME τ Bool} {pos : Pos} (h : PT X a (tT X.K W ma)) : PW X (.BoolOp .And [a] pos) (tT X.K W ma) := pw_and1 h
theorem mw_or1 {a : Expr} {ma : ME τ Bool} {pos : Pos} (h : PT X a (tT X.K W ma)) : PW X (.BoolOp .Or [a] pos) (tT X.K W ma) := pw_or1 h
theorem mw_and {a b : Expr} {rest : List Expr} {ma mb : ME τ Bool} {pos : Pos} (h : PT X a (tT X.K W ma)) (h2 : PW X (.BoolOp .And (b :: rest) pos) (tT X.K W mb)) : PW X (.BoolOp .And (a :: b :: rest) pos) (tT X.K W (tAnd2 ma mb)) :=
  PW.imp (pw_and h h2) fun _ _ _ p => and_red p
theorem mw_or {a b : Expr} {rest : List Expr} {ma mb : ME τ Bool} {pos : Pos} (h : PT X a (tT X.K W ma)) (h2 : PW X (.BoolOp .Or (b :: rest) pos) (tT X.K W mb)) : PW X (.BoolOp .Or (a :: b :: rest) pos) (tT X.K W (tOr2 ma mb)) :=
  PW.imp (pw_or h h2) fun _ _ _ p => or_red p
def eAnd2 (a : ME τ D) (b : ME τ D) : ME τ D := fun ρ t => ((e1 asB a) ρ t).bind fun c t => if c = true then b ρ t else .ok (.bl false) t
def eOr2 (a : ME τ D) (b : ME τ D) : ME τ D := fun ρ t => ((e1 asB a) ρ t).bind fun c t => if c = true then .ok (.bl true) t else b ρ t
def eNot1 (a : ME τ D) : ME τ D := fun ρ t => ((e1 asB a) ρ t).bind fun c t => .ok (.bl (!c)) t
theorem Res.bind_assoc {α β γ : Type} (r : Res τ α) (f : α → τ → Res τ β) (g : β → τ → Res τ γ) : (r.bind f).bind g = r.bind fun a t => (f a t).bind g := by cases r <;> rfl
theorem me_one {op : BoolOp} {a : Expr} {ma : ME τ D} {pos : Pos} (h : PE X a (tE X.K W ma)) : PE X (.BoolOp op [a] pos) (tE X.K W ma) := pe_one h
theorem me_and {a b : Expr} {rest : List Expr} {ma mb : ME τ D} {pos : Pos} (h : PE X a (tE X.K W ma)) (h2 : PE X (.BoolOp .And (b :: rest) pos) (tE X.K W mb)) : PE X (.BoolOp .And (a :: b :: rest) pos) (tE X.K W (eAnd2 ma mb)) :=
  PE.imp (pe_and h h2) fun σ H Q ⟨C, ρ, t, A, p⟩ => by
    unfold eAnd2 MM.e1 at p
    rw [Res.bind_assoc] at p
    refine use okE A p fun d t1 v H1 e1 s1 A1 r1 p1 => ?_
    cases d <;> first
      | exact p1.elim
      | skip
    rename_i c
    cases r1
    refine ⟨c, rfl, ?_⟩
    cases c with
    | true => exact ⟨C, ρ, t1, A1, p1⟩
    | false => exact p1 _ H1 (Sm.refl _ _) A1.st (.bl false)
theorem me_or {a b : Expr} {rest : List Expr} {ma mb : ME τ D} {pos : Pos} (h : PE X a (tE X.K W ma)) (h2 : PE X (.BoolOp .Or (b :: rest) pos) (tE X.K W mb)) : PE X (.BoolOp .Or (a :: b :: rest) pos) (tE X.K W (eOr2 ma mb)) :=
  PE.imp (pe_or h h2) fun σ H Q ⟨C, ρ, t, A, p⟩ => by
    unfold eOr2 MM.e1 at p
    rw [Res.bind_assoc] at p
    refine use okE A p fun d t1 v H1 e1 s1 A1 r1 p1 => ?_
    cases d <;> first
      | exact p1.elim
      | skip
    rename_i c
    cases r1
    refine ⟨c, rfl, ?_⟩
    cases c with
    | false => exact ⟨C, ρ, t1, A1, p1⟩
    | true => exact p1 _ H1 (Sm.refl _ _) A1.st (.bl true)
theorem me_not {a : Expr} {ma : ME τ D} {pos : Pos} (h : PE X a (tE X.K W ma)) : PE X (.UnaryOp .Not a pos) (tE X.K W (eNot1 ma)) :=
  PE.imp (pe_not h) fun σ H Q ⟨C, ρ, t, A, p⟩ => by
    unfold eNot1 MM.e1 at p
    rw [Res.bind_assoc] at p
    refine use okE A p fun d t1 v H1 e1 s1 A1 r1 p1 => ?_
    cases d <;> first
      | exact p1.elim
      | skip
    rename_i c
    cases r1
    exact ⟨c, rfl, p1 _ H1 (Sm.refl _ _) A1.st (.bl _)⟩
def aNil {α : Type} : ME τ (List α) := fun _ t => .ok [] t
def aCons {α : Type} (a : ME τ α) (b : ME τ (List α)) : ME τ (List α) := fun ρ t => (a ρ t).bind fun d t => (b ρ t).bind fun ds t => .ok (d :: ds) t
theorem ma_nil : PA X [] (tA X.K W (aNil (τ := τ))) := PA.imp pa_nil fun σ H Q ⟨C, ρ, t, A, p⟩ => p [] H (Sm.refl _ _) A.st .nil
theorem ma_cons {e : Expr} {es : List Expr} {m : ME τ D} {ms : ME τ (List D)} (h : PE X e (tE X.K W m)) (hs : PA X es (tA X.K W ms)) (hst : starEach (e :: es) X.env = (false, eval e X.env) :: starEach es X.env := by rfl) : PA X (e :: es) (tA X.K W (aCons m ms)) :=
  PA.imp (pa_cons h hs hst) fun σ H Q ⟨C, ρ, t, A, p⟩ => by
    refine use okA A p fun d t1 v H1 e1 s1 A1 r1 p1 => ?_
    refine use okA A1 p1 fun d2 t2 v2 H2 e2 s2 A2 r2 p2 => ?_
    exact p2 _ H2 (Sm.refl _ _) A2.st (.cons (r1.same (s2.mono fun _ => Fo.base)) r2)
theorem maw_nil : PA X [] (tAW X.K W (aNil (τ := τ))) := PA.imp pa_nil fun σ H Q ⟨C, ρ, t, A, p⟩ => p [] H (Sm.refl _ _) A.st .nil
theorem maw_cons {e : Expr} {es : List Expr} {m : ME τ D} {ms : ME τ (List D)} (h : PE X e (tW X.K W m)) (hs : PA X es (tAW X.K W ms)) (hst : starEach (e :: es) X.env = (false, eval e X.env) :: starEach es X.env := by rfl) : PA X (e :: es) (tAW X.K W (aCons m ms)) :=
  PA.imp (pa_cons h hs hst) fun σ H Q ⟨C, ρ, t, A, p⟩ => by
    refine use okAW A p fun d t1 v H1 e1 s1 A1 r1 p1 => ?_
    refine use okAW A1 p1 fun d2 t2 v2 H2 e2 s2 A2 r2 p2 => ?_
    exact p2 _ H2 (Sm.refl _ _) A2.st (.cons (r1.same s2 fun _ => Fo.base) r2)
def lim {α : Type} (ds : List α) : Option (List α) := if ds.length ≤ 16777216 then some ds else none
theorem lim_le {α : Type} {ds es : List α} (h : lim ds = some es) : es = ds ∧ ds.length ≤ sizeLine := by
  unfold lim at h
  split at h
  · cases h; exact ⟨rfl, by assumption⟩
  · cases h
def eTup (a : ME τ (List D)) : ME τ D := e1 (fun ds => (lim ds).map D.tup) a
theorem Rep.newTup {F : Fp} {H : Hp} {vs : List V} {ds : List D} {p : Addr} (r : Reps K F H vs ds) (dm : Dom F H) (np : H p = none) : Rep K F (upd H p (.tup vs)) (.ref p) (.tup ds) :=
  .tup (.inl ⟨fun z => dm p z np, .inl upd_same⟩) (r.same fun b o _ e => by rw [upd_ne (ne_of_none e np)]; exact e)
theorem Rep.newLst {F : Fp} {H : Hp} {vs : List V} {ds : List D} {p : Addr} (r : Reps K F H vs ds) (dm : Dom F H) (np : H p = none) : Rep K F (upd H p (.lst vs)) (.ref p) (.lst ds) :=
    .lst ⟨fun z => dm p z np, .inl upd_same⟩ (r.same fun b o _ e => by rw [upd_ne (ne_of_none e np)]; exact e)
theorem same_upd {H : Hp} {p : Addr} {o : HO} (h : H p = none) : Same H (upd H p o) := fun b x e => by
  rw [upd_ne (ne_of_none e h)]
  exact e
theorem me_tup {es : List Expr} {x1} {pos : Pos} {ms : ME τ (List D)} (h : PA X es (tA X.K W ms)) : PE X (.Tuple es x1 pos) (tE X.K W (eTup ms)) := PE.imp (pe_tup h) fun σ H Q ⟨C, ρ, t, A, p⟩ => by
  refine use okE A p fun d t1 v H1 e1 s1 A1 r1 p1 => ?_
  dsimp only at p1
  cases e : lim d with
  | none => rw [e] at p1; exact p1.elim
  | some z =>
    rw [e] at p1
    obtain ⟨rfl, hz⟩ := lim_le e
    exact ⟨by rw [r1.length]; exact hz, fun a na => p1 _ _ (Sm.of_same (same_upd na)) (C.stay A1.st (same_upd na)) (Rep.newTup r1 A1.dom na)⟩
theorem mf_lst {es : List Expr} {pos : Pos} {ms : ME τ (List D)} (h : PA X es (tA X.K W ms)) : PE X (.List es pos) (tF X.K W (e1 lim ms)) := PE.imp (pe_lst h) fun σ H Q ⟨C, ρ, t, A, p⟩ => by
  refine use okF A p fun d t1 v H1 e1 s1 A1 r1 p1 => ?_
  cases e : lim d with
  | none => rw [e] at p1; exact p1.elim
  | some z =>
    rw [e] at p1
    obtain ⟨rfl, hz⟩ := lim_le e
    refine ⟨by rw [r1.length]; exact hz, fun a na => p1 _ _ (Sm.of_same (same_upd na)) (C.stay A1.st (same_upd na)) ⟨a, v, rfl, fun z => A1.dom a z na, na, upd_same, ?_⟩⟩
    have sp : Stp (Fo C.F ρ σ) H1 (fun b => Fo C.F ρ σ b ∨ b = a) (upd H1 a (.lst v)) := ⟨fun b o _ e => by rw [upd_ne (ne_of_none e na)]; exact e, fun b h => h.elim .inl fun e => .inr (by rw [e]; exact na)⟩
    exact ⟨Reps.step sp r1, C.step _ _ _ _ _ A1.st (fun b o _ e => by rw [upd_ne (ne_of_none e na)]; exact e) sp⟩
def eLst (a : ME τ (List D)) : ME τ D := fun ρ t => (a ρ t).bind fun ds t => .ok (.lst ds) t
theorem me_new {e : Expr} {m : ME τ (List D)} (h : PE X e (tF K W m)) : PE X e (tE K W (eLst m)) := PE.imp h fun σ H Q ⟨C, ρ, t, A, p⟩ => by
  refine ⟨C, ρ, t, A, ?_⟩
  unfold eLst at p
  cases e : m ρ t with
  | ok d t' =>
    rw [e] at p
    intro v H' s i r
    obtain ⟨a, vs, rfl, n, q, l, r, _⟩ := r
    exact p _ H' s i (.lst ⟨n, .inl l⟩ (r.anti fun _ => .inl))
  | ex n fs t' => rw [e] at p; exact p
  | bad => rw [e] at p; exact p

def DCall (K : Fg) (r : List V → Hp → VK → Prop) (f : List D → Option D) : Prop := ∀ (F0 F : Fp) (H : Hp) (xs : List V) (ds : List D) (z : D) (Q : VK), Dom F H → RepsW K F0 F H xs ds → f ds = some z →
  (∀ v H', Same H H' → Rep K F H' v z → Q v H') → r xs H Q
theorem runC {r : List V → Hp → VK → Prop} {f : List D → Option D} {ms : ME τ (List D)} {σ : L2.St} {H : Hp} {Q : VK} (hf : DCall K r f) (p : tE K W (MM.e1 f ms) σ H Q) : tCB r (tAW K W ms) σ H Q := by
  obtain ⟨C, ρ, t, A, p⟩ := p
  refine use okE A p fun d t1 v H1 e1 s1 A1 r1 p1 => ?_
  cases e : f d with
  | none => rw [e] at p1; exact p1.elim
  | some z =>
    rw [e] at p1
    exact hf C.F _ H1 v d z Q A1.dom r1 e fun v' H' sm rr => p1 v' H' (Sm.of_same sm) (C.stay A1.st sm) rr
theorem me_callB {id : String} {x : Str} {e : Expr} {es : List Expr} {p pos : Pos} {r : List V → Hp → VK → Prop} {f : List D → Option D} {ms : ME τ (List D)} (hc : CallR X (.builtin id) r) (hf : DCall X.K r f) (hg : Gl X x) (hm : X.mg x = none) (hv : bootBuiltins x = some (.builtin id))
    (ha : PA X (e :: es) (tAW X.K W ms)) (hn : x ≠ "__name__" := by decide) (hdb : (x == ("__debug__" : Str)) = false := by decide)
    (he : starEach (e :: es) X.env = (false, eval e X.env) :: starEach es X.env := by rfl) (hpl : (backTo pos (starEach es X.env)).any (·.1) = false := by rfl) :
    PE X (.Call (.Name x p) (e :: es) [] pos) (tE X.K W (MM.e1 f ms)) := PE.imp (pe_callB hc hg hm hv ha hn hdb he hpl) fun σ H Q p => runC hf p
theorem me_callTy {id : String} {x : Str} {e : Expr} {es : List Expr} {p pos : Pos} {r : List V → Hp → VK → Prop} {f : List D → Option D} {ms : ME τ (List D)} (hc : CallR X (.type id) r) (hf : DCall X.K r f) (hg : Gl X x) (hm : X.mg x = none) (hv : bootBuiltins x = some (.type id))
    (ha : PA X (e :: es) (tAW X.K W ms)) (hn : x ≠ "__name__" := by decide) (hdb : (x == ("__debug__" : Str)) = false := by decide)
    (he : starEach (e :: es) X.env = (false, eval e X.env) :: starEach es X.env := by rfl) (hpl : (backTo pos (starEach es X.env)).any (·.1) = false := by rfl) :
    PE X (.Call (.Name x p) (e :: es) [] pos) (tE X.K W (MM.e1 f ms)) := PE.imp (pe_callTy hc hg hm hv ha hn hdb he hpl) fun σ H Q p => runC hf p
end
end MM

namespace MM
open PySem PySem.Spec PyProof.Rows L2
abbrev MS (τ : Type) := Rho → τ → Fl τ
abbrev Tgt := Rho → D → Option Rho
abbrev Tgts := Rho → List D → Option Rho

section
variable {τ : Type} [Sto τ] {K : Fg} {C : SC τ} {ρ : Rho} {t t' : τ} {σ : St} {H H' H1 : Hp}
theorem set_at {α : Type} {l : List α} {i j : Nat} {x y : α} (h : (l.set i x)[j]? = some y) : (i = j ∧ y = x ∧ i < l.length) ∨ (i ≠ j ∧ l[j]? = some y) := by
  by_cases e : i = j
  · subst e
    by_cases q : i < l.length
    · rw [List.getElem?_set_self q] at h
      exact .inl ⟨rfl, (Option.some.inj h).symm, q⟩
    · rw [List.getElem?_eq_none (by simpa using q)] at h
      cases h
  · rw [List.getElem?_set_ne e] at h
    exact .inr ⟨e, h⟩
theorem Fo.setVal {F : Fp} {i : Nat} {d : D} {v : Option V} {b : Addr} (h : Fo F (ρ.set i (.val d)) (σ.set i v) b) : Fo F ρ σ b := by
  rcases h with h | ⟨j, xs, ⟨h1, hm⟩, h2⟩
  · exact .inl h
  · rcases set_at h1 with ⟨_, e, _⟩ | ⟨ne, h1⟩
    · cases e; cases hm
    · rw [List.getElem?_set_ne ne] at h2
      exact .inr ⟨j, xs, ⟨h1, hm⟩, h2⟩
theorem At.setVal {i : Nat} {v : V} {d : D} (A : At K C ρ t σ H) (r : Rep K (Fo C.F ρ σ) H v d) : At K C (ρ.set i (.val d)) t (σ.set i (some v)) H where
  okC := A.okC
  st := C.less A.st fun _ => Fo.setVal
  len := by simp [A.len]
  val := fun j e h => by
    rcases set_at h with ⟨rfl, e1, hl⟩ | ⟨ne, h⟩
    · cases e1
      refine ⟨v, ?_, r.anti fun _ => Fo.setVal⟩
      rw [List.getElem?_set_self (by rw [A.len]; exact hl)]
    · obtain ⟨w, h1, h2⟩ := A.val j e h
      exact ⟨w, by rw [List.getElem?_set_ne ne]; exact h1, h2.anti fun _ => Fo.setVal⟩
  mine := fun j xs hh => by
    obtain ⟨h, hm⟩ := hh
    rcases set_at h with ⟨rfl, e1, hl⟩ | ⟨ne, h⟩
    · cases e1; cases hm
    · obtain ⟨a, vs, h1, h2, h3, h4⟩ := A.mine j xs ⟨h, hm⟩
      exact ⟨a, vs, by rw [List.getElem?_set_ne ne]; exact h1, h2, h3, h4.anti fun _ => Fo.setVal⟩
  dis := fun j k xs ys hh1 hh2 e => by
    obtain ⟨h1, m1⟩ := hh1
    obtain ⟨h2, m2⟩ := hh2
    rcases set_at h1 with ⟨_, e1, _⟩ | ⟨n1, h1⟩
    · cases e1; cases m1
    · rcases set_at h2 with ⟨_, e2, _⟩ | ⟨n2, h2⟩
      · cases e2; cases m2
      · rw [List.getElem?_set_ne n1, List.getElem?_set_ne n2] at e
        exact A.dis j k xs ys ⟨h1, m1⟩ ⟨h2, m2⟩ e
theorem Stp.setVal {i : Nat} {v : Option V} {d : D} {F : Fp} : Stp (Fo F ρ σ) H (Fo F (ρ.set i (.val d)) (σ.set i v)) H := Stp.less fun _ => Fo.setVal
theorem Fo.setMine {F : Fp} {i : Nat} {x : Slot} {a b : Addr} (h : Fo F (ρ.set i x) (σ.set i (some (.ref a))) b) : Fo F ρ σ b ∨ b = a := by
  rcases h with h | ⟨j, ys, ⟨h1, hm⟩, h2⟩
  · exact .inl (.inl h)
  · rcases set_at h1 with ⟨rfl, e, _⟩ | ⟨ne, h1⟩
    · rcases set_at h2 with ⟨_, e2, _⟩ | ⟨ne, _⟩
      · cases e2; exact .inr rfl
      · exact absurd rfl ne
    · rw [List.getElem?_set_ne ne] at h2
      exact .inl (.inr ⟨j, ys, ⟨h1, hm⟩, h2⟩)
theorem Fo.setOwn {F : Fp} {i : Nat} {xs : List D} {a b : Addr} (h : Fo F (ρ.set i (.own xs)) (σ.set i (some (.ref a))) b) : Fo F ρ σ b ∨ b = a := Fo.setMine h
theorem At.setMine {i : Nat} {a : Addr} {u : HO} {x : Slot} (hx : x.mine = true) (A0 : At K C ρ t σ H) (s : Sm C.F H H') (iv : C.Iv t' (fun b => Fo C.F ρ σ b ∨ b = a) H') (nF : ¬ Fo C.F ρ σ a) (na : H a = none) (l : H' a = some u) (r : OwnR K (fun b => Fo C.F ρ σ b ∨ b = a) H' a u x) :
    At K C (ρ.set i x) t' (σ.set i (some (.ref a))) H' ∧ Stp (Fo C.F ρ σ) H (Fo C.F (ρ.set i x) (σ.set i (some (.ref a)))) H' := by
  have A := A0.next s (C.less iv fun _ => .inl)
  have sp : Stp (Fo C.F ρ σ) H (Fo C.F (ρ.set i x) (σ.set i (some (.ref a)))) H' := ⟨fun b o n e => s b o (fun z => n (.inl z)) e, fun b h => (Fo.setMine h).elim .inl fun e => .inr (by rw [e]; exact na)⟩
  have iv' : C.Iv t' (Fo C.F (ρ.set i x) (σ.set i (some (.ref a)))) H' := C.less iv fun _ => Fo.setMine
  refine ⟨⟨A.okC, iv', by simp [A.len], fun j e h => ?_, fun j xs hh => ?_, fun j k xs ys hh1 hh2 e => ?_⟩, sp⟩
  · rcases set_at h with ⟨_, e1, _⟩ | ⟨ne, h⟩
    · rw [← e1] at hx; cases hx
    · obtain ⟨w, h1, h2⟩ := A0.val j e h
      exact ⟨w, by rw [List.getElem?_set_ne ne]; exact h1, h2.step sp⟩
  · obtain ⟨h, hm⟩ := hh
    rcases set_at h with ⟨rfl, e1, hl⟩ | ⟨ne, h⟩
    · subst e1
      exact ⟨a, u, by rw [List.getElem?_set_self (by rw [A.len]; exact hl)], fun z => nF (.inl z), l, r.anti fun _ => Fo.setMine⟩
    · obtain ⟨b, ws, h1, h2, h3, h4⟩ := A0.mine j xs ⟨h, hm⟩
      exact ⟨b, ws, by rw [List.getElem?_set_ne ne]; exact h1, h2, s b _ h2 h3, h4.step sp⟩
  · obtain ⟨h1, m1⟩ := hh1
    obtain ⟨h2, m2⟩ := hh2
    have other : ∀ {m : Nat} {z : Slot}, ρ[m]? = some z → z.mine = true → σ[m]? ≠ some (some (.ref a)) := fun {m zs} h hm z => nF (.inr ⟨m, zs, ⟨h, hm⟩, z⟩)
    rcases set_at h1 with ⟨rfl, e1, l1⟩ | ⟨n1, h1⟩
    · rcases set_at h2 with ⟨rfl, e2, _⟩ | ⟨n2, h2⟩
      · rfl
      · rw [List.getElem?_set_self (by rw [A.len]; exact l1), List.getElem?_set_ne n2] at e
        exact absurd e.symm (other h2 m2)
    · rcases set_at h2 with ⟨rfl, e2, l2⟩ | ⟨n2, h2⟩
      · rw [List.getElem?_set_self (by rw [A.len]; exact l2), List.getElem?_set_ne n1] at e
        exact absurd e (other h1 m1)
      · rw [List.getElem?_set_ne n1, List.getElem?_set_ne n2] at e
        exact A.dis j k xs ys ⟨h1, m1⟩ ⟨h2, m2⟩ e
theorem At.setOwn {i : Nat} {a : Addr} {vs : List V} {ds : List D} (A0 : At K C ρ t σ H) (s : Sm C.F H H') (iv : C.Iv t' (fun b => Fo C.F ρ σ b ∨ b = a) H') (nF : ¬ Fo C.F ρ σ a) (na : H a = none) (l : H' a = some (.lst vs)) (r : Reps K (fun b => Fo C.F ρ σ b ∨ b = a) H' vs ds) :
    At K C (ρ.set i (.own ds)) t' (σ.set i (some (.ref a))) H' ∧ Stp (Fo C.F ρ σ) H (Fo C.F (ρ.set i (.own ds)) (σ.set i (some (.ref a)))) H' := At.setMine rfl A0 s iv nF na l (.lst r)
theorem Fo.reMine {F : Fp} {i : Nat} {x y : Slot} (h0 : ρ[i]? = some x ∧ x.mine = true) (hy : y.mine = true) {b : Addr} : Fo F (ρ.set i y) σ b ↔ Fo F ρ σ b := by
  constructor
  · rintro (h | ⟨j, zs, ⟨h1, hm⟩, h2⟩)
    · exact .inl h
    · rcases set_at h1 with ⟨rfl, _, _⟩ | ⟨_, h1⟩
      · exact .inr ⟨_, x, h0, h2⟩
      · exact .inr ⟨j, zs, ⟨h1, hm⟩, h2⟩
  · rintro (h | ⟨j, zs, ⟨h1, hm⟩, h2⟩)
    · exact .inl h
    · by_cases e : i = j
      · subst e
        exact .inr ⟨i, y, ⟨by rw [List.getElem?_set_self (List.getElem?_eq_some_iff.mp h0.1).1], hy⟩, h2⟩
      · exact .inr ⟨j, zs, ⟨by rw [List.getElem?_set_ne e]; exact h1, hm⟩, h2⟩
theorem Fo.reOwn {F : Fp} {i : Nat} {xs ys : List D} (h0 : ρ[i]? = some (.own xs)) {b : Addr} : Fo F (ρ.set i (.own ys)) σ b ↔ Fo F ρ σ b := Fo.reMine ⟨h0, rfl⟩ rfl
theorem At.reMine {i : Nat} {a : Addr} {u : HO} {x y : Slot} (A : At K C ρ t σ H) (h0 : ρ[i]? = some x ∧ x.mine = true) (hy : y.mine = true) (hs : σ[i]? = some (some (.ref a))) (r : OwnR K (Fo C.F ρ σ) H a u y) :
    At K C (ρ.set i y) t σ (upd H a u) ∧ Stp (Fo C.F ρ σ) H (Fo C.F (ρ.set i y) σ) (upd H a u) := by
  obtain ⟨a', vs', hs', nF, ha, _⟩ := A.mine i x h0
  rw [hs] at hs'; cases hs'
  have fa : Fo C.F ρ σ a := .inr ⟨i, x, h0, hs⟩
  have sp : Stp (Fo C.F ρ σ) H (Fo C.F (ρ.set i y) σ) (upd H a u) := ⟨fun b o n e => by rw [upd_ne (fun z => n (by rw [z]; exact fa))]; exact e, fun b h => .inl ((Fo.reMine h0 hy).mp h)⟩
  have iv : C.Iv t (Fo C.F (ρ.set i y) σ) (upd H a u) := C.step _ _ _ _ _ A.st (fun b o h e => by rw [upd_ne (fun z => nF (by rw [← z]; exact h))]; exact e) sp
  refine ⟨⟨A.okC, iv, by simp [A.len], fun j e h => ?_, fun j zs hh => ?_, fun j k zs us hh1 hh2 e => ?_⟩, sp⟩
  · rcases set_at h with ⟨_, e1, _⟩ | ⟨ne, h⟩
    · rw [← e1] at hy; cases hy
    · obtain ⟨w, h1, h2⟩ := A.val j e h
      exact ⟨w, h1, h2.step sp⟩
  · obtain ⟨h, hm⟩ := hh
    rcases set_at h with ⟨rfl, e1, hl⟩ | ⟨ne, h⟩
    · subst e1
      exact ⟨a, u, hs, nF, upd_same, r.step sp⟩
    · obtain ⟨b, us, h1, h2, h3, h4⟩ := A.mine j zs ⟨h, hm⟩
      have nb : b ≠ a := fun z => ne (A.dis i j x zs h0 ⟨h, hm⟩ (by rw [hs, h1, z]))
      exact ⟨b, us, h1, h2, by rw [upd_ne nb]; exact h3, h4.step sp⟩
  · have tr : ∀ {m : Nat} {z : Slot}, ((ρ.set i y)[m]? = some z ∧ z.mine = true) → ∃ us, (ρ[m]? = some us ∧ us.mine = true) := fun {m zs} hh => by
      obtain ⟨h, hm⟩ := hh
      rcases set_at h with ⟨rfl, _, _⟩ | ⟨_, h⟩
      · exact ⟨_, h0⟩
      · exact ⟨_, h, hm⟩
    obtain ⟨u1, g1⟩ := tr hh1
    obtain ⟨u2, g2⟩ := tr hh2
    exact A.dis j k u1 u2 g1 g2 e
theorem At.reOwn {i : Nat} {a : Addr} {ws : List V} {xs ys : List D} (A : At K C ρ t σ H) (h0 : ρ[i]? = some (.own xs)) (hs : σ[i]? = some (some (.ref a))) (r : Reps K (Fo C.F ρ σ) H ws ys) :
    At K C (ρ.set i (.own ys)) t σ (upd H a (.lst ws)) ∧ Stp (Fo C.F ρ σ) H (Fo C.F (ρ.set i (.own ys)) σ) (upd H a (.lst ws)) := A.reMine ⟨h0, rfl⟩ rfl hs (.lst r)
end
end MM

namespace MM
open PySem PySem.Spec PyProof.Rows L2
section
variable {X : Cx} {W : WX} {τ : Type} [Sto τ] {K : Fg}
def sDo {α : Type} (m : ME τ α) (k : α → Rho → τ → Fl τ) : MS τ := fun ρ t => match m ρ t with
  | .ok d t' => k d ρ t'
  | .ex n fs t' => .ex n fs ρ t'
  | .bad => .bad
theorem useS {α β : Type} {R : Rel β α} {C : SC τ} {ρ : Rho} {t : τ} {σ : St} {H : Hp} {ma : ME τ α} {k : α → Rho → τ → Fl τ} {E : Ends} {Q : β → Hp → Prop} (A : At K C ρ t σ H) (h : SPost K W C (Fo C.F ρ σ) H (sDo ma k ρ t) E)
    (hk : ∀ d t1 v H1, ma ρ t = .ok d t1 → Sm C.F H H1 → At K C ρ t1 σ H1 → R K (C.Iv t1) C.F (Fo C.F ρ σ) H H1 v d → SPost K W C (Fo C.F ρ σ) H1 (k d ρ t1) E → Q v H1) : tG R K W ma σ H Q := by
  refine ⟨C, ρ, t, A, ?_⟩
  unfold sDo at h
  cases e : ma ρ t with
  | ok d t1 =>
    rw [e] at h
    exact fun v H1 s i r => hk d t1 v H1 e s (A.next s i) r (SPost.rebase h (Stp.of_sm s fun _ => .inl))
  | ex n fs t1 =>
    rw [e] at h
    exact fun cls dd H' s i x => h cls dd σ H' (Stp.of_sm s fun _ => .inl) (A.next s i) x
  | bad =>
    rw [e] at h
    exact h

def tTg (τ : Type) [Sto τ] (K : Fg) (g : Tgt) (vs : List Nat) : TG := fun v σ H Q => ∃ (C : SC τ) (ρ : Rho) (t : τ) (d : D), At K C ρ t σ H ∧ Rep K (Fo C.F ρ σ) H v d ∧ ∃ ρ', g ρ d = some ρ' ∧
  ∀ σ' H', (σ'.length = σ.length ∧ ∀ (j : Nat), j ∉ vs → σ'[j]? = σ[j]? ∧ ρ'[j]? = ρ[j]?) → Same H H' → Stp (Fo C.F ρ σ) H (Fo C.F ρ' σ') H' → At K C ρ' t σ' H' → Q σ' H'
def tTgs (τ : Type) [Sto τ] (K : Fg) (g : Tgts) (vs : List Nat) : TGs := fun v σ H Q => ∃ (C : SC τ) (ρ : Rho) (t : τ) (d : List D), At K C ρ t σ H ∧ Reps K (Fo C.F ρ σ) H v d ∧ ∃ ρ', g ρ d = some ρ' ∧
  ∀ σ' H', (σ'.length = σ.length ∧ ∀ (j : Nat), j ∉ vs → σ'[j]? = σ[j]? ∧ ρ'[j]? = ρ[j]?) → Same H H' → Stp (Fo C.F ρ σ) H (Fo C.F ρ' σ') H' → At K C ρ' t σ' H' → Q σ' H'
theorem PG.imp {e : Expr} {t t' : TG} (h : PG X e t) (i : ∀ v σ H Q, t' v σ H Q → t v σ H Q) : PG X e t' := ⟨fun pins s σ H v u Q I r q => h.run pins s σ H v u Q I r (i v σ H Q q)⟩
theorem PGs.imp {e : List Expr} {t t' : TGs} (h : PGs X e t) (i : ∀ v σ H Q, t' v σ H Q → t v σ H Q) : PGs X e t' := ⟨fun pins s σ H v u Q I r q => h.run pins s σ H v u Q I r (i v σ H Q q)⟩
def gN (i : Nat) : Tgt := fun ρ d => some (ρ.set i (.val d))
def gNil : Tgts := fun ρ ds => match ds with
  | [] => some ρ
  | _ => none
def gCons (g : Tgt) (gs : Tgts) : Tgts := fun ρ ds => match ds with
  | d :: ds => (g ρ d).bind fun ρ' => gs ρ' ds
  | [] => none
def gT (gs : Tgts) : Tgt := fun ρ d => match d with
  | .tup ds => gs ρ ds
  | _ => none
theorem mg_name {i : Nat} {e : Expr} (h : PG X e (L2.gName i)) : PG X e (tTg τ X.K (gN i) [i]) := PG.imp h fun v σ H Q ⟨C, ρ, t, d, A, r, ρ', e, k⟩ => by
  cases e
  exact k _ H ⟨by simp, fun j hj => ⟨by rw [List.getElem?_set_ne (fun e => hj (by simp [e]))], by rw [List.getElem?_set_ne (fun e => hj (by simp [e]))]⟩⟩ (Same.refl H) Stp.setVal (A.setVal r)
theorem mgs_nil : PGs X [] (tTgs τ X.K gNil []) := PGs.imp pgs_nil fun v σ H Q ⟨C, ρ, t, d, A, r, ρ', e, k⟩ => by
  cases r with
  | nil => cases e; exact ⟨rfl, k σ H ⟨rfl, fun _ _ => ⟨rfl, rfl⟩⟩ (Same.refl H) (Stp.refl _ _) A⟩
  | cons r t => cases e
theorem mgs_cons {e : Expr} {es : List Expr} {g : Tgt} {gs : Tgts} {v1 v2 : List Nat} (h1 : PG X e (tTg τ X.K g v1)) (h2 : PGs X es (tTgs τ X.K gs v2)) (hs : (assignEach (e :: es) X.env).map (·.2) = assign e X.env :: (assignEach es X.env).map (·.2) := by rfl) :
    PGs X (e :: es) (tTgs τ X.K (gCons g gs) (v1 ++ v2)) := PGs.imp (pgs_cons h1 h2 hs) fun v σ H Q ⟨C, ρ, t, d, A, r, ρ', e, k⟩ => by
  cases r with
  | nil => cases e
  | cons r1 r2 =>
    rename_i x xs dd ds _
    have e' : (g ρ dd).bind (fun ρ' => gs ρ' ds) = some ρ' := e
    cases q : g ρ dd with
    | none => rw [q] at e'; cases e'
    | some ρ1 =>
      rw [q] at e'
      exact ⟨x, xs, rfl, C, ρ, t, dd, A, r1, ρ1, q, fun σ1 H1 f1 m1 s1 A1 => ⟨C, ρ1, t, ds, A1, r2.step s1, ρ', e', fun σ2 H2 f2 m2 s2 A2 => k σ2 H2 ⟨f2.1.trans f1.1, fun j hj => ⟨(f2.2 j fun z => hj (List.mem_append_right _ z)).1.trans (f1.2 j fun z => hj (List.mem_append_left _ z)).1, (f2.2 j fun z => hj (List.mem_append_right _ z)).2.trans (f1.2 j fun z => hj (List.mem_append_left _ z)).2⟩⟩ (fun b o e => m2 b o (m1 b o e)) (s1.trans s2) A2⟩⟩
def glen (gs : Tgts) (n : Nat) : Prop := ∀ ρ ds ρ', gs ρ ds = some ρ' → ds.length = n
theorem glen_nil : glen gNil 0 := fun ρ ds ρ' e => by
  cases ds with
  | nil => rfl
  | cons => cases e
theorem glen_cons {g : Tgt} {gs : Tgts} {n : Nat} (h : glen gs n) : glen (gCons g gs) (n + 1) := fun ρ ds ρ' e => by
  cases ds with
  | nil => cases e
  | cons d ds =>
    have e' : (g ρ d).bind (fun ρ' => gs ρ' ds) = some ρ' := e
    cases q : g ρ d with
    | none => rw [q] at e'; cases e'
    | some ρ1 =>
      rw [q] at e'
      show ds.length + 1 = n + 1
      rw [h ρ1 ds ρ' e']
theorem mg_tup {es : List Expr} {k n : Nat} {pos : Pos} {gs : Tgts} (hc : X.calm = true) (hg : glen gs n) {vs : List Nat} (h : PGs X es (tTgs τ X.K gs vs)) (hn : (assignEach es X.env).length = n := by rfl) (hst : (assignEach es X.env).findIdx? (·.1) = none := by rfl) :
    PG X (.Tuple es k pos) (tTg τ X.K (gT gs) vs) := PG.imp (pg_tup hc h hn hst) fun v σ H Q ⟨C, ρ, t, d, A, r, ρ', e, k⟩ => by
  cases r with
  | tup tf rs =>
    have e' : gs ρ _ = some ρ' := e
    exact ⟨_, _, rfl, tf.sq, by rw [rs.length]; exact hg _ _ _ e', C, ρ, t, _, A, rs, ρ', e', k⟩
  | _ => cases e

def sSeq (a b : MS τ) : MS τ := fun ρ t => match a ρ t with
  | .nx ρ' t' => b ρ' t'
  | r => r
theorem mss_cons {s : Stmt} {rest : List Stmt} {a b : MS τ} (h1 : PS X s (tS X.K W a)) (h2 : PSs X rest (tS X.K W b)) : PSs X (s :: rest) (tS X.K W (sSeq a b)) := PSs.imp (pss_cons h1 h2) fun E σ H ⟨C, ρ, t, A, p⟩ => by
  refine ⟨C, ρ, t, A, ?_⟩
  unfold sSeq at p
  cases e : a ρ t with
  | nx ρ' t' => rw [e] at p; exact fun σ' H' s' A' => ⟨C, ρ', t', A', SPost.rebase p s'⟩
  | rt d t' => rw [e] at p; exact p
  | bk ρ' t' => rw [e] at p; exact p
  | ct ρ' t' => rw [e] at p; exact p
  | ex n fs ρ' t' => rw [e] at p; exact p
  | bad => rw [e] at p; exact p
theorem mss_one {s : Stmt} {a : MS τ} (h1 : PS X s (tS X.K W a)) : PSs X [s] (tS X.K W a) := pss_one h1
def sSkip : MS τ := fun ρ t => .nx ρ t
theorem mss_nil : PSs X [] (tS X.K W (sSkip (τ := τ))) := PSs.imp pss_nil fun E σ H ⟨C, ρ, t, A, p⟩ => p σ H (Stp.refl _ _) A
def sAsg (g : Tgt) (m : ME τ D) : MS τ := sDo m fun d ρ t => match g ρ d with
  | some ρ' => .nx ρ' t
  | none => .bad
theorem asg_red {g : Tgt} {vs : List Nat} {m : ME τ D} {E : Ends} {σ : St} {H : Hp} (p : tS K W (sAsg g m) E σ H) : tAsg (tE K W m) (tTg τ K g vs) E σ H := by
  obtain ⟨C, ρ, t, A, p⟩ := p
  refine useS A p fun d t1 v H1 e1 s1 A1 r1 p1 => ?_
  refine ⟨C, ρ, t1, d, A1, r1, ?_⟩
  cases e : g ρ d with
  | none => rw [e] at p1; exact p1.elim
  | some ρ' => rw [e] at p1; exact ⟨ρ', rfl, fun σ' H' _ _ s' A' => p1 σ' H' s' A'⟩
theorem ms_asg {tg e : Expr} {pos : Pos} {g : Tgt} {vs : List Nat} {m : ME τ D} (he : PE X e (tE X.K W m)) (hg : PG X tg (tTg τ X.K g vs)) (hs : swapsWithSole [tg] e pos.line X.env = pure false := by rfl) (hw : swappedStores [tg] e X.env = pure none := by rfl)
    (h1 : (assignEach [tg] X.env).map (·.2) = [assign tg X.env] := by rfl) : PS X (.Assign [tg] e pos) (tS X.K W (sAsg g m)) := PS.imp (ps_asg he hg hs hw h1) fun _ _ _ p => asg_red p
theorem ms_set {s : Stmt} {i : Nat} {m : ME τ D} (h : PS X s (tAsg (tE X.K W m) (gName i))) : PS X s (tS X.K W (sAsg (gN i) m)) := PS.imp h fun E σ H ⟨C, ρ, t, A, p⟩ => by
  refine useS A p fun d t1 v H1 e1 s1 A1 r1 p1 => ?_
  exact p1 _ H1 Stp.setVal (A1.setVal r1)
def sOwn (i : Nat) (m : ME τ (List D)) : MS τ := sDo m fun ds ρ t => .nx (ρ.set i (.own ds)) t
theorem ms_setOwn {s : Stmt} {i : Nat} {m : ME τ (List D)} (h : PS X s (tAsg (tF X.K W m) (gName i))) : PS X s (tS X.K W (sOwn i m)) := PS.imp h fun E σ H ⟨C, ρ, t, A, p⟩ => by
  refine ⟨C, ρ, t, A, ?_⟩
  unfold sOwn sDo at p
  cases e : m ρ t with
  | ok d t1 =>
    rw [e] at p
    intro v H1 s1 i1 r1
    obtain ⟨a, vs, rfl, n, q, l, r, iv⟩ := r1
    obtain ⟨A', sp⟩ := At.setOwn (i := i) A s1 iv n q l r
    exact p _ H1 sp A'
  | ex n fs t1 =>
    rw [e] at p
    exact fun cls dd H' s i x => p cls dd σ H' (Stp.of_sm s fun _ => .inl) (A.next s i) x
  | bad => rw [e] at p; exact p
def sFrz (i : Nat) (m : MS τ) : MS τ := fun ρ t => match ρ[i]? with
  | some (.own xs) => m (ρ.set i (.val (.lst xs))) t
  | some (.dct ks xs) => m (ρ.set i (.val (.dct ks xs))) t
  | _ => m ρ t
theorem frz_one {i : Nat} {x : Slot} {d : D} {C : SC τ} {ρ : Rho} {t : τ} {σ : St} {H : Hp} {r : Fl τ} {E : Ends} (A : At K C ρ t σ H) (e : ρ[i]? = some x ∧ x.mine = true) (hd : ∀ (F' : Fp) (a : Addr) (u : HO), (∀ b, F' b → Fo C.F ρ σ b) → ¬ F' a → H a = some u → OwnR K (Fo C.F ρ σ) H a u x → Rep K F' H (.ref a) d)
    (p : SPost K W C (Fo C.F ρ σ) H r E) : At K C (ρ.set i (.val d)) t σ H ∧ SPost K W C (Fo C.F (ρ.set i (.val d)) σ) H r E := by
  obtain ⟨a, u, hs, nF, ha, hr⟩ := A.mine i x e
  have il : i < ρ.length := (List.getElem?_eq_some_iff.mp e.1).1
  have sub : ∀ b, Fo C.F (ρ.set i (.val d)) σ b → Fo C.F ρ σ b := fun b h => by
    rcases h with h | ⟨j, zs, ⟨h1, hm⟩, h2⟩
    · exact .inl h
    · rcases set_at h1 with ⟨_, e1, _⟩ | ⟨ne, h1⟩
      · cases e1; cases hm
      · exact .inr ⟨j, zs, ⟨h1, hm⟩, h2⟩
  have na : ¬ Fo C.F (ρ.set i (.val d)) σ a := fun h => by
    rcases h with h | ⟨j, zs, ⟨h1, hm⟩, h2⟩
    · exact nF h
    · rcases set_at h1 with ⟨_, e1, _⟩ | ⟨ne, h1⟩
      · cases e1; cases hm
      · exact ne (A.dis i j x zs e ⟨h1, hm⟩ (by rw [hs, h2]))
  refine ⟨⟨A.okC, C.less A.st sub, by simp [A.len], fun j d h => ?_, fun j zs hh => ?_, fun j k zs us hh1 hh2 e2 => ?_⟩, SPost.rebase p (Stp.less sub)⟩
  · rcases set_at h with ⟨rfl, e1, _⟩ | ⟨ne, h⟩
    · cases e1
      exact ⟨.ref a, hs, hd _ a u sub na ha hr⟩
    · obtain ⟨w, h1, h2⟩ := A.val j d h
      exact ⟨w, h1, h2.anti sub⟩
  · obtain ⟨h, hm⟩ := hh
    rcases set_at h with ⟨rfl, e1, _⟩ | ⟨ne, h⟩
    · cases e1; cases hm
    · obtain ⟨b, us, h1, h2, h3, h4⟩ := A.mine j zs ⟨h, hm⟩
      exact ⟨b, us, h1, h2, h3, h4.anti sub⟩
  · obtain ⟨h1, m1⟩ := hh1
    obtain ⟨h2, m2⟩ := hh2
    rcases set_at h1 with ⟨_, e1, _⟩ | ⟨_, h1⟩
    · cases e1; cases m1
    · rcases set_at h2 with ⟨_, e2, _⟩ | ⟨_, h2⟩
      · cases e2; cases m2
      · exact A.dis j k zs us ⟨h1, m1⟩ ⟨h2, m2⟩ e2
theorem frz_red {i : Nat} {m : MS τ} {E : Ends} {σ : St} {H : Hp} (p : tS K W (sFrz i m) E σ H) : tS K W m E σ H := by
  obtain ⟨C, ρ, t, A, p⟩ := p
  unfold sFrz at p
  split at p
  · rename_i xs e
    obtain ⟨A', p'⟩ := frz_one (d := .lst xs) A ⟨e, rfl⟩ (fun F' a u sub na ha hr => by
      cases hr with
      | lst hr => exact .lst ⟨na, .inl ha⟩ (hr.anti sub)) p
    exact ⟨C, _, t, A', p'⟩
  · rename_i ks xs e
    obtain ⟨A', p'⟩ := frz_one (d := .dct ks xs) A ⟨e, rfl⟩ (fun F' a u sub na ha hr => by
      cases hr with
      | dct hr => exact (hr.anti sub).rep na ha) p
    exact ⟨C, _, t, A', p'⟩
  · exact ⟨C, ρ, t, A, p⟩
theorem mss_frz {i : Nat} {sts : List Stmt} {m : MS τ} (h : PSs X sts (tS X.K W m)) : PSs X sts (tS X.K W (sFrz i m)) := PSs.imp h fun _ _ _ p => frz_red p
def sRet (m : ME τ D) : MS τ := sDo m fun d _ t => .rt d t
theorem ms_ret {e : Expr} {pos : Pos} {m : ME τ D} (h : PE X e (tE X.K W m)) : PS X (.Return (some e) pos) (tS X.K W (sRet m)) := PS.imp (ps_ret h) fun E σ H ⟨C, ρ, t, A, p⟩ => by
  refine useS A p fun d t1 v H1 e1 s1 A1 r1 p1 => ?_
  exact p1 v H1 (Sm.refl _ _) (C.less A1.st fun _ => .inl) (r1.anti fun _ => .inl)
def sIf (c : ME τ Bool) (a b : MS τ) : MS τ := sDo c fun k ρ t => if k = true then a ρ t else b ρ t
theorem ms_if {c : Expr} {sa sb : List Stmt} {pos : Pos} {mc : ME τ Bool} {a b : MS τ} (hc : PT X c (tT X.K W mc)) (ha : PSs X sa (tS X.K W a)) (hb : PSs X sb (tS X.K W b)) : PS X (.If c sa sb pos) (tS X.K W (sIf mc a b)) :=
  PS.imp (ps_if hc ha hb) fun E σ H ⟨C, ρ, t, A, p⟩ => by
    refine useS A p fun d t1 v H1 e1 s1 A1 r1 p1 => ?_
    cases r1
    cases d with
    | true => exact ⟨C, ρ, t1, A1, p1⟩
    | false => exact ⟨C, ρ, t1, A1, p1⟩
def sPar (i j : Nat) (a b : ME τ D) : MS τ := sDo (aCons a (aCons b aNil)) fun ds ρ t => match ds with
  | [d, e] => .nx ((ρ.set i (.val d)).set j (.val e)) t
  | _ => .bad
theorem ms_par {s : Stmt} {i j : Nat} {ma mb : ME τ D} (h : PS X s (tPar i j (tA X.K W (aCons ma (aCons mb aNil))))) : PS X s (tS X.K W (sPar i j ma mb)) := PS.imp h fun E σ H ⟨C, ρ, t, A, p⟩ => by
  refine useS A p fun d t1 v H1 e1 s1 A1 r1 p1 => ?_
  cases r1 with
  | nil => exact p1.elim
  | cons r1 r2 => cases r2 with
    | nil => exact p1.elim
    | cons r2 r3 => cases r3 with
      | cons => exact p1.elim
      | nil =>
        exact ⟨_, _, rfl, p1 _ H1 (Stp.setVal.trans Stp.setVal) ((A1.setVal r1).setVal (r2.anti fun _ => Fo.setVal))⟩
def sSetI (i : Nat) (me mi : ME τ D) : MS τ := fun ρ t => match ρ[i]? with
  | some (.own xs) => sDo me (fun d ρ t => sDo mi (fun k ρ t => match k with
      | .int k => match ixN xs.length k with
        | some j => .nx (ρ.set i (.own (xs.set j d))) t
        | none => .bad
      | _ => .bad) ρ t) ρ t
  | _ => .bad
theorem ms_setI {s : Stmt} {i : Nat} {me mi : ME τ D} (h : PS X s (tAsg (tE X.K W me) (gSub (tVar i) (tE X.K W mi) rSetL))) : PS X s (tS X.K W (sSetI i me mi)) := PS.imp h fun E σ H ⟨C, ρ, t, A, p⟩ => by
  unfold sSetI at p
  split at p
  · rename_i xs hi
    refine useS A p fun d t1 v H1 e1 s1 A1 r1 p1 => ?_
    obtain ⟨a, vs, hs, nF, ha, hr⟩ := A1.own i xs hi
    refine ⟨_, hs, ?_⟩
    refine useS A1 p1 fun k t2 y H2 e2 s2 A2 r2 p2 => ?_
    obtain ⟨a', vs', hs', nF', ha', hr'⟩ := A2.own i xs hi
    rw [hs] at hs'; cases hs'
    cases k <;> first
      | exact p2.elim
      | skip
    rename_i k
    cases r2
    dsimp only at p2
    cases q : ixN xs.length k with
    | none => rw [q] at p2; exact p2.elim
    | some j =>
      rw [q] at p2
      obtain ⟨A3, sp⟩ := A2.reOwn (ws := vs'.set j v) (ys := xs.set j d) hi hs (Reps.set (r1.same (s2.mono fun _ => .inl)) j hr')
      exact ⟨a, vs', k, j, rfl, rfl, ha', by rw [hr'.length]; exact q, p2 σ _ sp A3⟩
  · exact p.elim
end
end MM

namespace MM
open PySem PySem.Spec PyProof.Rows L2
section
variable {X : Cx} {W : WX} {τ : Type} [Sto τ] {K : Fg}
def loopW (c : ME τ Bool) (b : MS τ) : Nat → MS τ
  | 0 => fun _ _ => .bad
  | n + 1 => sDo c fun k ρ t => if k = true then (match b ρ t with
      | .nx ρ' t' => loopW c b n ρ' t'
      | .ct ρ' t' => loopW c b n ρ' t'
      | .bk ρ' t' => .nx ρ' t'
      | r => r) else .nx ρ t
theorem loopW_mono {c : ME τ Bool} {b : MS τ} : ∀ {n m : Nat} {ρ : Rho} {t : τ}, n ≤ m → loopW c b n ρ t ≠ .bad → loopW c b m ρ t = loopW c b n ρ t
  | 0, _, _, _, _, h => absurd rfl h
  | n + 1, 0, _, _, hl, _ => absurd hl (by omega)
  | n + 1, m + 1, ρ, t, hl, h => by
    unfold loopW sDo at h ⊢
    cases e : c ρ t with
    | ok k t' =>
      rw [e] at h
      dsimp only at h ⊢
      cases k with
      | false => rfl
      | true =>
        rw [if_pos rfl] at h ⊢
        rw [if_pos rfl]
        cases e2 : b ρ t' with
        | nx ρ' t'' => rw [e2] at h; exact loopW_mono (by omega) h
        | ct ρ' t'' => rw [e2] at h; exact loopW_mono (by omega) h
        | _ => rfl
    | ex n fs t' => rfl
    | bad => rfl
open Classical in
noncomputable def sWhile (c : ME τ Bool) (b : MS τ) : MS τ := fun ρ t => if h : ∃ n, loopW c b n ρ t ≠ .bad then loopW c b h.choose ρ t else .bad
theorem sWhile_of {c : ME τ Bool} {b : MS τ} {n : Nat} {ρ : Rho} {t : τ} (h : loopW c b n ρ t ≠ .bad) : sWhile c b ρ t = loopW c b n ρ t := by
  have hx : ∃ n, loopW c b n ρ t ≠ .bad := ⟨n, h⟩
  unfold sWhile
  rw [dif_pos hx]
  have h1 := hx.choose_spec
  rcases Nat.le_total n hx.choose with q | q
  · exact loopW_mono q h
  · exact (loopW_mono q h1).symm
theorem sWhile_turn (c : ME τ Bool) (b : MS τ) (ρ : Rho) (t : τ) : sWhile c b ρ t = sDo c (fun k ρ t => if k = true then (match b ρ t with
      | .nx ρ' t' => sWhile c b ρ' t'
      | .ct ρ' t' => sWhile c b ρ' t'
      | .bk ρ' t' => .nx ρ' t'
      | r => r) else .nx ρ t) ρ t := by
  have inner : ∀ ρ' t', sWhile c b ρ' t' ≠ .bad → ∃ n, sWhile c b ρ' t' = loopW c b n ρ' t' := fun ρ' t' h => by
    unfold sWhile at h ⊢
    split at h
    · rename_i hx
      rw [dif_pos hx]
      exact ⟨_, rfl⟩
    · exact absurd rfl h
  have inner2 : ∀ ρ' t', sWhile c b ρ' t' = .bad → ∀ n, loopW c b n ρ' t' = .bad := fun ρ' t' h n => by
    cases q : loopW c b n ρ' t' with
    | bad => rfl
    | _ =>
      have := sWhile_of (c := c) (b := b) (n := n) (ρ := ρ') (t := t') (by rw [q]; intro z; cases z)
      rw [h, q] at this
      cases this
  unfold sDo
  cases e : c ρ t with
  | ok k t1 =>
    cases k with
    | false =>
      rw [sWhile_of (n := 1) (by unfold loopW sDo; rw [e]; intro z; cases z)]
      unfold loopW sDo
      rw [e]
      rfl
    | true =>
      dsimp only
      rw [if_pos rfl]
      have two : ∀ ρ' t', (∀ n, loopW c b (n + 1) ρ t = loopW c b n ρ' t') → sWhile c b ρ t = sWhile c b ρ' t' := fun ρ' t' h => by
        by_cases q : sWhile c b ρ' t' = .bad
        · rw [q]
          unfold sWhile
          rw [dif_neg]
          rintro ⟨n, hn⟩
          cases n with
          | zero => exact hn rfl
          | succ n => rw [h n, inner2 _ _ q n] at hn; exact hn rfl
        · obtain ⟨n, hn⟩ := inner _ _ q
          rw [hn, ← h n]
          exact sWhile_of (by rw [h n, ← hn]; exact q)
      cases e2 : b ρ t1 with
      | nx ρ' t2 => exact two ρ' t2 fun n => by rw [show loopW c b (n + 1) = sDo c _ from rfl]; unfold sDo; rw [e]; dsimp only; rw [if_pos rfl, e2]
      | ct ρ' t2 => exact two ρ' t2 fun n => by rw [show loopW c b (n + 1) = sDo c _ from rfl]; unfold sDo; rw [e]; dsimp only; rw [if_pos rfl, e2]
      | bk ρ' t2 =>
        have l : loopW c b 1 ρ t = .nx ρ' t2 := by unfold loopW sDo; rw [e]; dsimp only; rw [if_pos rfl, e2]
        rw [sWhile_of (n := 1) (by rw [l]; intro z; cases z), l]
      | rt d t2 =>
        have l : loopW c b 1 ρ t = .rt d t2 := by unfold loopW sDo; rw [e]; dsimp only; rw [if_pos rfl, e2]
        rw [sWhile_of (n := 1) (by rw [l]; intro z; cases z), l]
      | ex n fs ρ' t2 =>
        have l : loopW c b 1 ρ t = .ex n fs ρ' t2 := by unfold loopW sDo; rw [e]; dsimp only; rw [if_pos rfl, e2]
        rw [sWhile_of (n := 1) (by rw [l]; intro z; cases z), l]
      | bad =>
        unfold sWhile
        rw [dif_neg]
        rintro ⟨n, hn⟩
        cases n with
        | zero => exact hn rfl
        | succ n => exact hn (by unfold loopW sDo; rw [e]; dsimp only; rw [if_pos rfl, e2])
  | ex n fs t1 =>
    have l : loopW c b 1 ρ t = .ex n fs ρ t1 := by unfold loopW sDo; rw [e]
    rw [sWhile_of (n := 1) (by rw [l]; intro z; cases z), l]
  | bad =>
    unfold sWhile
    rw [dif_neg]
    rintro ⟨n, hn⟩
    cases n with
    | zero => exact hn rfl
    | succ n => exact hn (by unfold loopW sDo; rw [e])
theorem while_red {c : ME τ Bool} {b : MS τ} {E : Ends} {σ : St} {H : Hp} (p : tS K W (sWhile c b) E σ H) : tWhile (tT K W c) (tS K W b) E σ H := by
  obtain ⟨C, ρ, t, A, p⟩ := p
  unfold sWhile at p
  split at p
  · rename_i hx
    refine ⟨fun n σ H => ∃ ρ t, At K C ρ t σ H ∧ SPost K W C (Fo C.F ρ σ) H (loopW c b n ρ t) E, ⟨_, ρ, t, A, p⟩, ?_⟩
    rintro n σ H ⟨ρ, t, A, p⟩
    cases n with
    | zero => exact p.elim
    | succ n =>
      refine useS A p fun k t1 v H1 e1 s1 A1 r1 p1 => ?_
      cases r1
      cases k with
      | false => exact p1 σ H1 (Stp.refl _ _) A1
      | true =>
        rw [if_pos rfl] at p1
        refine ⟨fun σ' H' => ∃ ρ t, At K C ρ t σ' H' ∧ SPost K W C (Fo C.F ρ σ') H' (loopW c b n ρ t) E, fun σ' H' h => ⟨n, Nat.lt_succ_self n, h⟩, C, ρ, t1, A1, ?_⟩
        cases e2 : b ρ t1 with
        | nx ρ' t2 => rw [e2] at p1; exact fun σ' H' s' A' => ⟨ρ', t2, A', SPost.rebase p1 s'⟩
        | ct ρ' t2 => rw [e2] at p1; exact fun σ' H' s' A' => ⟨ρ', t2, A', SPost.rebase p1 s'⟩
        | bk ρ' t2 => rw [e2] at p1; exact p1
        | rt d t2 => rw [e2] at p1; exact p1
        | ex n fs ρ' t2 => rw [e2] at p1; exact p1
        | bad => rw [e2] at p1; exact p1
  · exact p.elim
theorem ms_while {c : Expr} {body : List Stmt} {pos : Pos} {mc : ME τ Bool} {b : MS τ} (hp : PassesOwn (model X.prog X.w) X.A X.env X.xe) (hc : PT X c (tT X.K W mc)) (hb : PSs X body (tS X.K W b)) : PS X (.While c body [] pos) (tS X.K W (sWhile mc b)) :=
  PS.imp (ps_while hp hc hb) fun _ _ _ p => while_red p

def rIt : Rel It (List D) := fun K _ _ F _ H' J ds => ∃ (G : Hp → Prop) (Y : Nat → Hp → V → Hp → Prop), Walk J ds.length G Y ∧ (∀ H2, Sm F H' H2 → G H2) ∧
  ∀ (Fc : Fp) (i : Nat) (H2 : Hp) (x : V) (H3 : Hp), i < ds.length → Stp F H' Fc H2 → Dom Fc H2 → Y i H2 x H3 → Same H2 H3 ∧ ∃ d, ds[i]? = some d ∧ Rep K Fc H3 x d
theorem okI : RelOk rIt := ⟨fun _ _ _ _ _ _ _ _ _ _ h => h⟩
abbrev tI {τ : Type} [Sto τ] (K : Fg) (W : WX) (m : ME τ (List D)) : TI := tG rIt K W m
theorem PI.imp {tg e : Expr} {t t' : TI} (h : PI X tg e t) (i : ∀ σ H Q, t' σ H Q → t σ H Q) : PI X tg e t' := ⟨fun pins s σ H R I q => h.run pins s σ H R I (i σ H R q)⟩
def itD : D → Option (List D)
  | .lst ds => some ds
  | .tup ds => some ds
  | .scr ns => some (ns.map .int)
  | _ => none
theorem rIt_list {K : Fg} {I : Fp → Hp → Prop} {F0 F : Fp} {H H' : Hp} {a : Addr} {vs : List V} {ds : List D} (hl : LstF K F H' a vs) (r : Reps K F H' vs ds) : rIt K I F0 F H H' (Itl K a) ds := by
  have w : Walk (Itl K a) ds.length (fun H => SqL K H a vs) (YAt vs) := by rw [← r.length]; exact walk_list
  refine ⟨_, _, w, fun H2 s => (hl.step ⟨s, fun _ z => .inl z⟩).sq, fun Fc i H2 x H3 hi s dm y => ?_⟩
  obtain ⟨rfl, y⟩ := y
  obtain ⟨d, e, q⟩ := (r.step s).getV y
  exact ⟨fun _ _ e => e, d, e, q⟩
theorem rIt_scr {K : Fg} {I : Fp → Hp → Prop} {F0 F : Fp} {H H' : Hp} {a : Addr} {ns : List Int} (hl : ScrF K F H' a (ns.map V.int)) : rIt K I F0 F H H' (Itl K a) (ns.map .int) := by
  have w : Walk (Itl K a) (ns.map D.int).length (fun H => SqL K H a (ns.map V.int)) (YAt (ns.map V.int)) := by rw [List.length_map, ← List.length_map (f := V.int)]; exact walk_list
  refine ⟨_, _, w, fun H2 s => (hl.step ⟨s, fun _ z => .inl z⟩).sq, fun Fc i H2 x H3 hi s dm y => ?_⟩
  obtain ⟨rfl, y⟩ := y
  rw [List.getElem?_map] at y ⊢
  cases e : ns[i]? with
  | none => rw [e] at y; cases y
  | some n => rw [e] at y; cases y; exact ⟨fun _ _ e => e, _, rfl, .int n⟩
theorem rIt_tup {K : Fg} {I : Fp → Hp → Prop} {F0 F : Fp} {H H' : Hp} {a : Addr} {vs : List V} {ds : List D} (hl : TupF K F H' a vs) (r : Reps K F H' vs ds) : rIt K I F0 F H H' (Itt K a) ds := by
  have w : Walk (Itt K a) ds.length (fun H => SqT K H a vs) (YAt vs) := by rw [← r.length]; exact walk_tup
  refine ⟨_, _, w, fun H2 s => (hl.step ⟨s, fun _ z => .inl z⟩).sq, fun Fc i H2 x H3 hi s dm y => ?_⟩
  obtain ⟨rfl, y⟩ := y
  obtain ⟨d, e, q⟩ := (r.step s).getV y
  exact ⟨fun _ _ e => e, d, e, q⟩
def iSeq (K : Fg) (tl : TE) : TI := fun σ H R => tl σ H fun x H1 => (∃ a, x = .ref a ∧ (∃ xs, SqL K H1 a xs) ∧ R (Itl K a) H1) ∨ (∃ a, x = .ref a ∧ (∃ xs, SqT K H1 a xs) ∧ R (Itt K a) H1)
theorem pi_seq {tg l : Expr} {tl : TE} (hl : PE X l tl) : PI X tg l (iSeq X.K tl) := by
  refine ⟨fun pins s σ H R I h => ?_⟩
  refine thn (hl.run pins s σ H _ I h) fun v s1 ⟨x, H1, I1, r1, q1⟩ => ?_
  rcases q1 with ⟨a, e, ⟨xs, hq⟩, q⟩ | ⟨a, e, ⟨xs, hq⟩, q⟩
  · subst e
    cases r1
    obtain ⟨its, rv, p, hz⟩ := I1.list hq
    refine wpAny_pyIter_list p.isList ?_
    refine ⟨s1.heap.objs.size, [s1.heap.objs.size], _, _, H1, rfl, I1.kept (t' := s1.toks) fun b o e => Heap.get?_push_of_some _ e, turn_list a _, ⟨_, Heap.get?_push_size _ rfl, rfl, rfl⟩, fun b hb => ?_, q⟩
    have e : b = s1.heap.objs.size := by simpa using hb
    subst e
    exact I1.fpOk (Nat.le_refl _) (I1.hok.fresh (Nat.le_refl _))
  · subst e
    cases r1
    obtain ⟨its, rv, p, hz⟩ := I1.tuple hq
    refine wpAny_pyIter_tuple (show s1.heap.IsTuple a its.toArray from p) ?_
    refine ⟨s1.heap.objs.size, [s1.heap.objs.size], _, _, H1, rfl, I1.kept (t' := s1.toks) fun b o e => Heap.get?_push_of_some _ e, turn_tuple a _, ⟨_, Heap.get?_push_size _ rfl, rfl, rfl⟩, fun b hb => ?_, q⟩
    have e : b = s1.heap.objs.size := by simpa using hb
    subst e
    exact I1.fpOk (Nat.le_refl _) (I1.hok.fresh (Nat.le_refl _))
theorem mi_seq {tg l : Expr} {m : ME τ D} (h : PE X l (tE X.K W m)) : PI X tg l (tI X.K W (e1 itD m)) := PI.imp (pi_seq h) fun σ H R ⟨C, ρ, t, A, p⟩ => by
  refine use okI A p fun d t1 v H1 e1 s1 A1 r1 p1 => ?_
  cases d <;> first
    | exact p1.elim
    | skip
  · cases r1 with
    | tup hl r => exact .inr ⟨_, rfl, ⟨_, hl.sq⟩, p1 _ H1 (Sm.refl _ _) A1.st (rIt_tup hl r)⟩
  · cases r1 with
    | lst hl r => exact .inl ⟨_, rfl, ⟨_, hl.sq⟩, p1 _ H1 (Sm.refl _ _) A1.st (rIt_list hl r)⟩
  · cases r1 with
    | scr hl => exact .inl ⟨_, rfl, ⟨_, hl.sq⟩, p1 _ H1 (Sm.refl _ _) A1.st (rIt_scr hl)⟩
def rngD (lo : Int) (n : Nat) : List D := (List.range n).map fun i => .int (lo + (i : Nat))
theorem rIt_rng {K : Fg} {I : Fp → Hp → Prop} {F0 F : Fp} {H H' : Hp} {lo : Int} {n : Nat} : rIt K I F0 F H H' (Itr lo n) (rngD lo n) := by
  have w : Walk (Itr lo n) (rngD lo n).length (fun _ => True) (YFn fun i => .int (lo + i)) := by
    rw [show (rngD lo n).length = n by simp [rngD]]
    exact walk_range
  refine ⟨_, _, w, fun _ _ => trivial, fun Fc i H2 x H3 hi s dm y => ?_⟩
  obtain ⟨rfl, rfl⟩ := y
  have hn : i < n := by simpa [rngD] using hi
  exact ⟨fun _ _ e => e, .int (lo + i), by simp [rngD, hn], .int _⟩
def fRng1 : List D → Option (List D)
  | [.int j] => if -(2 ^ 62) ≤ j ∧ j < 2 ^ 62 then some (rngD 0 j.toNat) else none
  | _ => none
def fRng2 : List D → Option (List D)
  | [.int i, .int j] => if -(2 ^ 62) ≤ i ∧ i < 2 ^ 62 ∧ -(2 ^ 62) ≤ j ∧ j < 2 ^ 62 then some (rngD i (j - i).toNat) else none
  | _ => none
theorem mi_range1 {tg a : Expr} {p pos : Pos} {m : ME τ (List D)} (hg : Gl X "range") (hm : X.mg "range" = none) (ha : PA X [a] (tAW X.K W m)) (hs : starEach [a] X.env = [(false, eval a X.env)] := by rfl) : PI X tg (.Call (.Name "range" p) [a] [] pos) (tI X.K W (e1 fRng1 m)) :=
  PI.imp (pi_range1 hg hm ha hs) fun σ H R ⟨C, ρ, t, A, p⟩ => by
    refine use okI A p fun d t1 v H1 e1 s1 A1 r1 p1 => ?_
    unfold fRng1 at p1
    split at p1
    · rename_i j
      obtain ⟨x, rfl, rx⟩ := RepsW.one r1
      cases rx.intOf
      split at p1
      · rename_i hj
        exact ⟨j, rfl, hj.1, hj.2, p1 _ H1 (Sm.refl _ _) A1.st rIt_rng⟩
      · exact p1.elim
    · exact p1.elim
theorem mi_range2 {tg a b : Expr} {p pos : Pos} {m : ME τ (List D)} (hg : Gl X "range") (hm : X.mg "range" = none) (ha : PA X [a, b] (tAW X.K W m)) (hs : starEach [a, b] X.env = [(false, eval a X.env), (false, eval b X.env)] := by rfl) (hs2 : starEach [b] X.env = [(false, eval b X.env)] := by rfl) :
    PI X tg (.Call (.Name "range" p) [a, b] [] pos) (tI X.K W (e1 fRng2 m)) :=
  PI.imp (pi_range2 hg hm ha hs hs2) fun σ H R ⟨C, ρ, t, A, p⟩ => by
    refine use okI A p fun d t1 v H1 e1 s1 A1 r1 p1 => ?_
    unfold fRng2 at p1
    split at p1
    · rename_i i j
      obtain ⟨x, y, rfl, rx, ry⟩ := RepsW.two r1
      cases rx.intOf
      cases ry.intOf
      split at p1
      · rename_i hj
        exact ⟨i, j, rfl, hj, p1 _ H1 (Sm.refl _ _) A1.st rIt_rng⟩
      · exact p1.elim
    · exact p1.elim

def loopF (g : Tgt) (b : MS τ) : List D → MS τ
  | [] => fun ρ t => .nx ρ t
  | d :: ds => fun ρ t => match g ρ d with
    | some ρ1 => (match b ρ1 t with
      | .nx ρ' t' => loopF g b ds ρ' t'
      | .ct ρ' t' => loopF g b ds ρ' t'
      | .bk ρ' t' => .nx ρ' t'
      | r => r)
    | none => .bad
def sFor (m : ME τ (List D)) (g : Tgt) (b : MS τ) : MS τ := sDo m fun ds ρ t => loopF g b ds ρ t
theorem for_red {m : ME τ (List D)} {g : Tgt} {vs : List Nat} {b : MS τ} {E : Ends} {σ : St} {H : Hp} (p : tS K W (sFor m g b) E σ H) : tFor (tI K W m) (tTg τ K g vs) (tS K W b) E σ H := by
  obtain ⟨C, ρ0, t0, A0, p⟩ := p
  refine useS A0 p fun ds t1 J H1 e1 s1 A1 r1 p1 => ?_
  obtain ⟨G, Y, w, hG, hY⟩ := r1
  refine for_it w (fun i σ' H' => ∃ ρ t, At K C ρ t σ' H' ∧ Stp (Fo C.F ρ0 σ) H1 (Fo C.F ρ σ') H' ∧ SPost K W C (Fo C.F ρ σ') H' (loopF g b (ds.drop i) ρ t) E) ⟨ρ0, t1, A1, Stp.refl _ _, p1⟩ ?_ ?_ ?_
  · rintro i σ' H' hi ⟨ρ, t, A, s, q⟩
    exact hG H' s.keep
  · rintro i x σ' H' H'' hi ⟨ρ, t, A, s, q⟩ y
    obtain ⟨sm, d, ed, r⟩ := hY (Fo C.F ρ σ') i H' x H'' hi s A.dom y
    have A' := A.next (Sm.of_same sm) (C.stay A.st sm)
    have dr : ds.drop i = d :: ds.drop (i + 1) := by
      obtain ⟨hl, e⟩ := List.getElem?_eq_some_iff.mp ed
      rw [List.drop_eq_getElem_cons hl, e]
    rw [dr] at q
    unfold loopF at q
    cases eg : g ρ d with
    | none => rw [eg] at q; exact q.elim
    | some ρ1 =>
      rw [eg] at q
      refine ⟨C, ρ, t, d, A', r, ρ1, eg, fun σ2 Hg _ _ s2 A2 => ⟨C, ρ1, t, A2, ?_⟩⟩
      have s02 : Stp (Fo C.F ρ σ') H' (Fo C.F ρ1 σ2) Hg := Stp.trans (Stp.of_sm (Sm.of_same (F := C.F) sm) fun _ => .inl) s2
      dsimp only at q
      cases eb : b ρ1 t with
      | nx ρ' t' => rw [eb] at q; exact fun σ3 H3 s3 A3 => ⟨ρ', t', A3, s.trans (s02.trans s3), SPost.rebase q (s02.trans s3)⟩
      | ct ρ' t' => rw [eb] at q; exact fun σ3 H3 s3 A3 => ⟨ρ', t', A3, s.trans (s02.trans s3), SPost.rebase q (s02.trans s3)⟩
      | bk ρ' t' => rw [eb] at q; exact SPost.rebase (K := K) (W := W) (E := E) (r := .nx ρ' t') q s02
      | rt v t' => rw [eb] at q; exact SPost.rebase (K := K) (W := W) (r := .rt v t') (E := E) q s02
      | ex n fs ρ' t' => rw [eb] at q; exact SPost.rebase (K := K) (W := W) (r := .ex n fs ρ' t') (E := E) q s02
      | bad => rw [eb] at q; exact q.elim
  · rintro σ' H' ⟨ρ, t, A, s, q⟩
    rw [List.drop_length] at q
    exact q σ' H' (Stp.refl _ _) A
theorem ms_for {tg iter : Expr} {body : List Stmt} {pos : Pos} {m : ME τ (List D)} {g : Tgt} {vs : List Nat} {b : MS τ} (hp : PassesOwn (model X.prog X.w) X.A X.env X.xe) (hc : X.calm = true) (hi : PI X tg iter (tI X.K W m)) (hg : PG X tg (tTg τ X.K g vs)) (hb : PSs X body (tS X.K W b))
    (hs : ∀ x, foldedSetIterable iter X.env x = pure x := by intro _; rfl) : PS X (.For tg iter body [] pos) (tS X.K W (sFor m g b)) := PS.imp (ps_for hp hc hi hg hb hs) fun _ _ _ p => for_red p
end
end MM

namespace MM
open PySem PySem.Spec PyProof.Rows L2
abbrev W0 : WX := fun _ _ _ _ => False
section
variable {X : Cx} {W : WX} {τ : Type} [Sto τ] {K : Fg}
def wipeR (ρ : Rho) : List Nat → Rho
  | [] => ρ
  | v :: vs => (wipeR ρ vs).set v .no
theorem wipeR_some {ρ : Rho} {i : Nat} {x : Slot} : ∀ {vs : List Nat}, (wipeR ρ vs)[i]? = some x → x ≠ .no → ρ[i]? = some x ∧ i ∉ vs
  | [], h, _ => ⟨h, by simp⟩
  | v :: vs, h, hn => by
    unfold wipeR at h
    rcases set_at h with ⟨_, e, _⟩ | ⟨ne, h⟩
    · exact absurd e hn
    · obtain ⟨h1, h2⟩ := wipeR_some h hn
      exact ⟨h1, by simp only [List.mem_cons, not_or]; exact ⟨fun e => ne e.symm, h2⟩⟩
theorem wipeR_length (ρ : Rho) : ∀ vs : List Nat, (wipeR ρ vs).length = ρ.length
  | [] => rfl
  | v :: vs => by unfold wipeR; rw [List.length_set, wipeR_length ρ vs]
theorem wipe_keep {σ : St} {i : Nat} : ∀ {vs : List Nat}, i ∉ vs → (wipe σ vs)[i]? = σ[i]?
  | [], _ => rfl
  | v :: vs, h => by
    simp only [List.mem_cons, not_or] at h
    unfold wipe
    rw [List.getElem?_set_ne (fun e => h.1 e.symm), wipe_keep h.2]
def noEx {α : Type} (r : Res τ α) : Res τ α := match r with
  | .ok a t => .ok a t
  | _ => .bad
def compL (g : Tgt) (tt : ME τ Bool) (te : ME τ D) (ρ : Rho) : List D → τ → Res τ (List D)
  | [], t => .ok [] t
  | d :: ds, t => match g ρ d with
    | some ρ1 => (noEx (tt ρ1 t)).bind fun b t => if b = true then (noEx (te ρ1 t)).bind fun y t => (compL g tt te ρ ds t).bind fun ys t => .ok (y :: ys) t else compL g tt te ρ ds t
    | none => .bad
theorem wipe_eq {σ σ' : St} {vs ws : List Nat} (hl : σ'.length = σ.length) (h : ∀ j, j ∉ vs → σ'[j]? = σ[j]?) (hs : ∀ j, j ∈ vs → j ∈ ws) : wipe σ' ws = wipe σ ws := by
  have wn : ∀ (τ0 : St) (us : List Nat) (j : Nat), j ∈ us → j < τ0.length → (wipe τ0 us)[j]? = some none := fun τ0 us => by
    induction us with
    | nil => intro j h; cases h
    | cons u us ih =>
      intro j hj hl
      unfold wipe
      by_cases e : u = j
      · subst e
        rw [List.getElem?_set_self (by rw [wipe_length]; exact hl)]
      · rw [List.getElem?_set_ne e]
        exact ih j ((List.mem_cons.mp hj).resolve_left fun q => e q.symm) hl
  refine List.ext_getElem? fun j => ?_
  by_cases q : j ∈ ws
  · by_cases l : j < σ.length
    · rw [wn σ' ws j q (by rw [hl]; exact l), wn σ ws j q l]
    · rw [List.getElem?_eq_none (by rw [wipe_length, hl]; omega), List.getElem?_eq_none (by rw [wipe_length]; omega)]
  · rw [wipe_keep q, wipe_keep q]
    exact h j fun z => q (hs j z)
def noOwn (ρ : Rho) (vs : List Nat) : Bool := vs.all fun v => match ρ[v]? with
  | some (.own _) => false
  | some (.dct ..) => false
  | _ => true
theorem noOwn_mine {ρ : Rho} {vs : List Nat} (hno : noOwn ρ vs = true) {j : Nat} {x : Slot} (h : ρ[j]? = some x ∧ x.mine = true) (hj : j ∈ vs) : False := by
  have z := List.all_eq_true.mp hno j hj
  rw [h.1] at z
  cases x with
  | own _ => cases z
  | dct _ _ => cases z
  | no => cases h.2
  | val _ => cases h.2
def eComp (mi : ME τ (List D)) (vs : List Nat) (g : Tgt) (tt : ME τ Bool) (te : ME τ D) : ME τ (List D) := fun ρ t => (mi ρ t).bind fun ds t => if ds.length ≤ 16777216 ∧ noOwn ρ vs = true then compL g tt te (wipeR ρ vs) ds t else .bad
theorem At.blk {C : SC τ} {ρ : Rho} {t : τ} {σ : St} {H1 H' : Hp} {D0 : Addr} {acc : HO} {vs : List Nat} {t' : τ} (A : At K C ρ t σ H1) (nD : H1 D0 = none) (s : Sm C.F H1 H') (iv : C.Iv t' (fun b => Fo C.F ρ σ b ∨ b = D0) H') (hD : H' D0 = some acc) :
    At K (C.cmp D0 acc) (wipeR ρ vs) t' (wipe σ vs) H' ∧ ∀ b, Fo (C.cmp D0 acc).F (wipeR ρ vs) (wipe σ vs) b → Fo C.F ρ σ b ∨ b = D0 := by
  have tr : ∀ {j : Nat} {x : Slot}, ((wipeR ρ vs)[j]? = some x ∧ x.mine = true) → (ρ[j]? = some x ∧ x.mine = true) ∧ j ∉ vs := fun {j x} h => by
    obtain ⟨q1, q2⟩ := wipeR_some h.1 (by intro z; rw [z] at h; cases h.2)
    exact ⟨⟨q1, h.2⟩, q2⟩
  have fo : ∀ b, Fo (C.cmp D0 acc).F (wipeR ρ vs) (wipe σ vs) b → Fo C.F ρ σ b ∨ b = D0 := fun b h => by
    rcases h with (h | h) | ⟨j, xs, h1, h2⟩
    · exact .inl (.inl h)
    · exact .inr h
    · obtain ⟨h3, h4⟩ := tr h1
      exact .inl (.inr ⟨j, xs, h3, by rw [← wipe_keep h4]; exact h2⟩)
  have sp : Stp (Fo C.F ρ σ) H1 (Fo (C.cmp D0 acc).F (wipeR ρ vs) (wipe σ vs)) H' := ⟨fun b o n e => s b o (fun z => n (.inl z)) e, fun b h => (fo b h).elim .inl fun e => .inr (by rw [e]; exact nD)⟩
  refine ⟨⟨Sto.cmp _ _ _ _ (fun z => C.dom _ _ _ _ A.st z nD) A.okC, ⟨C.less iv fo, hD⟩, by rw [wipe_length, wipeR_length, A.len], fun j d h => ?_, fun j xs h => ?_, fun i j xs ys h1 h2 e => ?_⟩, fo⟩
  · obtain ⟨h3, h4⟩ := wipeR_some h (by intro z; cases z)
    obtain ⟨v, h5, h6⟩ := A.val j d h3
    exact ⟨v, by rw [wipe_keep h4]; exact h5, h6.step sp⟩
  · obtain ⟨h3, h4⟩ := tr h
    obtain ⟨a, ws, h5, h6, h7, h8⟩ := A.mine j xs h3
    refine ⟨a, ws, by rw [wipe_keep h4]; exact h5, fun z => z.elim h6 fun e => ?_, s a _ h6 h7, h8.step sp⟩
    rw [e, nD] at h7; cases h7
  · obtain ⟨h3, h4⟩ := tr h1
    obtain ⟨h5, h6⟩ := tr h2
    rw [wipe_keep h4, wipe_keep h6] at e
    exact A.dis i j xs ys h3 h5 e
def rItO : Rel It (List D) := fun K _ F0 F _ H' J ds => ∃ (G : Hp → Prop) (Y : Nat → Hp → V → Hp → Prop), Walk J ds.length G Y ∧ (∀ H2, Sm F0 H' H2 → G H2) ∧
  ∀ (Fc : Fp) (i : Nat) (H2 : Hp) (x : V) (H3 : Hp), i < ds.length → Stp F H' Fc H2 → Dom Fc H2 → Y i H2 x H3 → Same H2 H3 ∧ ∃ d, ds[i]? = some d ∧ Rep K Fc H3 x d
abbrev tIO {τ : Type} [Sto τ] (K : Fg) (W : WX) (m : ME τ (List D)) : TI := tG rItO K W m
theorem toO {tg e : Expr} {m : ME τ (List D)} (h : PI X tg e (tI X.K W m)) : PI X tg e (tIO X.K W m) := PI.imp h fun σ H Q ⟨C, ρ, t, A, p⟩ => ⟨C, ρ, t, A, by
  cases q : m ρ t with
  | ok ds t' =>
    rw [q] at p
    exact fun J H' s i ⟨G, Y, w, hG, hY⟩ => p J H' s i ⟨G, Y, w, fun H2 s2 => hG H2 fun b o n e => s2 b o (fun z => n (.inl z)) e, hY⟩
  | ex n fs t' => rw [q] at p; exact p
  | bad => rw [q] at p; exact p⟩
theorem lc_red {mi : ME τ (List D)} {vs ws : List Nat} {g : Tgt} {tt : ME τ Bool} {te : ME τ D} {σ : St} {H : Hp} {Q : VK} (hv : ∀ j, j ∈ ws → j ∈ vs) (p : tF K W (eComp mi vs g tt te) σ H Q) : tLc (tIO K W mi) (tTg τ K g ws) (tT K W0 tt) (tE K W0 te) vs σ H Q := by
  obtain ⟨C, ρ, t0, A0, p⟩ := p
  refine use okF A0 p fun ds t1 J H1 e1 s1 A1 r1 p1 => ?_
  intro D0 nD
  split at p1
  · rename_i hlo
    obtain ⟨hlen, hno⟩ := hlo
    have own_out : ∀ (j : Nat) (x : Slot), (ρ[j]? = some x ∧ x.mine = true) → j ∉ vs := fun j x h hj => noOwn_mine hno h hj
    obtain ⟨G, Y, w, hG, hY⟩ := r1
    have nF0 : ¬ Fo C.F ρ σ D0 := fun z => A1.dom D0 z nD
    have s0 : Sm C.F H1 (upd H1 D0 (.lst [])) := Sm.of_same (same_upd nD)
    have sp0 : Stp (Fo C.F ρ σ) H1 (fun b => Fo C.F ρ σ b ∨ b = D0) (upd H1 D0 (.lst [])) := ⟨fun b o _ e => same_upd nD b o e, fun b h => h.elim .inl fun e => .inr (by rw [e]; exact nD)⟩
    refine lc_it w (fun i H' => ∃ (t : τ) (av : List V) (ad : List D), C.Iv t (fun b => Fo C.F ρ σ b ∨ b = D0) H' ∧ H' D0 = some (.lst av) ∧ Reps K (fun b => Fo C.F ρ σ b ∨ b = D0) H' av ad ∧ av.length ≤ i ∧ Sm C.F H1 H' ∧
        Post rF K W C (Fo C.F ρ σ) σ H1 ((compL g tt te (wipeR ρ vs) (ds.drop i) t).bind fun ys t => .ok (ad ++ ys) t) Q)
      ⟨t1, [], [], C.step _ _ _ _ _ A1.st (fun b o _ e => same_upd nD b o e) sp0, upd_same, .nil, Nat.le_refl _, s0, ?_⟩ ?_ ?_ ?_
    · rw [List.drop_zero]
      cases q : compL g tt te (wipeR ρ vs) ds t1 with
      | ok d t => rw [q] at p1; exact p1
      | ex n fs t => rw [q] at p1; exact p1
      | bad => rw [q] at p1; exact p1
    · rintro i H' hi ⟨t, av, ad, iv, hD, ra, hl, sm, q⟩
      exact hG H' sm
    · rintro i x H' H'' hi ⟨t, av, ad, iv, hD, ra, hl, sm, q⟩ y
      obtain ⟨AB, fo⟩ := At.blk (vs := vs) A1 nD sm iv hD
      have sp : Stp (Fo C.F ρ σ) H1 (Fo (C.cmp D0 (.lst av)).F (wipeR ρ vs) (wipe σ vs)) H' := ⟨fun b o n e => sm b o (fun z => n (.inl z)) e, fun b h => (fo b h).elim .inl fun e => .inr (by rw [e]; exact nD)⟩
      obtain ⟨sy, d, ed, r⟩ := hY _ i H' x H'' hi sp AB.dom y
      have AB2 := AB.next (Sm.of_same sy) ((C.cmp D0 (.lst av)).stay AB.st sy)
      have dr : ds.drop i = d :: ds.drop (i + 1) := by
        obtain ⟨hl, e⟩ := List.getElem?_eq_some_iff.mp ed
        rw [List.drop_eq_getElem_cons hl, e]
      rw [dr] at q
      unfold compL at q
      cases eg : g (wipeR ρ vs) d with
      | none => rw [eg] at q; exact q.elim
      | some ρ1 =>
        rw [eg] at q
        dsimp only at q
        refine ⟨C.cmp D0 (.lst av), wipeR ρ vs, t, d, AB2, r, ρ1, eg, fun σ2 Hg f2 mg s2 A2 => ⟨(wipe_eq (ws := vs) f2.1 (fun j hj => (f2.2 j hj).1) hv).trans (wipe_eq (ws := vs) (vs := vs) (wipe_length σ vs) (fun j hj => wipe_keep hj) fun _ h => h), ?_⟩⟩
        have sy : Same H' Hg := fun b o e => mg b o (sy b o e)
        have sm2 : Sm C.F H1 Hg := sm.trans (Sm.of_same sy)
        have smB : ∀ {H3 : Hp}, Sm (C.cmp D0 (.lst av)).F Hg H3 → Sm C.F H1 H3 := fun {H3} s3 b o n e => s3 b o (fun z => z.elim n fun q => by rw [q, nD] at e; cases e) (sm2 b o n e)
        have big : ∀ b, (Fo C.F ρ σ b ∨ b = D0) → Fo (C.cmp D0 (.lst av)).F ρ1 σ2 b := fun b h => by
          rcases h with (h | ⟨j, xs, h1, h2⟩) | h
          · exact .inl (.inl h)
          · have hj := own_out j xs h1
            have hj2 : j ∉ ws := fun z => hj (hv j z)
            refine .inr ⟨j, xs, ⟨?_, h1.2⟩, ?_⟩
            · rw [(f2.2 j hj2).2]
              have : ∀ us : List Nat, j ∉ us → (wipeR ρ us)[j]? = ρ[j]? := fun us => by
                induction us with
                | nil => intro _; rfl
                | cons u us ih =>
                  intro hu
                  simp only [List.mem_cons, not_or] at hu
                  unfold wipeR
                  rw [List.getElem?_set_ne (fun e => hu.1 e.symm), ih hu.2]
              rw [this vs hj]; exact h1.1
            · rw [(f2.2 j hj2).1, wipe_keep hj, h2]
          · exact .inl (.inr h)
        have raB : ∀ {H3 : Hp}, Sm (C.cmp D0 (.lst av)).F Hg H3 → Reps K (fun b => Fo C.F ρ σ b ∨ b = D0) H3 av ad := fun {H3} s3 => (ra.same (Sm.of_same sy)).same (s3.mono fun b h => h.elim (fun z => .inl (.inl z)) .inr)
        refine ⟨C.cmp D0 (.lst av), ρ1, t, A2, ?_⟩
        unfold noEx at q
        cases et : tt ρ1 t with
        | bad => rw [et] at q; exact q.elim
        | ex n fs t' => rw [et] at q; exact q.elim
        | ok c t3 =>
          rw [et] at q
          intro c' H3 s3 i3 ec
          cases ec
          cases c with
          | false =>
            rw [if_neg Bool.false_ne_true]
            exact ⟨t3, av, ad, C.less i3.1 big, i3.2, raB s3, Nat.le_succ_of_le hl, smB s3, q⟩
          | true =>
            rw [if_pos rfl]
            have A3 := A2.next s3 i3
            refine ⟨C.cmp D0 (.lst av), ρ1, t3, A3, ?_⟩
            simp only [Res.bind_ok, if_true] at q
            cases ee : te ρ1 t3 with
            | bad => rw [ee] at q; exact q.elim
            | ex n fs t' => rw [ee] at q; exact q.elim
            | ok y t4 =>
              rw [ee] at q
              intro yv H4 s4 i4 ry
              have s34 : Sm (C.cmp D0 (.lst av)).F Hg H4 := s3.trans s4
              have yB : Rep K (fun b => Fo C.F ρ σ b ∨ b = D0) H4 yv y := Rep.anti ry big
              refine ⟨av, i4.2, Nat.lt_of_le_of_lt hl (Nat.lt_of_lt_of_le hi hlen), t4, av ++ [yv], ad ++ [y], ?_, upd_same, ?_, by rw [List.length_append]; exact Nat.succ_le_succ hl, ?_, ?_⟩
              · refine C.step _ _ _ _ _ (C.less i4.1 big) (fun b o h e => ?_) ⟨fun b o n e => by rw [upd_ne (fun z => n (.inr z))]; exact e, fun b h => .inl h⟩
                rw [upd_ne (fun z => nF0 (by rw [← z]; exact .inl h))]
                exact e
              · have sp4 : Stp (fun b => Fo C.F ρ σ b ∨ b = D0) H4 (fun b => Fo C.F ρ σ b ∨ b = D0) (upd H4 D0 (.lst (av ++ [yv]))) := ⟨fun b o n e => by rw [upd_ne (fun z => n (.inr z))]; exact e, fun b h => .inl h⟩
                exact Reps.step sp4 ((raB s34).snoc yB)
              · intro b o n e
                have nb : b ≠ D0 := fun z => by rw [z, nD] at e; cases e
                rw [upd_ne nb]
                exact smB s34 b o n e
              · simp only [noEx, Res.bind_ok] at q
                cases ec : compL g tt te (wipeR ρ vs) (ds.drop (i + 1)) t4 with
                | ok zs t5 => rw [ec] at q; simp only [Res.bind_ok, List.append_assoc, List.singleton_append] at q ⊢; exact q
                | ex n fs t5 => rw [ec] at q; exact q
                | bad => rw [ec] at q; exact q
    · rintro H' ⟨t, av, ad, iv, hD, ra, hl, sm, q⟩
      rw [List.drop_length] at q
      simp only [compL, Res.bind_ok, List.append_nil] at q
      exact q (.ref D0) H' sm (C.less iv fun _ => .inl) ⟨D0, av, rfl, nF0, nD, hD, ra, iv⟩
  · exact p1.elim
theorem mf_lc {elt tg iter : Expr} {ifs : List Expr} {scope : Scope} {own : List (Str × Nat)} {ws : List Nat} {pos : Pos} {mi : ME τ (List D)} {g : Tgt} {tt : ME τ Bool} {te : ME τ D} (hc : X.calm = true) (hN : X.N.Nodup) (hi : PI X tg iter (tIO X.K W mi)) (ok : BlkOk X.N X.env.scope scope own)
    (hv : ∀ j, j ∈ ws → j ∈ own.map (·.2))
    (hg : ∀ (s : Shared) (H : Hp) (C : Addr) (cl : List (Str × Addr)) (fp : List Addr), PG (X.blk s H scope (compEnvC scope cl C X.env) fp) tg (tTg τ X.K g ws)) (ht : ∀ (s : Shared) (H : Hp) (C : Addr) (cl : List (Str × Addr)) (fp : List Addr), PTs (X.blk s H scope (compEnvC scope cl C X.env) fp) ifs (tT X.K W0 tt))
    (he : ∀ (s : Shared) (H : Hp) (C : Addr) (cl : List (Str × Addr)) (fp : List Addr), PE (X.blk s H scope (compEnvC scope cl C X.env) fp) elt (tE X.K W0 te)) (hs : ∀ x, foldedSetIterable iter X.env x = pure x := by intro _; rfl) :
    PE X (.ListComp elt [⟨tg, iter, ifs, 0⟩] scope pos) (tF X.K W (eComp mi (own.map (·.2)) g tt te)) := PE.imp (pe_lc hc hN hi ok hg ht he hs) fun _ _ _ p => lc_red hv p
theorem ms_lc {s : Stmt} {i : Nat} {mi : ME τ (List D)} {vs ws : List Nat} {g : Tgt} {tt : ME τ Bool} {te : ME τ D} (hv : ∀ j, j ∈ ws → j ∈ vs) (h : PS X s (tAsg (tLc (tIO X.K W mi) (tTg τ X.K g ws) (tT X.K W0 tt) (tE X.K W0 te) vs) (gName i))) :
    PS X s (tS X.K W (sAsg (gN i) (eLst (eComp mi vs g tt te)))) := ms_set (PS.imp h fun σ _ _ p => by
  obtain ⟨C, ρ, t, A, p⟩ := p
  refine lc_red hv ⟨C, ρ, t, A, ?_⟩
  unfold eLst at p
  cases e : eComp mi vs g tt te ρ t with
  | ok d t' =>
    rw [e] at p
    intro v H' s i r
    obtain ⟨a, us, rfl, n, q, l, r, _⟩ := r
    exact p _ H' s i (.lst ⟨n, .inl l⟩ (r.anti fun _ => .inl))
  | ex n fs t' => rw [e] at p; exact p
  | bad => rw [e] at p; exact p)
theorem mts_nil : PTs X [] (tT X.K W (fun (_ : Rho) (t : τ) => .ok true t)) := ⟨fun pins s σ H Q I ⟨C, ρ, t, A, p⟩ => pts_nil.run pins s σ H Q I (p true H (Sm.refl _ _) A.st rfl)⟩
theorem mts_one {c : Expr} {m : ME τ Bool} (h : PT X c (tT X.K W m)) : PTs X [c] (tT X.K W m) := pts_one h
end

section
variable {τ : Type} [Sto τ]
def FPost (K : Fg) (C : SC τ) (H : Hp) (r : Res τ D) (Q : VK) (E : XK) : Prop := match r with
  | .ok d t' => ∀ v H', Sm C.F H H' → C.Iv t' C.F H' → Rep K C.F H' v d → Q v H'
  | .ex n fs t' => ∀ cls dd H', Sm C.F H H' → C.Iv t' C.F H' → XRep K C.F H' n fs cls dd → E cls dd H'
  | .bad => False
def spF (np : Nat) (K : Fg) (m : List D → τ → Res τ D) : Sp := fun vs H Q E => ∃ (C : SC τ) (ds : List D) (t : τ), Sto.ok K C ∧ C.Iv t C.F H ∧ Reps K C.F H vs ds ∧ ds.length = np ∧ FPost K C H (m ds t) Q E
def runB (n : Nat) (mb : MS τ) : List D → τ → Res τ D := fun ds t => match mb (ds.map Slot.val ++ List.replicate (n - ds.length) .no) t with
  | .nx _ t' => .ok .non t'
  | .rt d t' => .ok d t'
  | .ex n fs _ t' => .ex n fs t'
  | _ => .bad
theorem noOwnStart {ds : List D} {n i : Nat} {x : Slot} : ¬ ((ds.map Slot.val ++ List.replicate n Slot.no)[i]? = some x ∧ x.mine = true) := fun ⟨h, hm⟩ => by
  rw [List.getElem?_append] at h
  split at h
  · rw [List.getElem?_map] at h
    cases e : ds[i]? with
    | none => rw [e] at h; cases h
    | some d => rw [e] at h; cases h; cases hm
  · rw [List.getElem?_replicate] at h
    split at h
    · cases h; cases hm
    · cases h
theorem FoStart {F : Fp} {ds : List D} {n : Nat} {σ : St} {b : Addr} (h : Fo F (ds.map Slot.val ++ List.replicate n .no) σ b) : F b := by
  rcases h with h | ⟨i, xs, h1, _⟩
  · exact h
  · exact absurd h1 noOwnStart
theorem At.start {K : Fg} {C : SC τ} {N : List Str} {vs : List V} {ds : List D} {t : τ} {H : Hp} (okC : Sto.ok K C) (iv : C.Iv t C.F H) (r : Reps K C.F H vs ds) (hl : ds.length ≤ N.length) : At K C (ds.map Slot.val ++ List.replicate (N.length - ds.length) .no) t (start N vs) H where
  okC := okC
  st := C.less iv fun _ => FoStart
  len := by
    unfold L2.start
    rw [List.length_append, List.length_append, List.length_map, List.length_map, List.length_replicate, List.length_replicate, r.length]
  val := fun i d h => by
    rw [List.getElem?_append] at h
    split at h
    · rename_i hi
      rw [List.getElem?_map] at h
      cases e : ds[i]? with
      | none => rw [e] at h; cases h
      | some d' =>
        rw [e] at h
        cases h
        obtain ⟨v, h1, h2⟩ := r.get e
        refine ⟨v, ?_, h2.anti fun _ => FoStart⟩
        unfold L2.start
        rw [List.getElem?_append_left (by rw [List.length_map]; exact (List.getElem?_eq_some_iff.mp h1).1), List.getElem?_map, h1]
        rfl
    · rw [List.getElem?_replicate] at h
      split at h <;> cases h
  mine := fun i xs h => absurd h noOwnStart
  dis := fun i j xs ys h => absurd h noOwnStart
theorem fn_mk {P : Program} {w : World} {K : Fg} {mg : Str → Option Value} {base : Heap} {x qual : Str} {params : Arguments} {body : List Stmt} {scope : Scope} {dvs : List V} {kws : List (Str × V)} {f : Addr} {fd : FuncData} {N ps : List Str} {k : Nat}
    (F : FunD K x qual params body scope dvs kws f fd) (S : FnScope N ps scope) (mb : MS τ)
    (hb : ∀ (cdv : Value) (A : Around) (outer : List Env) (s : Shared) (H : Hp) (E : XK), Room k (A.deeper (envOfC qual scope s.heap.objs.size f cdv)) →
      PSs (cxOf (L2.CX P w) P w K mg base N qual scope f cdv A outer s H E) body (tS K (fun cls d _ H => E cls d H) mb)) : FnOk P w K mg base (L2.CX P w) (k + 1) f fd ps (spF ps.length K (runB N.length mb)) := by
  have hpl : ps.length ≤ N.length := by have := congrArg List.length S.pre; rw [List.length_take] at this; omega
  refine F.ok S (fun vs H Q E ⟨C, ds, t, _, _, r, hl, _⟩ => r.length.trans hl) fun cdv A outer s H vs Q E hr ⟨C, ds, t, okC, iv, r, hl, p⟩ => ⟨_, hb cdv A outer s H E hr, C, _, t, At.start okC iv r (by rw [hl]; exact hpl), ?_⟩
  unfold runB at p
  cases e : mb (ds.map Slot.val ++ List.replicate (N.length - ds.length) .no) t with
  | nx ρ' t' =>
    rw [e] at p
    exact fun σ' H' s' A' => p .non H' (fun b o n e => s'.keep b o (fun z => n (FoStart z)) e) (C.less A'.st fun _ => .inl) .non
  | rt d t' =>
    rw [e] at p
    exact fun v H' s' i r => p v H' (fun b o n e => s' b o (fun z => n (FoStart z)) e) i r
  | ex n fs ρ' t' =>
    rw [e] at p
    exact fun cls dd σ' H' s' A' x => p cls dd H' (fun b o n e => s'.keep b o (fun z => n (FoStart z)) e) (C.less A'.st fun _ => .inl) (x.anti fun _ => .inl)
  | bk ρ' t' => rw [e] at p; exact p.elim
  | ct ρ' t' => rw [e] at p; exact p.elim
  | bad => rw [e] at p; exact p.elim

structure Def (P : Program) (w : World) (K : Fg) (mg : Str → Option Value) (base : Heap) (k : Nat) (x : Str) (np : Nat) (df : List D) (m : List D → τ → Res τ D) : Prop where
  ex : ∃ (fd : FuncData) (ps : List Str) (ds : List Value) (dvs : List V), FnOk P w K mg base (L2.CX P w) k (He.ga K x) fd ps (spF np K m) ∧ mg x = some (.ref (He.ga K x)) ∧ PySem.W.keepIn K (.ref (He.ga K x)) = true ∧ Binds K fd ps ds ∧ Vals dvs ds ∧ (∀ F H, Reps K F H dvs df)

section
variable {X : Cx} {W : WX} {σc : Type}
def ALen {α : Type} (a : ME τ (List α)) (n : Nat) : Prop := ∀ ρ t ds t', a ρ t = .ok ds t' → ds.length = n
theorem alen_nil {α : Type} : ALen (aNil (τ := τ) (α := α)) 0 := fun _ _ _ _ e => by cases e; rfl
theorem alen_cons {α : Type} {a : ME τ α} {b : ME τ (List α)} {n : Nat} (h : ALen b n) : ALen (aCons a b) (n + 1) := fun ρ t ds t' e => by
  unfold aCons at e
  cases e1 : a ρ t with
  | ok d t1 =>
    rw [e1, Res.bind_ok] at e
    cases e2 : b ρ t1 with
    | ok es t2 =>
      rw [e2, Res.bind_ok] at e
      cases e
      show es.length + 1 = n + 1
      rw [h _ _ _ _ e2]
    | ex n fs t2 => rw [e2] at e; cases e
    | bad => rw [e2] at e; cases e
  | ex n fs t1 => rw [e1] at e; cases e
  | bad => rw [e1] at e; cases e
def eCall (m : List D → Unit → Res Unit D) (df : List D) (a : ME τ (List D)) : ME τ D := fun ρ t => (a ρ t).bind fun ds t => match m (ds ++ df) () with
  | .ok d _ => .ok d t
  | .ex n fs _ => .ex n fs t
  | .bad => .bad
def SC.pure (F : Fp) (H1 : Hp) (dm : Dom F H1) : SC Unit where
  F := F
  Iv := fun _ G H' => Stp F H1 G H' ∧ ∀ b o, F b → H1 b = some o → H' b = some o
  dom := fun _ G H' b h hb => by
    cases e : H1 b with
    | none => exact absurd e (dm b hb)
    | some o => rw [h.2 b o hb e]; intro z; cases z
  step := fun _ G H G' H' h1 h2 s => ⟨h1.1.trans s, fun b o hb e => h2 b o hb (h1.2 b o hb e)⟩
theorem SC.pure_same {F : Fp} {H1 : Hp} {dm : Dom F H1} {G : Fp} {H' : Hp} (h : (SC.pure F H1 dm).Iv () G H') : Same H1 H' := fun b o e => by
  by_cases q : F b
  · exact h.2 b o q e
  · exact h.1.keep b o q e
theorem call_red {np j : Nat} {K : Fg} {m : List D → Unit → Res Unit D} {df : List D} {dvs : List V} {a : ME τ (List D)} {σ : St} {H : Hp} {Q : VK} (hd : ∀ F H, Reps K F H dvs df) (hn : ALen a j) (hj : j + df.length = np) (p : tE K W (eCall m df a) σ H Q) :
    tCallSD (spF np K m) dvs (WE W) (tA K W a) σ H Q := by
  obtain ⟨C, ρ, t, A, p⟩ := p
  refine use okE A p fun ds t1 vs H1 e1 s1 A1 r1 p1 => ?_
  refine ⟨SC.pure (Fo C.F ρ σ) H1 A1.dom, ds ++ df, (), trivial, ⟨Stp.refl _ _, fun _ _ _ e => e⟩, Reps.append r1 (hd _ _), by rw [List.length_append, hn _ _ _ _ e1, hj], ?_⟩
  cases e : m (ds ++ df) () with
  | ok d u =>
    rw [e] at p1
    exact fun v H' s i r => p1 v H' (Sm.of_same (SC.pure_same i)) (C.stay A1.st (SC.pure_same i)) r
  | ex n fs u =>
    rw [e] at p1
    exact fun cls dd H' s i x => p1 cls dd H' (Sm.of_same (SC.pure_same i)) (C.stay A1.st (SC.pure_same i)) x
  | bad =>
    rw [e] at p1
    exact p1.elim
theorem me_call {k np j : Nat} {x : Str} {df : List D} {m : List D → Unit → Res Unit D} {e : Expr} {es : List Expr} {p pos : Pos} {a : ME τ (List D)} (Df : Def X.prog X.w X.K X.mg X.base k x np df m) (hr : Room k X.A) (tk : Takes X W) (hg : Gl X x) (hn : ALen a j)
    (ha : PA X (e :: es) (tA X.K W a)) (hdb : (x == ("__debug__" : Str)) = false := by decide) (hj : j + df.length = np := by rfl) (he : starEach (e :: es) X.env = (false, eval e X.env) :: starEach es X.env := by rfl) (hpl : (backTo pos (starEach es X.env)).any (·.1) = false := by rfl) :
    PE X (.Call (.Name x p) (e :: es) [] pos) (tE X.K W (eCall m df a)) := by
  obtain ⟨fd, ps, ds, dvs, F, hm, hk, hb, hd, hdf⟩ := Df.ex
  exact PE.imp (pe_callSD F hr hg hm hk hb hd (fun σ => passAt tk σ) ha hdb he hpl) fun _ _ _ p => call_red hdf hn hj p
def eCallS (m : List D → τ → Res τ D) (df : List D) (a : ME τ (List D)) : ME τ D := fun ρ t => (a ρ t).bind fun ds t => m (ds ++ df) t
theorem SC.ov_sm {C : SC τ} {F : Fp} {H1 : Hp} {hF : ∀ b, C.F b → F b} {dm : Dom F H1} {t : τ} {G : Fp} {H' : Hp} (h : (SC.ov C F H1 hF dm).Iv t G H') : Sm C.F H1 H' := fun b o n e => by
  by_cases q : F b
  · exact h.2.2 b o q n e
  · exact h.2.1.keep b o q e
theorem callS_red {np j : Nat} {K : Fg} {m : List D → τ → Res τ D} {df : List D} {dvs : List V} {a : ME τ (List D)} {σ : St} {H : Hp} {Q : VK} (hd : ∀ F H, Reps K F H dvs df) (hn : ALen a j) (hj : j + df.length = np) (p : tE K W (eCallS m df a) σ H Q) :
    tCallSD (spF np K m) dvs (WE W) (tA K W a) σ H Q := by
  obtain ⟨C, ρ, t, A, p⟩ := p
  refine use okE A p fun ds t1 vs H1 e1 s1 A1 r1 p1 => ?_
  refine ⟨SC.ov C (Fo C.F ρ σ) H1 (fun _ => Fo.base) A1.dom, ds ++ df, t1, Sto.ov _ _ _ _ _ _ A1.okC, ⟨A1.st, Stp.refl _ _, fun _ _ _ _ e => e⟩, Reps.append r1 (hd _ _), by rw [List.length_append, hn _ _ _ _ e1, hj], ?_⟩
  cases e : m (ds ++ df) t1 with
  | ok d u =>
    rw [e] at p1
    exact fun v H' s i r => p1 v H' (SC.ov_sm i) i.1 r
  | ex n fs u =>
    rw [e] at p1
    exact fun cls dd H' s i x => p1 cls dd H' (SC.ov_sm i) i.1 x
  | bad =>
    rw [e] at p1
    exact p1.elim
theorem me_callS {k np j : Nat} {x : Str} {df : List D} {m : List D → τ → Res τ D} {e : Expr} {es : List Expr} {p pos : Pos} {a : ME τ (List D)} (Df : Def X.prog X.w X.K X.mg X.base k x np df m) (hr : Room k X.A) (tk : Takes X W) (hg : Gl X x) (hn : ALen a j)
    (ha : PA X (e :: es) (tA X.K W a)) (hdb : (x == ("__debug__" : Str)) = false := by decide) (hj : j + df.length = np := by rfl) (he : starEach (e :: es) X.env = (false, eval e X.env) :: starEach es X.env := by rfl) (hpl : (backTo pos (starEach es X.env)).any (·.1) = false := by rfl) :
    PE X (.Call (.Name x p) (e :: es) [] pos) (tE X.K W (eCallS m df a)) := by
  obtain ⟨fd, ps, ds, dvs, F, hm, hk, hb, hd, hdf⟩ := Df.ex
  exact PE.imp (pe_callSD F hr hg hm hk hb hd (fun σ => passAt tk σ) ha hdb he hpl) fun _ _ _ p => callS_red hdf hn hj p

def sRaise (n : Str) : MS τ := fun ρ t => .ex n none ρ t
theorem ms_raise {e : Expr} {n : Str} {pos : Pos} (hc : X.calm = true) (tk : Takes X W) (h : PMk X e (fun _ H Q => Q (.ref (He.ga X.K n)) none H)) : PS X (.Raise (some e) none pos) (tS X.K W (sRaise (τ := τ) n)) := PS.imp (ps_raise hc tk h) fun E σ H ⟨C, ρ, t, A, p⟩ =>
  p _ _ σ H (Stp.refl _ _) A ⟨rfl, rfl⟩
end
end
end MM

namespace MM
open PySem PySem.Spec PyProof.Rows L2
section
variable {X : Cx} {K : Fg}
theorem DOp2.int0 {g : Int → Int → V} {f : Int → Int → D} (h : ∀ i j F H, Rep K F H (g i j) (f i j)) : DOp2 K (rI0 g) (fun d e => match d, e with
    | .int i, .int j => some (f i j)
    | _, _ => none) := fun F0 F H x y d e z Q dm rx ry q k => by
  dsimp only at q
  split at q
  · cases q
    exact ⟨_, _, rx.intOf, ry.intOf, k _ _ (Same.refl H) (h _ _ _ _)⟩
  · cases q
theorem DOp2.intC {g : Int → Int → V} {f : Int → Int → D} {C : Int → Int → Prop} {c : Int → Int → Bool} (hc : ∀ i j, c i j = true → C i j) (h : ∀ i j F H, c i j = true → Rep K F H (g i j) (f i j)) : DOp2 K (rI C g) (fun d e => match d, e with
    | .int i, .int j => if c i j = true then some (f i j) else none
    | _, _ => none) := fun F0 F H x y d e z Q dm rx ry q k => by
  dsimp only at q
  split at q
  · split at q
    · rename_i hcc
      cases q
      exact ⟨_, _, rx.intOf, ry.intOf, hc _ _ hcc, k _ _ (Same.refl H) (h _ _ _ _ hcc)⟩
    · cases q
  · cases q
def mulOk (i j : Int) : Bool := decide (i.natAbs.log2 + j.natAbs.log2 < 1000000)
def divOk (_ j : Int) : Bool := decide (j ≠ 0 ∧ j.natAbs.log2 < 9000)
def modOk (_ j : Int) : Bool := decide (j ≠ 0)
def powOk (i j : Int) : Bool := decide (0 ≤ j ∧ j ≤ 1000000 ∧ i.natAbs < 2 ^ 64)
def dSub : D → D → Option D := fun d e => match d, e with
  | .int i, .int j => some (.int (i - j))
  | _, _ => none
def dMulI : D → D → Option D := fun d e => match d, e with
  | .int i, .int j => if mulOk i j = true then some (.int (i * j)) else none
  | _, _ => none
def dDiv : D → D → Option D := fun d e => match d, e with
  | .int i, .int j => if divOk i j = true then some (.int (i.fdiv j)) else none
  | _, _ => none
def dMod : D → D → Option D := fun d e => match d, e with
  | .int i, .int j => if modOk i j = true then some (.int (i.fmod j)) else none
  | _, _ => none
def dPow : D → D → Option D := fun d e => match d, e with
  | .int i, .int j => if powOk i j = true then some (.int (i ^ j.toNat)) else none
  | _, _ => none
theorem o_sub : DOp2 K (rI0 fun i j => .int (i - j)) dSub := DOp2.int0 fun _ _ _ _ => .int _
theorem o_mul : DOp2 K (rI CMulW fun i j => .int (i * j)) dMulI := DOp2.intC (fun i j h => (of_decide_eq_true h : i.natAbs.log2 + j.natAbs.log2 < 1000000)) fun _ _ _ _ _ => .int _
def CDivB (_ j : Int) : Prop := j ≠ 0 ∧ j.natAbs.log2 < 9000
theorem op_fdivB : OpR X (binaryOp .FloorDiv) (rI CDivB fun i j => .int (i.fdiv j)) := opI fun i j _ _ _ _ _ hc q => floordiv_int hc.1 q (.inl (PyProof.noPylong_of_log2 hc.2))
theorem o_div : DOp2 K (rI CDivB fun i j => .int (i.fdiv j)) dDiv := DOp2.intC (fun i j h => (of_decide_eq_true h : j ≠ 0 ∧ j.natAbs.log2 < 9000)) fun _ _ _ _ _ => .int _
theorem o_mod : DOp2 K (rI (fun _ j => j ≠ 0) fun i j => .int (i.fmod j)) dMod := DOp2.intC (fun i j h => of_decide_eq_true h) fun _ _ _ _ _ => .int _
theorem o_pow : DOp2 K (rI CPow fun i j => .int (i ^ j.toNat)) dPow := DOp2.intC (fun i j h => (of_decide_eq_true h : 0 ≤ j ∧ j ≤ 1000000 ∧ i.natAbs < 2 ^ 64)) fun _ _ _ _ _ => .int _
def dLt : D → D → Option D := fun d e => match d, e with
  | .int i, .int j => some (.bl (decide (i < j)))
  | _, _ => none
def dLe : D → D → Option D := fun d e => match d, e with
  | .int i, .int j => some (.bl (decide (i ≤ j)))
  | _, _ => none
def dGt : D → D → Option D := fun d e => match d, e with
  | .int i, .int j => some (.bl (decide (j < i)))
  | _, _ => none
def dGe : D → D → Option D := fun d e => match d, e with
  | .int i, .int j => some (.bl (decide (j ≤ i)))
  | _, _ => none
theorem o_lt : DOp2 K (rI0 fun i j => .bl (decide (i < j))) dLt := DOp2.int0 fun _ _ _ _ => .bl _
theorem o_le : DOp2 K (rI0 fun i j => .bl (decide (i ≤ j))) dLe := DOp2.int0 fun _ _ _ _ => .bl _
theorem o_gt : DOp2 K (rI0 fun i j => .bl (decide (j < i))) dGt := DOp2.int0 fun _ _ _ _ => .bl _
theorem o_ge : DOp2 K (rI0 fun i j => .bl (decide (j ≤ i))) dGe := DOp2.int0 fun _ _ _ _ => .bl _
def lim2 (n : Nat) : Bool := decide (n ≤ 16777216)
def dAdd : D → D → Option D := fun d e => match d, e with
  | .int i, .int j => some (.int (i + j))
  | .str x, .str y => if lim2 (x.length + y.length) = true then some (.str (x ++ y)) else none
  | .lst xs, .lst ys => if lim2 (xs.length + ys.length) = true then some (.lst (xs ++ ys)) else none
  | .tup xs, .tup ys => if lim2 (xs.length + ys.length) = true then some (.tup (xs ++ ys)) else none
  | _, _ => none
theorem lim2_le {n : Nat} (h : lim2 n = true) : n ≤ sizeLine := of_decide_eq_true h
theorem Inv.lstR {pins : List (Addr × Obj)} {σ : L2.St} {H : Hp} {s : Shared} {l : Addr} {xs : List V} (I : Inv X pins σ H s) (hH : LsR X.K H l xs) : xs.length ≤ sizeLine ∧ ∃ (its : List Value) (n : Nat), Vals xs its ∧ xs.length = its.length ∧ s.heap.get? l = some { cls := .type "list", data := .seq its.toArray n } := by
  obtain ⟨z, its, n, r, e⟩ := hH.ok I.hok
  exact ⟨z, its, n, r, r.length, e⟩
def rCatL (K : Fg) : R2 := fun x y H Q => ∃ l b xs zs, x = .ref l ∧ y = .ref b ∧ LsR K H l xs ∧ LsR K H b zs ∧ xs.length + zs.length ≤ sizeLine ∧ ∀ p, H p = none → Q (.ref p) (upd H p (.lst (xs ++ zs)))
theorem op_catL : OpR X (binaryOp .Add) (rCatL X.K) := by
  intro pins s σ H x y v u Q I rx ry h
  obtain ⟨l, b, xs, zs, rfl, rfl, hH, hB, hz, q⟩ := h
  cases rx
  cases ry
  obtain ⟨z, its, n, r, hl, e⟩ := Inv.lstR I hH
  obtain ⟨z2, its2, n2, r2, hl2, e2⟩ := Inv.lstR I hB
  refine PySem.P.add_list e e2 ?_ (by rw [List.size_toArray, List.size_toArray]; omega)
  have ea : its.toArray ++ its2.toArray = (its ++ its2).toArray := by simp
  rw [ea]
  exact ⟨.ref _, _, I.lnew (t' := s.toks) (r.append r2) (by rw [List.length_append]; omega), rfl, q _ I.fresh⟩
def rAdd4 (K : Fg) : R2 := fun x y H Q => rI0 (fun i j => V.int (i + j)) x y H Q ∨ (fun x y H Q => (∃ i j, x = .str i ∧ y = .str j ∧ i.length + j.length ≤ sizeLine ∧ Q (.str (i ++ j)) H) ∨ (fun x y H Q => rCatL K x y H Q ∨ rCatA K x y H Q) x y H Q) x y H Q
theorem op_add4 : OpR X (binaryOp .Add) (rAdd4 X.K) := op_add.or (op_add_str.or (op_catL.or op_catA))
theorem o_add : DOp2 K (rAdd4 K) dAdd := fun F0 F H x y d e z Q dm rx ry q k => by
  unfold dAdd at q
  split at q
  · cases q
    exact .inl ⟨_, _, rx.intOf, ry.intOf, k _ _ (Same.refl H) (.int _)⟩
  · split at q
    · rename_i hl
      cases q
      exact .inr (.inl ⟨_, _, rx.strOf, ry.strOf, lim2_le hl, k _ _ (Same.refl H) (.str _)⟩)
    · cases q
  · split at q
    · rename_i hl
      cases q
      obtain ⟨a, vs, rfl, h1, r1⟩ := rx.lstOf
      obtain ⟨b, ws, rfl, h2, r2⟩ := ry.lstOf
      exact .inr (.inr (.inl ⟨a, b, vs, ws, rfl, rfl, h1, h2, by rw [r1.length, r2.length]; exact lim2_le hl, fun p np => k _ _ (same_upd np) (Rep.newLst (r1.append r2) dm np)⟩))
    · cases q
  · split at q
    · rename_i hl
      cases q
      obtain ⟨a, vs, rfl, h1, r1⟩ := rx.tupOf
      obtain ⟨b, ws, rfl, h2, r2⟩ := ry.tupOf
      refine .inr (.inr (.inr ⟨a, b, vs, ws, rfl, rfl, h1.sq, h2.sq, by rw [r1.length, r2.length]; exact lim2_le hl, fun e => ?_, fun _ e => ?_, fun _ _ p np => k _ _ (same_upd np) (Rep.newTup (r1.append r2) dm np)⟩))
      · subst e
        cases r1
        exact k _ _ (Same.refl H) (.tup h2 r2)
      · subst e
        cases r2
        rw [List.append_nil] at k
        exact k _ _ (Same.refl H) (.tup h1 r1)
    · cases q
  · cases q
def dIx : D → D → Option D := fun d e => match d, e with
  | .lst ds, .int i => atI ds i
  | .tup ds, .int i => atI ds i
  | .scr ns, .int i => (atI ns i).map .int
  | .str z, .int i => if lim2 z.length = true then (atI z.cps.toList i).map fun c => .str ⟨#[c]⟩ else none
  | _, _ => none
theorem Reps.atI {F : Fp} {H : Hp} {vs : List V} {ds : List D} {i : Int} {d : D} (r : Reps K F H vs ds) (h : L2.atI ds i = some d) : ∃ v, L2.atI vs i = some v ∧ Rep K F H v d := by
  unfold L2.atI at h ⊢
  rw [r.length]
  cases e : ixN ds.length i with
  | none => rw [e] at h; cases h
  | some j =>
    rw [e] at h
    exact r.get h
theorem o_ix : DOp2 K (rIx K) dIx := fun F0 F H x y d e z Q dm rx ry q k => by
  unfold dIx at q
  split at q
  · obtain ⟨a, vs, rfl, h1, r1⟩ := rx.lstOf
    obtain ⟨v, h2, r2⟩ := r1.atI q
    exact .inl ⟨a, vs, _, v, rfl, ry.intOf, h1.sq, h2, k _ _ (Same.refl H) r2⟩
  · obtain ⟨a, vs, rfl, h1, r1⟩ := rx.tupOf
    obtain ⟨v, h2, r2⟩ := r1.atI q
    exact .inr (.inl ⟨a, vs, _, v, rfl, ry.intOf, h1.sq, h2, k _ _ (Same.refl H) r2⟩)
  · obtain ⟨a, rfl, h1⟩ := rx.scrOf
    rename_i ns i
    cases e : L2.atI ns i with
    | none => rw [e] at q; cases q
    | some n =>
      rw [e] at q
      cases q
      refine .inl ⟨a, _, _, .int n, rfl, ry.intOf, h1.sq, ?_, k _ _ (Same.refl H) (.int n)⟩
      unfold L2.atI at e ⊢
      rw [List.length_map]
      cases e2 : ixN ns.length i with
      | none => rw [e2] at e; cases e
      | some j =>
        rw [e2] at e
        have e' : ns[j]? = some n := e
        show (ns.map V.int)[j]? = some (V.int n)
        rw [List.getElem?_map, e']
        rfl
  · split at q
    · rename_i zs i hl
      cases e : atI zs.cps.toList i with
      | none => rw [e] at q; cases q
      | some c =>
        rw [e] at q
        cases q
        exact .inr (.inr ⟨_, _, c, rx.strOf, ry.intOf, lim2_le hl, e, k _ _ (Same.refl H) (.str _)⟩)
    · cases q
  · cases q
mutual
def py : D → Option PyData
  | .non => some .none
  | .bl b => some (.bool b)
  | .int i => some (.int i)
  | .str x => some (.str x)
  | .tup ds => (pys ds).map .tuple
  | .lst ds => (pys ds).map .list
  | _ => none
def pys : List D → Option (List PyData)
  | [] => some []
  | d :: ds => (py d).bind fun p => (pys ds).map (p :: ·)
end
mutual
theorem dp_of {F0 F : Fp} {H : Hp} : ∀ {d : D} {v : V} {p : PyData}, Rep K F H v d → py d = some p → Dp K H v p
  | .non, _, _, .non, e => by unfold py at e; cases e; exact .non
  | .bl b, _, _, .bl _, e => by unfold py at e; cases e; exact .bl b
  | .int b, _, _, .int _, e => by unfold py at e; cases e; exact .int b
  | .str b, _, _, .str _, e => by unfold py at e; cases e; exact .str b
  | .tup ds, _, _, .tup h r, e => by
    unfold py at e
    cases q : pys ds with
    | none => rw [q] at e; cases e
    | some ps => rw [q] at e; cases e; exact .tup h.sq (dps_of (F0 := F0) r q)
  | .lst ds, _, _, .lst h r, e => by
    unfold py at e
    cases q : pys ds with
    | none => rw [q] at e; cases e
    | some ps => rw [q] at e; cases e; exact .lst h.sq (dps_of (F0 := F0) r q)
theorem dps_of {F0 F : Fp} {H : Hp} : ∀ {ds : List D} {vs : List V} {ps : List PyData}, Reps K F H vs ds → pys ds = some ps → DpAll K H vs ps
  | [], _, _, .nil, e => by unfold pys at e; cases e; exact .nil
  | d :: ds, _, _, .cons r t, e => by
    unfold pys at e
    cases q : py d with
    | none => rw [q] at e; cases e
    | some p =>
      rw [q] at e
      cases q2 : pys ds with
      | none =>
        have e' : (pys ds).map (p :: ·) = some _ := e
        rw [q2] at e'
        cases e'
      | some ps =>
        have e' : (pys ds).map (p :: ·) = some _ := e
        rw [q2] at e'
        cases e'
        exact .cons (dp_of (F0 := F0) r q) (dps_of (F0 := F0) t q2)
end
theorem RepW.dp {F0 F : Fp} {H : Hp} {d : D} {v : V} {p : PyData} (r : RepW K F0 F H v d) (e : py d = some p) : Dp K H v p := by
  cases r with
  | of r => exact dp_of (F0 := F0) r e
  | dct n h r => unfold py at e; cases e
  | lst h r =>
    unfold py at e
    rename_i a vs ds
    cases q : pys ds with
    | none => rw [q] at e; cases e
    | some ps => rw [q] at e; cases e; exact .lst h.sq (dps_of (F0 := F0) r q)
def eqD (d e : D) : Option Bool := match py d, py e with
  | some p, some q => if SeqAt.shaped p = true ∧ SeqAt.shaped q = true then some (PyData.eqv p q) else none
  | _, _ => none
def dEq : D → D → Option D := fun d e => (eqD d e).map .bl
def dNe : D → D → Option D := fun d e => (eqD d e).map fun b => .bl (!b)
theorem eqD_of {d e : D} {b : Bool} (h : eqD d e = some b) : ∃ p q, py d = some p ∧ py e = some q ∧ SeqAt.shaped p = true ∧ SeqAt.shaped q = true ∧ b = PyData.eqv p q := by
  unfold eqD at h
  split at h
  · rename_i p q h1 h2
    split at h
    · rename_i hs
      cases h
      exact ⟨p, q, h1, h2, hs.1, hs.2, rfl⟩
    · cases h
  · cases h
theorem o_eq : DOp2 K (rEqD K) dEq := fun F0 F H x y d e z Q dm rx ry q k => by
  unfold dEq at q
  cases h : eqD d e with
  | none => rw [h] at q; cases q
  | some b =>
    rw [h] at q
    cases q
    obtain ⟨p, p2, h1, h2, h3, h4, rfl⟩ := eqD_of h
    exact ⟨p, p2, rx.dp h1, ry.dp h2, h3, h4, k _ _ (Same.refl H) (.bl _)⟩
theorem o_ne : DOp2 K (rNeD K) dNe := fun F0 F H x y d e z Q dm rx ry q k => by
  unfold dNe at q
  cases h : eqD d e with
  | none => rw [h] at q; cases q
  | some b =>
    rw [h] at q
    cases q
    obtain ⟨p, p2, h1, h2, h3, h4, rfl⟩ := eqD_of h
    exact ⟨p, p2, rx.dp h1, ry.dp h2, h3, h4, k _ _ (Same.refl H) (.bl _)⟩
def isN : D → Bool
  | .non => true
  | _ => false
theorem RepW.isN {F0 F : Fp} {H : Hp} {d : D} {v : V} (r : RepW K F0 F H v d) : decide (v = .non) = MM.isN d := by
  cases r with
  | of r => cases r <;> rfl
  | lst h r => rfl
  | dct n h r => rfl
def dIs : D → D → Option D := fun d e => match e with
  | .non => some (.bl (isN d))
  | _ => none
def dIsnt : D → D → Option D := fun d e => match e with
  | .non => some (.bl (!isN d))
  | _ => none
theorem o_is : DOp2 K (fun x y H Q => y = .non ∧ Q (.bl (decide (x = .non))) H) dIs := fun F0 F H x y d e z Q dm rx ry q k => by
  unfold dIs at q
  split at q
  · cases q
    exact ⟨ry.nonOf, by rw [rx.isN]; exact k _ _ (Same.refl H) (.bl _)⟩
  · cases q
theorem o_isnt : DOp2 K (fun x y H Q => y = .non ∧ Q (.bl (!decide (x = .non))) H) dIsnt := fun F0 F H x y d e z Q dm rx ry q k => by
  unfold dIsnt at q
  split at q
  · cases q
    exact ⟨ry.nonOf, by rw [rx.isN]; exact k _ _ (Same.refl H) (.bl _)⟩
  · cases q
def dNeg : D → Option D
  | .int i => some (.int (-i))
  | _ => none
theorem o_neg : DOp1 K (rU fun i => .int (-i)) dNeg := fun F0 F H x d z Q dm rx q k => by
  unfold dNeg at q
  split at q
  · cases q
    exact ⟨_, rx.intOf, k _ _ (Same.refl H) (.int _)⟩
  · cases q
def fAbs : List D → Option D
  | [.int i] => some (.int (if i < 0 then -i else i))
  | _ => none
theorem c_abs : DCall K (fun xs H Q => ∃ i, xs = [.int i] ∧ Q (.int (if i < 0 then -i else i)) H) fAbs := fun F0 F H xs ds z Q dm r q k => by
  unfold fAbs at q
  split at q
  · cases q
    obtain ⟨v, rfl, r1⟩ := r.one
    exact ⟨_, by rw [r1.intOf], k _ _ (Same.refl H) (.int _)⟩
  · cases q
def fMax2 : List D → Option D
  | [.int i, .int j] => some (.int (if j > i then j else i))
  | _ => none
theorem c_max2 : DCall K (fun xs H Q => ∃ i j, xs = [.int i, .int j] ∧ Q (.int (if j > i then j else i)) H) fMax2 := fun F0 F H xs ds z Q dm r q k => by
  unfold fMax2 at q
  split at q
  · cases q
    obtain ⟨v, w, rfl, r1, r2⟩ := r.two
    exact ⟨_, _, by rw [r1.intOf, r2.intOf], k _ _ (Same.refl H) (.int _)⟩
  · cases q
def fLen : List D → Option D
  | [.lst xs] => some (.int (xs.length : Nat))
  | [.tup xs] => some (.int (xs.length : Nat))
  | [.scr xs] => some (.int (xs.length : Nat))
  | [.str x] => if lim2 x.length = true then some (.int (x.length : Nat)) else none
  | _ => none
def rLen3 (K : Fg) : List V → Hp → VK → Prop := fun xs H Q => (∃ p ys, xs = [.ref p] ∧ (SqL K H p ys ∨ SqT K H p ys) ∧ Q (.int ys.length) H) ∨ ∃ z, xs = [.str z] ∧ z.length ≤ sizeLine ∧ Q (.int z.length) H
theorem call_len3 : CallR X (.builtin "len") (rLen3 X.K) := call_len_seq.or call_len_str
theorem c_len : DCall K (rLen3 K) fLen := fun F0 F H xs ds z Q dm r q k => by
  unfold fLen at q
  split at q
  · cases q
    obtain ⟨v, rfl, r0⟩ := r.one
    obtain ⟨a, vs, rfl, h1, r1⟩ := r0.lstOf
    exact .inl ⟨a, vs, rfl, .inl h1.sq, k _ _ (Same.refl H) (by rw [r1.length]; exact .int _)⟩
  · cases q
    obtain ⟨v, rfl, r0⟩ := r.one
    obtain ⟨a, vs, rfl, h1, r1⟩ := r0.tupOf
    exact .inl ⟨a, vs, rfl, .inr h1.sq, k _ _ (Same.refl H) (by rw [r1.length]; exact .int _)⟩
  · cases q
    obtain ⟨v, rfl, r0⟩ := r.one
    obtain ⟨a, rfl, h1⟩ := r0.scrOf
    exact .inl ⟨a, _, rfl, .inl h1.sq, k _ _ (Same.refl H) (by rw [List.length_map]; exact .int _)⟩
  · split at q
    · rename_i hl
      cases q
      obtain ⟨v, rfl, r1⟩ := r.one
      exact .inr ⟨_, by rw [r1.strOf], lim2_le hl, k _ _ (Same.refl H) (.int _)⟩
    · cases q
  · cases q
def keyOf : D → Option Key
  | .int i => some (.inl i)
  | .str x => some (.inr x)
  | _ => none
theorem keyOf_keyD (k : Key) : keyOf (keyD k) = some k := by cases k <;> rfl
theorem all_keyD (kvs : List (Key × V)) : ((kvs.map fun p => keyD p.1).all fun k => (keyOf k).isSome) = true := by
  rw [List.all_map, List.all_eq_true]
  intro p _
  show (keyOf (keyD p.1)).isSome = true
  rw [keyOf_keyD]; rfl
theorem not_all_tup {es : List EX} (h : es ≠ []) : ((es.map fun p => D.tup (p.1.map D.int)).all fun k => (keyOf k).isSome) ≠ true := by
  cases es with
  | nil => exact absurd rfl h
  | cons p es => simp [keyOf]
def tyN : D → Option String
  | .non => some "NoneType"
  | .bl _ => some "bool"
  | .int _ => some "int"
  | .str _ => some "str"
  | .tup _ => some "tuple"
  | .lst _ => some "list"
  | .dct ks _ => if (ks.all fun k => (keyOf k).isSome) = true then some "dict" else none
  | _ => none
theorem tyX_of {F0 F : Fp} {H : Hp} {v : V} {d : D} {n : String} (r : RepW K F0 F H v d) (h : tyN d = some n) : TyX K H v (.type n) := by
  have lst : ∀ {a : Addr} {vs : List V}, LsR K H a vs → TyX K H (.ref a) (.type "list") := fun {a vs} h => by
    rcases h with h | ⟨o, h⟩
    · exact .base (.lst h)
    · exact .base (.frz h)
  cases r with
  | lst q r => unfold tyN at h; cases h; exact lst q.ls
  | dct n q r =>
    unfold tyN at h
    cases r with
    | k r => dsimp only at h; rw [if_pos (all_keyD _)] at h; cases h; exact .base (.dK q)
    | x ne ox kt r => dsimp only at h; rw [if_neg (not_all_tup ne)] at h; cases h
  | of r =>
    cases r with
    | non => cases h; exact .base .non
    | bl => cases h; exact .base (.bl _)
    | int => cases h; exact .base (.int _)
    | str => cases h; exact .base (.str _)
    | tup q r =>
      cases h
      rcases q with ⟨_, q | ⟨o, q⟩⟩ | ⟨o, its, n, q, q2, _⟩
      · exact .base (.tup q)
      · exact .fTuple q
      · exact .kTuple q q2
    | lst q r => cases h; exact lst q.ls
    | dK n q r => unfold tyN at h; dsimp only at h; rw [if_pos (all_keyD _)] at h; cases h; exact .base (.dK q)
    | dX n ne q ox kt r => unfold tyN at h; dsimp only at h; rw [if_neg (not_all_tup ne)] at h; cases h
    | _ => cases h
def kitN (a b : String) : Option Bool :=
  if (["NoneType", "bool", "int", "str", "tuple", "list", "dict"].contains a && ["int", "bool", "tuple", "list", "str", "dict"].contains b) = true then some (a == b || (a == "bool" && b == "int")) else none
theorem kitN_ok {a b : String} {r : Bool} (h : kitN a b = some r) : kitB a b = some r := by
  unfold kitN at h
  split at h
  · rename_i hc
    have e : (a == b || (a == "bool" && b == "int")) = r := Option.some.inj h
    subst e
    rw [Bool.and_eq_true, List.contains_iff_mem, List.contains_iff_mem] at hc
    obtain ⟨h1, h2⟩ := hc
    simp only [List.mem_cons, List.not_mem_nil, or_false] at h1 h2
    rcases h1 with rfl | rfl | rfl | rfl | rfl | rfl | rfl <;> rcases h2 with rfl | rfl | rfl | rfl | rfl | rfl <;> decide +kernel
  · cases h
def isi (d : D) (n : String) : Option Bool := (tyN d).bind fun a => kitN a n
def fIsi : List D → Option D
  | [d, .ty n] => (isi d n).map .bl
  | _ => none
theorem isi_of {F0 F : Fp} {H : Hp} {v : V} {d : D} {n : String} {b : Bool} (r : RepW K F0 F H v d) (h : isi d n = some b) : ∃ t, TyX K H v t ∧ PySem.W.kitOne K t (.type n) = some b := by
  unfold isi at h
  cases e : tyN d with
  | none => rw [e] at h; cases h
  | some a =>
    rw [e] at h
    exact ⟨_, tyX_of r e, kit_ty (kitN_ok h)⟩
theorem c_isi : DCall K (rIsi K) fIsi := fun F0 F H xs ds z Q dm r q k => by
  unfold fIsi at q
  split at q
  · rename_i d n
    obtain ⟨v, w, rfl, r1, r2⟩ := r.two
    cases e : isi d n with
    | none => rw [e] at q; cases q
    | some b =>
      rw [e] at q
      cases q
      obtain ⟨t, h1, h2⟩ := isi_of r1 e
      cases r2 with
      | of r2 =>
        cases r2
        exact ⟨v, _, t, _, b, rfl, .ty n, h1, h2, k _ _ (Same.refl H) (.bl _)⟩
  · cases q
def strOf (i : Int) : Str := toString i
def cutD (xs : List D) (lo hi : Option Int) : List D := (xs.drop (HT.sIx xs.length 0 lo)).take (HT.sIx xs.length xs.length hi - HT.sIx xs.length 0 lo)
theorem Reps.cut {F : Fp} {H : Hp} {vs : List V} {ds : List D} (r : Reps K F H vs ds) (lo hi : Option Int) : Reps K F H (cutV vs lo hi) (cutD ds lo hi) := by
  unfold cutV cutD
  rw [r.length]
  exact (r.drop _).take _
end
end MM

namespace MM
open PySem PySem.Spec PyProof.Rows L2
section
variable {X : Cx} {W : WX} {τ : Type} [Sto τ] {K : Fg}
def truth : D → Option Bool
  | .non => some false
  | .bl b => some b
  | .int i => some (i != 0)
  | .str x => if lim2 x.length = true then some ((x.length : Int) != 0) else none
  | .lst xs => some (!xs.isEmpty)
  | .tup xs => some (!xs.isEmpty)
  | _ => none
theorem Reps.isEmpty {F : Fp} {H : Hp} {vs : List V} {ds : List D} (r : Reps K F H vs ds) : vs.isEmpty = ds.isEmpty := by cases r <;> rfl
theorem RepW.truV {F0 F : Fp} {H : Hp} {v : V} {d : D} {b : Bool} (r : RepW K F0 F H v d) (h : truth d = some b) : TruV K v H b := by
  cases d <;> first
    | (cases h; done)
    | skip
  · cases h; rw [r.nonOf]; exact rfl
  · cases h; rw [r.blOf]; exact rfl
  · cases h; rw [r.intOf]; exact rfl
  · rw [r.strOf]
    rename_i z
    have h' : (if lim2 z.length = true then some ((z.length : Int) != 0) else none) = some b := h
    split at h'
    · rename_i hl
      cases h'
      exact ⟨lim2_le hl, rfl⟩
    · cases h'
  · cases h
    obtain ⟨a, vs, rfl, q, rs⟩ := r.tupOf
    exact .inr (.inl ⟨vs, q.sq, by rw [rs.isEmpty]⟩)
  · cases h
    obtain ⟨a, vs, rfl, q, rs⟩ := r.lstOf
    exact .inl ⟨vs, q.sq, by rw [rs.isEmpty]⟩
theorem mt_truth {e : Expr} {m : ME τ D} (h : PE X e (tW X.K W m)) (he : ∀ whole, isTrue e X.env whole = (do let v ← whole; standAt e.pos; holding [v] (truthy v)) := by intro _; rfl) : PT X e (tT X.K W (e1 truth m)) :=
  PT.imp (pt_truth h he) fun σ H Q ⟨C, ρ, t, A, p⟩ => by
    refine use okB A p fun d t1 v H1 e1 s1 A1 r1 p1 => ?_
    cases e : truth d with
    | none => rw [e] at p1; exact p1.elim
    | some b =>
      rw [e] at p1
      exact ⟨b, RepW.truV r1 e, p1 _ H1 (Sm.refl _ _) A1.st rfl⟩
def oNone : ME τ (Option Int) := fun _ t => .ok none t
def oSome (m : ME τ D) : ME τ (Option Int) := e1 (fun d => match d with
  | .int i => some (some i)
  | _ => none) m
def rO : Rel (Option Int) (Option Int) := fun _ _ _ _ _ _ v d => v = d
theorem okO : RelOk rO := ⟨fun _ _ _ _ _ _ _ _ _ _ h => h⟩
abbrev tO (K : Fg) (W : WX) (m : ME τ (Option Int)) : TO := tG rO K W m
theorem mo_none : PO X none (tO X.K W (oNone (τ := τ))) := ⟨fun pins s σ H Q I ⟨C, ρ, t, A, p⟩ => po_none.run pins s σ H Q I (p none H (Sm.refl _ _) A.st rfl)⟩
theorem mo_some {e : Expr} {m : ME τ D} (h : PE X e (tE X.K W m)) : PO X (some e) (tO X.K W (oSome m)) := ⟨fun pins s σ H Q I ⟨C, ρ, t, A, p⟩ => (po_some h).run pins s σ H Q I (by
  refine use okO A p fun d t1 v H1 e1 s1 A1 r1 p1 => ?_
  cases d <;> first
    | exact p1.elim
    | (cases r1; exact ⟨_, rfl, p1 _ H1 (Sm.refl _ _) A1.st rfl⟩))⟩
def e3 {α β γ δ : Type} (f : α → β → γ → Option δ) (a : ME τ α) (b : ME τ β) (c : ME τ γ) : ME τ δ := fun ρ t => (a ρ t).bind fun d t => (b ρ t).bind fun e t => (c ρ t).bind fun g t => opt (f d e g) t
theorem new_fin {C : SC τ} {ρ : Rho} {t : τ} {σ : St} {H : Hp} {vs : List V} {ds : List D} {Q : VK} (A : At K C ρ t σ H) (r : Reps K (Fo C.F ρ σ) H vs ds) (p : Post rF K W C (Fo C.F ρ σ) σ H (.ok ds t) Q) : ∀ a, H a = none → Q (.ref a) (upd H a (.lst vs)) := fun a na => by
  have sp : Stp (Fo C.F ρ σ) H (fun b => Fo C.F ρ σ b ∨ b = a) (upd H a (.lst vs)) := ⟨fun b o _ e => same_upd na b o e, fun b h => h.elim .inl fun e => .inr (by rw [e]; exact na)⟩
  exact p _ _ (Sm.of_same (same_upd na)) (C.less (C.stay A.st (same_upd na)) fun _ => id) ⟨a, vs, rfl, fun z => A.dom a z na, na, upd_same, Reps.step sp r, C.step _ _ _ _ _ A.st (fun b o _ e => same_upd na b o e) sp⟩
def fTup : List D → Option D
  | [.lst ds] => some (.tup ds)
  | [.tup ds] => some (.tup ds)
  | _ => none
theorem c_tup : DCall K (fun xs H Q => ∃ p ys, xs = [.ref p] ∧ ((SqL K H p ys ∧ ∀ l, H l = none → Q (.ref l) (upd H l (.tup ys))) ∨ (SqT K H p ys ∧ Q (.ref p) H))) fTup := fun F0 F H xs ds z Q dm r q k => by
  unfold fTup at q
  split at q
  · cases q
    obtain ⟨v, rfl, r0⟩ := r.one
    obtain ⟨a, vs, rfl, h1, r1⟩ := r0.lstOf
    exact ⟨a, vs, rfl, .inl ⟨h1.sq, fun l nl => k _ _ (same_upd nl) (Rep.newTup r1 dm nl)⟩⟩
  · cases q
    obtain ⟨v, rfl, r0⟩ := r.one
    obtain ⟨a, vs, rfl, h1, r1⟩ := r0.tupOf
    exact ⟨a, vs, rfl, .inr ⟨h1.sq, k _ _ (Same.refl H) (.tup h1 r1)⟩⟩
  · cases q
def fLst : List D → Option (List D)
  | [.lst ds] => some ds
  | [.tup ds] => some ds
  | _ => none
theorem mf_list {x : Str} {e : Expr} {es : List Expr} {p pos : Pos} {ms : ME τ (List D)} (hg : Gl X x) (hm : X.mg x = none) (hv : bootBuiltins x = some (.type "list"))
    (ha : PA X (e :: es) (tAW X.K W ms)) (hn : x ≠ "__name__" := by decide) (hdb : (x == ("__debug__" : Str)) = false := by decide)
    (he : starEach (e :: es) X.env = (false, eval e X.env) :: starEach es X.env := by rfl) (hpl : (backTo pos (starEach es X.env)).any (·.1) = false := by rfl) :
    PE X (.Call (.Name x p) (e :: es) [] pos) (tF X.K W (MM.e1 fLst ms)) := PE.imp (pe_callTy call_list_of hg hm hv ha hn hdb he hpl) fun σ H Q ⟨C, ρ, t, A, p⟩ => by
  refine use okF A p fun ds t1 v H1 e1 s1 A1 r1 p1 => ?_
  unfold fLst at p1
  split at p1
  · obtain ⟨v, rfl, r0⟩ := RepsW.one r1
    obtain ⟨a, vs, rfl, h1, rs⟩ := r0.lstOf
    exact ⟨a, vs, rfl, .inl h1.sq, new_fin A1 rs p1⟩
  · obtain ⟨v, rfl, r0⟩ := RepsW.one r1
    obtain ⟨a, vs, rfl, h1, rs⟩ := r0.tupOf
    exact ⟨a, vs, rfl, .inr h1.sq, new_fin A1 rs p1⟩
  · exact p1.elim
theorem me_glob {x : Str} {v : V} {u : Value} {d : D} {pos : Pos} (hg : Gl X x) (hm : X.mg x = some u) (r : RelV v u) (rd : ∀ F H, Rep X.K F H v d) (hd : (x == ("__debug__" : Str)) = false := by decide) : PE X (.Name x pos) (tE X.K W (eC (τ := τ) d)) := me_c (pe_glob hg hm r hd) rd
theorem me_type {x : Str} {n : String} {pos : Pos} (hg : Gl X x) (hm : X.mg x = none) (hv : bootBuiltins x = some (.type n)) (hn : x ≠ "__name__" := by decide) (hd : (x == ("__debug__" : Str)) = false := by decide) : PE X (.Name x pos) (tE X.K W (eC (τ := τ) (.ty n))) :=
  me_c (pe_bltn (v := .ty n) hg hm hv rfl hn hd) fun _ _ => .ty n
end
theorem Def.mk' {τ : Type} [Sto τ] {P : Program} {w : World} {K : Fg} {mg : Str → Option Value} {base : Heap} {x qual : Str} {params : Arguments} {body : List Stmt} {scope : Scope} {dvs : List V} {kws : List (Str × V)} {fd : FuncData} {N ps : List Str} {k : Nat} {df : List D}
    (F : FunD K x qual params body scope dvs kws (He.ga K x) fd) (hm : mg x = some (.ref (He.ga K x))) (S : FnScope N ps scope) (mb : MS τ) (hb : ∃ ds dv, Vals dv ds ∧ Binds K fd ps ds ∧ ∀ F H, Reps K F H dv df)
    (hbody : ∀ (cdv : Value) (A : Around) (outer : List Env) (s : Shared) (H : Hp) (E : XK), Room k (A.deeper (envOfC qual scope s.heap.objs.size (He.ga K x) cdv)) →
      PSs (cxOf (L2.CX P w) P w K mg base N qual scope (He.ga K x) cdv A outer s H E) body (tS K (fun cls d _ H => E cls d H) mb)) : Def P w K mg base (k + 1) x ps.length df (runB N.length mb) := by
  obtain ⟨ds, dv, h1, h2, h3⟩ := hb
  exact ⟨fd, ps, ds, dv, fn_mk F S mb hbody, hm, F.kp, h2, h1, h3⟩
theorem Def.mono {τ : Type} [Sto τ] {P : Program} {w : World} {K : Fg} {mg : Str → Option Value} {base : Heap} {j k : Nat} {x : Str} {np : Nat} {df : List D} {m : List D → τ → Res τ D} (F : Def P w K mg base j x np df m) (h : j ≤ k) : Def P w K mg base k x np df m := by
  obtain ⟨fd, ps, ds, dv, F, r⟩ := F.ex
  exact ⟨fd, ps, ds, dv, F.mono h, r⟩
end MM

namespace MM
open PySem PySem.Spec PyProof.Rows L2
def Glc (K : Fg) (mg : Str → Option Value) (x : Str) (d : D) : Prop := ∃ v u, mg x = some u ∧ RelV v u ∧ ∀ F H, Rep K F H v d
section
variable {X : Cx} {W : WX} {τ : Type} [Sto τ] {K : Fg}
theorem me_g {x : Str} {d : D} {pos : Pos} (g : Glc X.K X.mg x d) (hg : Gl X x) (hd : (x == ("__debug__" : Str)) = false := by decide) : PE X (.Name x pos) (tE X.K W (eC (τ := τ) d)) := by
  obtain ⟨v, u, h1, h2, h3⟩ := g
  exact me_glob hg h1 h2 h3 hd
def isi2 (d : D) (n1 n2 : String) : Option Bool := (isi d n1).bind fun b => if b = true then some true else isi d n2
theorem me_isi2 {x a b : Expr} {k : Nat} {p pos tp : Pos} {m : ME τ D} {n1 n2 : String} (hg : Gl X "isinstance") (hm : X.mg "isinstance" = none) (h : PE X x (tW X.K W m)) (ha : PE X a (tC (.ty n1))) (hb : PE X b (tC (.ty n2)))
    (he1 : starEach [x, .Tuple [a, b] k tp] X.env = (false, eval x X.env) :: starEach [.Tuple [a, b] k tp] X.env := by rfl) (he2 : starEach [.Tuple [a, b] k tp] X.env = (false, eval (.Tuple [a, b] k tp) X.env) :: starEach [] X.env := by rfl)
    (he3 : starEach [a, b] X.env = (false, eval a X.env) :: starEach [b] X.env := by rfl) (he4 : starEach [b] X.env = (false, eval b X.env) :: starEach [] X.env := by rfl) (hpl : (backTo pos (starEach [.Tuple [a, b] k tp] X.env)).any (·.1) = false := by rfl) :
    PE X (.Call (.Name "isinstance" p) [x, .Tuple [a, b] k tp] [] pos) (tE X.K W (e1 (fun d => (isi2 d n1 n2).map .bl) m)) :=
  PE.imp (pe_callB call_isiT hg hm (by decide +kernel) (pa_cons h (pa_cons (pe_tup (pa_cons ha (pa_cons hb pa_nil he4) he3)) pa_nil he2) he1) (by decide) (by decide) he1 hpl) fun σ H Q ⟨C, ρ, t, A, q⟩ => by
    refine use okE A q fun d t1 v H1 e1 s1 A1 r1 p1 => ?_
    refine ⟨by show 2 ≤ sizeLine; decide, fun tq ntq => ?_⟩
    have p2 : Post rE X.K W C (Fo C.F ρ σ) σ H1 (opt ((isi2 d n1 n2).map D.bl) t1) Q := p1
    cases e : isi2 d n1 n2 with
    | none => rw [e] at p2; exact p2.elim
    | some c =>
      rw [e] at p2
      have fin : Q (.bl c) (upd H1 tq (.tup [.ty n1, .ty n2])) := p2 _ _ (Sm.of_same (same_upd ntq)) (C.stay A1.st (same_upd ntq)) (.bl c)
      unfold isi2 isi at e
      cases et : tyN d with
      | none => rw [et] at e; cases e
      | some a =>
        rw [et] at e
        have ty := tyX_of (RepW.same r1 (Sm.of_same (same_upd (o := .tup [.ty n1, .ty n2]) ntq)) fun _ => Fo.base) et
        refine ⟨v, tq, _, _, [.type n1, .type n2], c, rfl, upd_same, .cons (.ty n1) (.cons (.ty n2) .nil), ty, ?_, fin⟩
        cases e1 : kitN a n1 with
        | none =>
          have e' : ((kitN a n1).bind fun b => if b = true then some true else kitN a n2) = some c := e
          rw [e1] at e'
          cases e'
        | some b1 =>
          have e' : ((kitN a n1).bind fun b => if b = true then some true else kitN a n2) = some c := e
          rw [e1] at e'
          cases b1 with
          | true =>
            cases e'
            exact kitAny_cons (kit_ty (kitN_ok e1)) (fun z => by cases z) fun _ => rfl
          | false =>
            have e2 : kitN a n2 = some c := e'
            refine kitAny_cons (kit_ty (kitN_ok e1)) (fun _ => ?_) fun z => by cases z
            exact kitAny_cons (kit_ty (kitN_ok e2)) (fun z => by rw [z]; exact kitAny_nil) fun z => z
end
structure ExcF (K : Fg) (mg : Str → Option Value) (n : Str) : Prop where
  x : PySem.W.excIn K (He.ga K n) He.veBase "ValueError.__new__" = true
  g : mg n = some (.ref (He.ga K n))
  k : PySem.W.keepIn K (.ref (He.ga K n)) = true
  b : PySem.W.subIn K (.ref (He.ga K n)) (.type "BaseException") = some true
  t : PySem.W.typeIn K (.ref (He.ga K n)) = some (.type "type")
theorem tk_cx {P : Program} {w : World} {K : Fg} {mg : Str → Option Value} {base : Heap} {N : List Str} {qual : Str} {scope : Scope} {f : Addr} {cd : Value} {A : Around} {outer : List Env} {s : Shared} {H : Hp} {E : XK} :
    Takes (cxOf (L2.CX P w) P w K mg base N qual scope f cd A outer s H E) (fun cls d _ H => E cls d H) := takes_of rfl rfl rfl rfl
theorem po_cx {P : Program} {w : World} {K : Fg} {mg : Str → Option Value} {base : Heap} {N : List Str} {qual : Str} {scope : Scope} {f : Addr} {cd : Value} {A : Around} {outer : List Env} {s : Shared} {H : Hp} {E : XK} :
    PassesOwn (model (cxOf (L2.CX P w) P w K mg base N qual scope f cd A outer s H E).prog (cxOf (L2.CX P w) P w K mg base N qual scope f cd A outer s H E).w) (cxOf (L2.CX P w) P w K mg base N qual scope f cd A outer s H E).A (cxOf (L2.CX P w) P w K mg base N qual scope f cd A outer s H E).env (cxOf (L2.CX P w) P w K mg base N qual scope f cd A outer s H E).xe := PassesOwn.leaving
end MM

namespace MM
open PySem PySem.Spec PyProof.Rows L2
structure Dk where
  a : Addr
  b : Addr
  scr : D
  big : List Int
  pos : Nat
  cnt : Nat
structure DkAt (K : Fg) (F : Fp) (t : Dk) (G : Fp) (H : Hp) : Prop where
  fa : F t.a
  fb : F t.b
  ne : t.a ≠ t.b
  cells : ∃ sv, Rep K G H sv t.scr ∧ H t.a = some (.lst [sv, .ref t.b, .int (t.pos : Nat), .int (t.cnt : Nat)]) ∧ H t.b = some (.lst (t.big.map V.int))
structure DkOk (K : Fg) (C : SC Dk) : Prop where
  at_ : ∀ t G H, C.Iv t G H → DkAt K C.F t G H
  up : ∀ (t t' : Dk) (G : Fp) (H H' : Hp) (sv : V), C.Iv t G H → t'.a = t.a → t'.b = t.b → t'.scr = t.scr → H t.a = some (.lst [sv, .ref t.b, .int (t.pos : Nat), .int (t.cnt : Nat)]) → (∀ x, x ≠ t.a → x ≠ t.b → H' x = H x) →
    H' t.a = some (.lst [sv, .ref t.b, .int (t'.pos : Nat), .int (t'.cnt : Nat)]) → H' t.b = some (.lst (t'.big.map V.int)) → C.Iv t' G H'
instance : Sto Dk where
  ok := DkOk
  cmp := fun K C D0 acc nF h => {
    at_ := fun t G H i => by
      have q := h.at_ t G H i.1
      exact ⟨.inl q.fa, .inl q.fb, q.ne, q.cells⟩
    up := fun t t' G H H' sv i e1 e2 e3 ha ho h1 h2 => by
      have q := h.at_ t G H i.1
      refine ⟨h.up t t' G H H' sv i.1 e1 e2 e3 ha ho h1 h2, ?_⟩
      rw [ho D0 (fun z => nF (by rw [z]; exact q.fa)) (fun z => nF (by rw [z]; exact q.fb))]
      exact i.2 }
  ov := fun K C F H1 hF dm h => {
    at_ := fun t G H i => by
      have q := h.at_ t G H i.1
      exact ⟨hF _ q.fa, hF _ q.fb, q.ne, q.cells⟩
    up := fun t t' G H H' sv i e1 e2 e3 ha ho h1 h2 => by
      have q := h.at_ t G H i.1
      have ot : ∀ x, ¬ C.F x → H' x = H x := fun x n => ho x (fun z => n (by rw [z]; exact q.fa)) (fun z => n (by rw [z]; exact q.fb))
      refine ⟨h.up t t' G H H' sv i.1 e1 e2 e3 ha ho h1 h2, ⟨fun b o n e => ?_, i.2.1.new⟩, fun b o hb n e => ?_⟩
      · rw [ot b fun z => n (hF b z)]; exact i.2.1.keep b o n e
      · rw [ot b n]; exact i.2.2 b o hb n e }
  lend := fun K C O H1 hO dm h => {
    at_ := fun t G H i => by
      have q := h.at_ t _ H i.1
      obtain ⟨sv, r, e⟩ := q.cells
      exact ⟨q.fa, q.fb, q.ne, sv, r.anti fun _ => .inl, e⟩
    up := fun t t' G H H' sv i e1 e2 e3 ha ho h1 h2 => by
      have q := h.at_ t _ H i.1
      refine ⟨h.up t t' _ H H' sv i.1 e1 e2 e3 ha ho h1 h2, i.2.1, fun b o hb e => ?_⟩
      rw [ho b (fun z => hO b hb (by rw [z]; exact q.fa)) (fun z => hO b hb (by rw [z]; exact q.fb))]
      exact i.2.2 b o hb e }
section
variable {X : Cx} {W : WX} {K : Fg}
def isDk (i : Nat) (ρ : Rho) (t : Dk) : Bool := match ρ[i]? with
  | some (.val (.at a)) => decide (a = t.a)
  | _ => false
theorem isDk_slot {i : Nat} {ρ : Rho} {t : Dk} {C : SC Dk} {σ : St} {H : Hp} (h : isDk i ρ t = true) (A : At K C ρ t σ H) : σ[i]? = some (some (.ref t.a)) := by
  unfold isDk at h
  split at h
  · rename_i a e
    obtain ⟨v, h1, h2⟩ := A.val i _ e
    cases h2
    rw [h1, of_decide_eq_true h]
  · cases h
def eDk (i j : Nat) : ME Dk D := fun ρ t => if isDk i ρ t = true then (match j with
  | 0 => .ok t.scr t
  | 2 => .ok (.int t.pos) t
  | 3 => .ok (.int t.cnt) t
  | _ => .bad) else .bad
theorem At.dk {C : SC Dk} {ρ : Rho} {t : Dk} {σ : St} {H : Hp} (A : At K C ρ t σ H) : DkAt K C.F t (Fo C.F ρ σ) H := (show DkOk K C from A.okC).at_ _ _ _ A.st
theorem me_dk {i j : Nat} {e : Expr} (h : PE X e (tOp (rIxL X.K) (tVar i) (tC (.int (j : Nat))))) : PE X e (tE X.K W (eDk i j)) := PE.imp h fun σ H Q ⟨C, ρ, t, A, p⟩ => by
  unfold eDk at p
  split at p
  · rename_i hi
    obtain ⟨sv, hs, ha, hb⟩ := A.dk.cells
    refine ⟨_, isDk_slot hi A, ?_⟩
    split at p
    · exact ⟨t.a, _, _, sv, rfl, rfl, .inl (.inl ha), atI_nat (j := 0) rfl, p _ H (Sm.refl _ _) A.st hs⟩
    · exact ⟨t.a, _, _, _, rfl, rfl, .inl (.inl ha), atI_nat (j := 2) rfl, p _ H (Sm.refl _ _) A.st (.int _)⟩
    · exact ⟨t.a, _, _, _, rfl, rfl, .inl (.inl ha), atI_nat (j := 3) rfl, p _ H (Sm.refl _ _) A.st (.int _)⟩
    · exact p.elim
  · exact p.elim
def eDkLen (i : Nat) : ME Dk D := fun ρ t => if isDk i ρ t = true then .ok (.int (t.big.length : Nat)) t else .bad
theorem me_dkLen {i : Nat} {e : Expr} (h : PE X e (tCB (rLen3 X.K) (tCons (tOp (rIxL X.K) (tVar i) (tC (.int 1))) tNil))) : PE X e (tE X.K W (eDkLen i)) := PE.imp h fun σ H Q ⟨C, ρ, t, A, p⟩ => by
  unfold eDkLen at p
  split at p
  · rename_i hi
    obtain ⟨sv, hs, ha, hb⟩ := A.dk.cells
    refine ⟨_, isDk_slot hi A, t.a, _, _, _, rfl, rfl, .inl (.inl ha), atI_nat (j := 1) rfl, .inl ⟨t.b, _, rfl, .inl (.inl (.inl hb)), ?_⟩⟩
    rw [List.length_map]
    exact p _ H (Sm.refl _ _) A.st (.int _)
  · exact p.elim
def eDkAt (i : Nat) : ME Dk D := fun ρ t => if isDk i ρ t = true then (match t.big[t.pos]? with
  | some c => .ok (.int c) t
  | none => .bad) else .bad
theorem me_dkAt {i : Nat} {e : Expr} (h : PE X e (tOp (rIxL X.K) (tOp (rIxL X.K) (tVar i) (tC (.int 1))) (tOp (rIxL X.K) (tVar i) (tC (.int 2))))) : PE X e (tE X.K W (eDkAt i)) := PE.imp h fun σ H Q ⟨C, ρ, t, A, p⟩ => by
  unfold eDkAt at p
  split at p
  · rename_i hi
    split at p
    · rename_i c hc
      obtain ⟨sv, hs, ha, hb⟩ := A.dk.cells
      have si := isDk_slot hi A
      refine ⟨_, si, t.a, _, _, _, rfl, rfl, .inl (.inl ha), atI_nat (j := 1) rfl, _, si, t.a, _, _, _, rfl, rfl, .inl (.inl ha), atI_nat (j := 2) rfl, t.b, _, _, _, rfl, rfl, .inl (.inl hb), atI_nat (v := V.int c) ?_, p _ H (Sm.refl _ _) A.st (.int _)⟩
      rw [List.getElem?_map, hc]
      rfl
    · exact p.elim
  · exact p.elim
def sDkBig (i : Nat) (m : ME Dk D) : MS Dk := sDo m fun d ρ t => match d with
  | .int c => if isDk i ρ t = true ∧ t.pos < t.big.length then .nx ρ { t with big := t.big.set t.pos c } else .bad
  | _ => .bad
theorem dk_write {C : SC Dk} {ρ : Rho} {t t' : Dk} {σ : St} {H H' : Hp} {sv : V} (A : At K C ρ t σ H) (e1 : t'.a = t.a) (e2 : t'.b = t.b) (e3 : t'.scr = t.scr) (ha : H t.a = some (.lst [sv, .ref t.b, .int (t.pos : Nat), .int (t.cnt : Nat)])) (ho : ∀ x, x ≠ t.a → x ≠ t.b → H' x = H x)
    (h1 : H' t.a = some (.lst [sv, .ref t.b, .int (t'.pos : Nat), .int (t'.cnt : Nat)])) (h2 : H' t.b = some (.lst (t'.big.map V.int))) : At K C ρ t' σ H' ∧ Sm C.F H H' := by
  have q := A.dk
  have sm : Sm C.F H H' := fun b o n e => by rw [ho b (fun z => n (by rw [z]; exact q.fa)) (fun z => n (by rw [z]; exact q.fb))]; exact e
  exact ⟨A.next sm ((show DkOk K C from A.okC).up t t' _ H H' sv A.st e1 e2 e3 ha ho h1 h2), sm⟩
theorem ms_dkBig {s : Stmt} {i : Nat} {m : ME Dk D} (h : PS X s (tAsg (tE X.K W m) (gSub (tOp (rIxL X.K) (tVar i) (tC (.int 1))) (tOp (rIxL X.K) (tVar i) (tC (.int 2))) rSetL))) : PS X s (tS X.K W (sDkBig i m)) := PS.imp h fun E σ H ⟨C, ρ, t, A, p⟩ => by
  refine useS A p fun d t1 v H1 e1 s1 A1 r1 p1 => ?_
  cases d <;> first
    | exact p1.elim
    | skip
  rename_i c
  cases r1
  dsimp only at p1
  split at p1
  · rename_i hi
    obtain ⟨sv, hs, ha, hb⟩ := A1.dk.cells
    have si := isDk_slot hi.1 A1
    have ne := A1.dk.ne
    refine ⟨_, si, t1.a, _, _, _, rfl, rfl, .inl (.inl ha), atI_nat (j := 1) rfl, _, si, t1.a, _, _, _, rfl, rfl, .inl (.inl ha), atI_nat (j := 2) rfl, t1.b, _, _, t1.pos, rfl, rfl, hb, ?_, ?_⟩
    · unfold ixN
      rw [if_pos (by omega), List.length_map, if_pos (by omega)]
      simp
    · have e : (t1.big.map V.int).set t1.pos (V.int c) = (t1.big.set t1.pos c).map V.int := by rw [List.map_set]
      rw [e]
      obtain ⟨A2, sm⟩ := dk_write (t' := { t1 with big := t1.big.set t1.pos c }) (H' := upd H1 t1.b (.lst ((t1.big.set t1.pos c).map V.int))) A1 rfl rfl rfl ha (fun x _ n => upd_ne n) (by rw [upd_ne ne]; exact ha) upd_same
      exact p1 σ _ (Stp.of_sm sm fun _ => Fo.base) A2
  · exact p1.elim
def sDkSet (i j : Nat) (m : ME Dk D) : MS Dk := sDo m fun d ρ t => match d with
  | .int c => if isDk i ρ t = true ∧ 0 ≤ c then (match j with
    | 2 => .nx ρ { t with pos := c.toNat }
    | 3 => .nx ρ { t with cnt := c.toNat }
    | _ => .bad) else .bad
  | _ => .bad
theorem ms_dkSet {s : Stmt} {i j : Nat} {m : ME Dk D} (h : PS X s (tAsg (tE X.K W m) (gSub (tVar i) (tC (.int (j : Nat))) rSetL))) : PS X s (tS X.K W (sDkSet i j m)) := PS.imp h fun E σ H ⟨C, ρ, t, A, p⟩ => by
  refine useS A p fun d t1 v H1 e1 s1 A1 r1 p1 => ?_
  cases d <;> first
    | exact p1.elim
    | skip
  rename_i c
  cases r1
  dsimp only at p1
  split at p1
  · rename_i hi
    obtain ⟨sv, hs, ha, hb⟩ := A1.dk.cells
    have si := isDk_slot hi.1 A1
    have ne := A1.dk.ne
    have ec : c = (c.toNat : Nat) := by omega
    refine ⟨_, si, ?_⟩
    split at p1
    · refine ⟨t1.a, _, _, 2, rfl, rfl, ha, rfl, ?_⟩
      obtain ⟨A2, sm⟩ := dk_write (t' := { t1 with pos := c.toNat }) (H' := upd H1 t1.a (.lst [sv, .ref t1.b, .int c, .int (t1.cnt : Nat)])) A1 rfl rfl rfl ha (fun x n _ => upd_ne n) (by rw [upd_same]; rw [← ec]) (by rw [upd_ne (Ne.symm ne)]; exact hb)
      exact p1 σ _ (Stp.of_sm sm fun _ => Fo.base) A2
    · refine ⟨t1.a, _, _, 3, rfl, rfl, ha, rfl, ?_⟩
      obtain ⟨A2, sm⟩ := dk_write (t' := { t1 with cnt := c.toNat }) (H' := upd H1 t1.a (.lst [sv, .ref t1.b, .int (t1.pos : Nat), .int c])) A1 rfl rfl rfl ha (fun x n _ => upd_ne n) (by rw [upd_same]; rw [← ec]) (by rw [upd_ne (Ne.symm ne)]; exact hb)
      exact p1 σ _ (Stp.of_sm sm fun _ => Fo.base) A2
    · exact p1.elim
  · exact p1.elim
end
end MM

namespace MM
open PySem PySem.Spec PyProof.Rows L2
section
variable {X : Cx} {W : WX} {τ : Type} [Sto τ] {K : Fg}
theorem PSs.pure {sts : List Stmt} {t : TS} {P : Prop} (h : P → PSs X sts t) : PSs X sts (fun E σ H => P ∧ t E σ H) := ⟨fun pins s σ H D I ⟨p, q⟩ => (h p).run pins s σ H D I q⟩
theorem Fo.setNo {F : Fp} {ρ : Rho} {σ : St} {i : Nat} {v : Option V} {b : Addr} (h : Fo F (ρ.set i .no) (σ.set i v) b) : Fo F ρ σ b := by
  rcases h with h | ⟨j, xs, ⟨h1, hm⟩, h2⟩
  · exact .inl h
  · rcases set_at h1 with ⟨_, e, _⟩ | ⟨ne, h1⟩
    · cases e; cases hm
    · rw [List.getElem?_set_ne ne] at h2
      exact .inr ⟨j, xs, ⟨h1, hm⟩, h2⟩
theorem At.clear {C : SC τ} {ρ : Rho} {t : τ} {σ : St} {H : Hp} (A : At K C ρ t σ H) (i : Nat) (v : Option V) : At K C (ρ.set i .no) t (σ.set i v) H where
  okC := A.okC
  st := C.less A.st fun _ => Fo.setNo
  len := by simp [A.len]
  val := fun j e h => by
    rcases set_at h with ⟨_, e1, _⟩ | ⟨ne, h⟩
    · cases e1
    · obtain ⟨w, h1, h2⟩ := A.val j e h
      exact ⟨w, by rw [List.getElem?_set_ne ne]; exact h1, h2.anti fun _ => Fo.setNo⟩
  mine := fun j xs hh => by
    obtain ⟨h, hm⟩ := hh
    rcases set_at h with ⟨_, e1, _⟩ | ⟨ne, h⟩
    · cases e1; cases hm
    · obtain ⟨a, vs, h1, h2, h3, h4⟩ := A.mine j xs ⟨h, hm⟩
      exact ⟨a, vs, by rw [List.getElem?_set_ne ne]; exact h1, h2, h3, h4.anti fun _ => Fo.setNo⟩
  dis := fun j k xs ys hh1 hh2 e => by
    obtain ⟨h1, m1⟩ := hh1
    obtain ⟨h2, m2⟩ := hh2
    rcases set_at h1 with ⟨_, e1, _⟩ | ⟨n1, h1⟩
    · cases e1; cases m1
    · rcases set_at h2 with ⟨_, e2, _⟩ | ⟨n2, h2⟩
      · cases e2; cases m2
      · rw [List.getElem?_set_ne n1, List.getElem?_set_ne n2] at e
        exact A.dis j k xs ys ⟨h1, m1⟩ ⟨h2, m2⟩ e
theorem Stp.setNo {F : Fp} {ρ : Rho} {σ : St} {i : Nat} {v : Option V} {H : Hp} : Stp (Fo F ρ σ) H (Fo F (ρ.set i .no) (σ.set i v)) H := Stp.less fun _ => Fo.setNo
end
end MM

namespace MM
open PySem PySem.Spec PyProof.Rows L2 PySem.NumText PySem.Calls
section
variable {X : Cx} {W : WX} {τ : Type} [Sto τ] {K : Fg}
def aVar (i : Nat) : Rho → Option D := fun ρ => match ρ[i]? with
  | some (.val d) => some d
  | _ => none
end
end MM

namespace MM
open PySem PySem.Spec PyProof.Rows L2
abbrev MSd := Rho → Option (D × List Int)
section
variable {X : Cx} {W : WX} {K : Fg}
def SPostD (K : Fg) (C : SC Unit) (F1 : Fp) (H : Hp) (r : Option (D × List Int)) (Q : VK) : Prop := match r with
  | some (d, big) => ∀ sv a b H', Stp F1 H (fun x => C.F x ∨ x = a ∨ x = b) H' → Rep K (fun x => C.F x ∨ x = a ∨ x = b) H' sv d → a ≠ b → H' a = some (.lst [sv, .ref b, .int 0, .int 0]) → H' b = some (.lst (big.map V.int)) → Q (.ref a) H'
  | none => False
theorem SPostD.rebase {C : SC Unit} {F1 F2 : Fp} {H H1 : Hp} {r : Option (D × List Int)} {Q : VK} (h : SPostD K C F1 H r Q) (s : Stp F1 H F2 H1) : SPostD K C F2 H1 r Q := by
  cases r with
  | none => exact h
  | some p =>
    obtain ⟨d, big⟩ := p
    exact fun sv a b H' s' r ne ha hb => h sv a b H' (s.trans s') r ne ha hb
def tSd (K : Fg) (m : MSd) : TS := fun E σ H => ∃ (C : SC Unit) (ρ : Rho), At K C ρ () σ H ∧ SPostD K C (Fo C.F ρ σ) H (m ρ) E.rt
theorem mss_oneD {s : Stmt} {b : MSd} (h : PS X s (tSd X.K b)) : PSs X [s] (tSd X.K b) := pss_one h
def intsD : List D → Option (List Int)
  | [] => some []
  | .int i :: r => (intsD r).map (i :: ·)
  | _ => none
theorem intsD_ok {F : Fp} {H : Hp} : ∀ {vs : List V} {ds : List D} {ns : List Int}, Reps K F H vs ds → intsD ds = some ns → vs = ns.map V.int
  | _, _, ns, .nil, e => by cases e; rfl
  | _, _, ns, .cons (v := v) (vs := vs) (d := d) (ds := ds) r t, e => by
    cases d <;> first
      | (cases e; done)
      | skip
    rename_i i
    cases q : intsD ds with
    | none =>
      have e' : (intsD ds).map (i :: ·) = some ns := e
      rw [q] at e'; cases e'
    | some l =>
      have e' : (intsD ds).map (i :: ·) = some ns := e
      rw [q] at e'
      cases e'
      cases r
      rw [intsD_ok t q]
      rfl
def retD (i : Nat) (m : ME Unit (List D)) : MSd := fun ρ => match aVar i ρ, m ρ () with
  | some d, .ok ds _ => (intsD ds).map fun l => (d, l)
  | _, _ => none
theorem ms_retDk {i : Nat} {n c : Expr} {j1 j2 : Nat} {p1 p2 pos pos' : Pos} {m : ME Unit (List D)} (hn : PE X n (tVar i)) (hc : PE X c (tF X.K W m)) (h1 : starEach [n, c, .Constant (.int 0) j1 p1, .Constant (.int 0) j2 p2] X.env = (false, eval n X.env) :: starEach [c, .Constant (.int 0) j1 p1, .Constant (.int 0) j2 p2] X.env := by rfl)
    (h2 : starEach [c, .Constant (.int 0) j1 p1, .Constant (.int 0) j2 p2] X.env = (false, eval c X.env) :: starEach [.Constant (.int 0) j1 p1, .Constant (.int 0) j2 p2] X.env := by rfl) :
    PS X (.Return (some (.List [n, c, .Constant (.int 0) j1 p1, .Constant (.int 0) j2 p2] pos)) pos') (tSd X.K (retD i m)) :=
  PS.imp (ps_ret (pe_lst (pa_cons hn (pa_cons hc (pa_cons pe_int (pa_cons pe_int pa_nil))  h2) h1))) fun E σ H ⟨C, ρ, A, p⟩ => by
    unfold retD aVar at p
    split at p
    · rename_i d ds u ed em
      split at ed
      · rename_i d' hr
        cases ed
        cases el : intsD ds with
        | none => rw [el] at p; exact p.elim
        | some l =>
          rw [el] at p
          obtain ⟨v, h1, h2⟩ := A.val i _ hr
          refine ⟨v, h1, C, ρ, (), A, ?_⟩
          rw [em]
          intro y H1 sm iv r
          obtain ⟨b, vs, rfl, nb, hb0, hb1, rr, _⟩ := r
          have ev := intsD_ok rr el
          subst ev
          refine ⟨by show 4 ≤ sizeLine; decide, fun a na => ?_⟩
          have ne : a ≠ b := fun z => by rw [z, hb1] at na; cases na
          have key : ∀ x, x = a → Fo C.F ρ σ x ∨ H x = none := fun x e => by
            by_cases q : Fo C.F ρ σ x
            · exact .inl q
            · right
              cases z : H x with
              | none => rfl
              | some o =>
                have := sm x o (fun w => q (.inl w)) z
                rw [e, na] at this; cases this
          have st : Stp (Fo C.F ρ σ) H (fun x => C.F x ∨ x = a ∨ x = b) (upd H1 a (.lst [v, .ref b, .int 0, .int 0])) := ⟨fun x o n e => by
            have e1 := sm x o (fun w => n (.inl w)) e
            rw [upd_ne (fun z => by rw [z, na] at e1; cases e1)]
            exact e1, fun x h => by
            rcases h with h | h | h
            · exact .inl (.inl h)
            · exact key x h
            · rw [h]; exact .inr hb0⟩
          exact p v a b _ st (h2.step st) ne upd_same (by rw [upd_ne (Ne.symm ne)]; exact hb1)
      · cases ed
    · exact p.elim
end
def spDk (np : Nat) (K : Fg) (m : List D → Option (D × List Int)) : Sp := fun vs H Q _ => ∃ (C : SC Unit) (ds : List D), C.Iv () C.F H ∧ Reps K C.F H vs ds ∧ ds.length = np ∧ SPostD K C C.F H (m ds) Q
def runD (n : Nat) (mb : MSd) : List D → Option (D × List Int) := fun ds => mb (ds.map Slot.val ++ List.replicate (n - ds.length) .no)
theorem fn_mkD {P : Program} {w : World} {K : Fg} {mg : Str → Option Value} {base : Heap} {x qual : Str} {params : Arguments} {body : List Stmt} {scope : Scope} {dvs : List V} {kws : List (Str × V)} {f : Addr} {fd : FuncData} {N ps : List Str} {k : Nat}
    (F : FunD K x qual params body scope dvs kws f fd) (S : FnScope N ps scope) (mb : MSd)
    (hb : ∀ (cdv : Value) (A : Around) (outer : List Env) (s : Shared) (H : Hp) (E : XK), Room k (A.deeper (envOfC qual scope s.heap.objs.size f cdv)) →
      PSs (cxOf (L2.CX P w) P w K mg base N qual scope f cdv A outer s H E) body (tSd K mb)) : FnOk P w K mg base (L2.CX P w) (k + 1) f fd ps (spDk ps.length K (runD N.length mb)) := by
  have hpl : ps.length ≤ N.length := by have := congrArg List.length S.pre; rw [List.length_take] at this; omega
  refine F.ok S (fun vs H Q E ⟨C, ds, _, r, hl, _⟩ => r.length.trans hl) fun cdv A outer s H vs Q E hr ⟨C, ds, iv, r, hl, p⟩ => ⟨_, hb cdv A outer s H E hr, C, _, At.start trivial iv r (by rw [hl]; exact hpl), ?_⟩
  unfold runD at p
  exact SPostD.rebase p ⟨fun b o n e => e, fun b h => .inl (FoStart h)⟩
structure DefD (P : Program) (w : World) (K : Fg) (mg : Str → Option Value) (base : Heap) (k : Nat) (x : Str) (np : Nat) (m : List D → Option (D × List Int)) : Prop where
  ex : ∃ (fd : FuncData) (ps : List Str) (ds : List Value), FnOk P w K mg base (L2.CX P w) k (He.ga K x) fd ps (spDk np K m) ∧ mg x = some (.ref (He.ga K x)) ∧ PySem.W.keepIn K (.ref (He.ga K x)) = true ∧ Binds K fd ps ds ∧ Vals [] ds
theorem DefD.mk' {P : Program} {w : World} {K : Fg} {mg : Str → Option Value} {base : Heap} {x qual : Str} {params : Arguments} {body : List Stmt} {scope : Scope} {dvs : List V} {kws : List (Str × V)} {fd : FuncData} {N ps : List Str} {k : Nat}
    (F : FunD K x qual params body scope dvs kws (He.ga K x) fd) (hm : mg x = some (.ref (He.ga K x))) (S : FnScope N ps scope) (mb : MSd) (hb : ∃ ds, Vals [] ds ∧ Binds K fd ps ds)
    (hbody : ∀ (cdv : Value) (A : Around) (outer : List Env) (s : Shared) (H : Hp) (E : XK), Room k (A.deeper (envOfC qual scope s.heap.objs.size (He.ga K x) cdv)) →
      PSs (cxOf (L2.CX P w) P w K mg base N qual scope (He.ga K x) cdv A outer s H E) body (tSd K mb)) : DefD P w K mg base (k + 1) x ps.length (runD N.length mb) := by
  obtain ⟨ds, h1, h2⟩ := hb
  exact ⟨fd, ps, ds, fn_mkD F S mb hbody, hm, F.kp, h2, h1⟩
theorem DefD.mono {P : Program} {w : World} {K : Fg} {mg : Str → Option Value} {base : Heap} {j k : Nat} {x : Str} {np : Nat} {m : List D → Option (D × List Int)} (F : DefD P w K mg base j x np m) (h : j ≤ k) : DefD P w K mg base k x np m := by
  obtain ⟨fd, ps, ds, F, r⟩ := F.ex
  exact ⟨fd, ps, ds, F.mono h, r⟩

theorem stp_or {G G' S : Fp} {H H' : Hp} (s : Stp G H G' H') (h : ∀ b o, S b → H b = some o → H' b = some o) : Stp (fun x => G x ∨ S x) H (fun x => G' x ∨ S x) H' :=
  ⟨fun b o n e => s.keep b o (fun z => n (.inl z)) e, fun b h => h.elim (fun z => (s.new b z).elim (fun z => .inl (.inl z)) .inr) fun z => .inl (.inr z)⟩
structure DkIv (K : Fg) (a b : Addr) (t : Dk) (G : Fp) (H : Hp) : Prop where
  ea : t.a = a
  eb : t.b = b
  ne : a ≠ b
  cells : ∃ sv, Rep K (fun x => G x ∨ (x = a ∨ x = b)) H sv t.scr ∧ H a = some (.lst [sv, .ref b, .int (t.pos : Nat), .int (t.cnt : Nat)]) ∧ H b = some (.lst (t.big.map V.int))
def SC.dk (K : Fg) (a b : Addr) : SC Dk where
  F := fun x => x = a ∨ x = b
  Iv := DkIv K a b
  dom := fun t G H x h hx => by
    obtain ⟨sv, _, h2, h3⟩ := h.cells
    rcases hx with rfl | rfl
    · rw [h2]; intro z; cases z
    · rw [h3]; intro z; cases z
  step := fun t G H G' H' h1 h2 s => by
    obtain ⟨sv, r, e1, e2⟩ := h1.cells
    exact ⟨h1.ea, h1.eb, h1.ne, sv, r.step (stp_or s h2), h2 _ _ (.inl rfl) e1, h2 _ _ (.inr rfl) e2⟩
theorem dkOk (K : Fg) (a b : Addr) : DkOk K (SC.dk K a b) where
  at_ := fun t G H i => by
    obtain ⟨sv, r, e1, e2⟩ := i.cells
    refine ⟨.inl i.ea, .inr i.eb, by rw [i.ea, i.eb]; exact i.ne, sv, r.anti fun _ => .inl, by rw [i.ea, i.eb]; exact e1, by rw [i.eb]; exact e2⟩
  up := fun t t' G H H' sv i ea eb es ha ho h1 h2 => by
    obtain ⟨sv', r, e1, e2⟩ := i.cells
    have esv : sv' = sv := by
      rw [i.ea, e1] at ha
      injection ha with ha
      injection ha with ha
      injection ha with ha
    subst esv
    rw [i.ea] at h1 ho
    rw [i.eb] at h1 h2 ho
    refine ⟨by rw [ea]; exact i.ea, by rw [eb]; exact i.eb, i.ne, sv', ?_, h1, h2⟩
    rw [es]
    exact r.same fun x o n e => by rw [ho x (fun z => n (.inr (.inl z))) (fun z => n (.inr (.inr z)))]; exact e
theorem At.toDk {K : Fg} {C : SC Unit} {ρ : Rho} {σ : St} {H H' : Hp} {sv : V} {a b : Addr} {i : Nat} {d : D} {big : List Int} (A : At K C ρ () σ H) (hF : ∀ x, ¬ C.F x) (hno : ∀ (j : Nat) (x : Slot), ¬ (ρ[j]? = some x ∧ x.mine = true))
    (s : Stp (Fo C.F ρ σ) H (fun x => C.F x ∨ x = a ∨ x = b) H') (r : Rep K (fun x => C.F x ∨ x = a ∨ x = b) H' sv d) (ne : a ≠ b) (ha : H' a = some (.lst [sv, .ref b, .int 0, .int 0])) (hb : H' b = some (.lst (big.map V.int))) :
    At K (SC.dk K a b) (ρ.set i (.val (.at a))) ⟨a, b, d, big, 0, 0⟩ (σ.set i (some (.ref a))) H' := by
  have hno' : ∀ (j : Nat) (x : Slot), ¬ ((ρ.set i (.val (.at a)))[j]? = some x ∧ x.mine = true) := fun j xs ⟨h, hm⟩ => by
    rcases set_at h with ⟨_, e, _⟩ | ⟨_, h⟩
    · cases e; cases hm
    · exact hno j xs ⟨h, hm⟩
  have sub : ∀ x, Fo (SC.dk K a b).F (ρ.set i (.val (.at a))) (σ.set i (some (.ref a))) x → C.F x ∨ x = a ∨ x = b := fun x h => by
    rcases h with h | ⟨j, xs, h, _⟩
    · exact .inr h
    · exact absurd h (hno' j xs)
  exact {
    okC := dkOk K a b
    st := ⟨rfl, rfl, ne, sv, r.anti fun x h => h.elim (sub x) .inr, ha, hb⟩
    len := by simp [A.len]
    val := fun j e h => by
      rcases set_at h with ⟨rfl, e1, hl⟩ | ⟨nj, h⟩
      · cases e1
        exact ⟨_, List.getElem?_set_self (by rw [A.len]; exact hl), .at a⟩
      · obtain ⟨w, h1, h2⟩ := A.val j e h
        exact ⟨w, by rw [List.getElem?_set_ne nj]; exact h1, (h2.step s).anti sub⟩
    mine := fun j xs h => absurd h (hno' j xs)
    dis := fun j k xs ys h => absurd h (hno' j xs) }
def lawIs (n : Nat) (m : List D → Option (D × List Int)) (rest : MS Dk) (ns : List Int) : Prop := ∃ d big, m [.scr ns] = some (d, big) ∧ ∀ a b, ∃ t, rest ((Slot.val (.scr ns) :: List.replicate (n - 1) .no).set 1 (.val (.at a))) ⟨a, b, d, big, 0, 0⟩ = .rt (.bl true) t
def spLaw (K : Fg) (n : Nat) (m : List D → Option (D × List Int)) (rest : MS Dk) : Sp := fun vs H Q _ => ∃ (a : Addr) (ns : List Int), vs = [.ref a] ∧ SqL K H a (ns.map V.int) ∧ lawIs n m rest ns ∧ ∀ H', Q (.bl true) H'
section
variable {P : Program} {w : World} {K : Fg} {mg : Str → Option Value} {base : Heap}
theorem start_none {n : Nat} {d : D} {j : Nat} {x : Slot} : ¬ ((Slot.val d :: List.replicate n .no)[j]? = some x ∧ x.mine = true) := by
  rintro ⟨h, hm⟩
  cases j with
  | zero => cases h; cases hm
  | succ j =>
    rw [List.getElem?_cons_succ, List.getElem?_replicate] at h
    split at h
    · cases h; cases hm
    · cases h
theorem law_fn {fd : FuncData} {N : List Str} {params : Arguments} {s0 : Stmt} {r : List Stmt} {scope : Scope} {dvs : List V} {kws : List (Str × V)} {k : Nat} {m : List D → Option (D × List Int)} {rest : MS Dk} {nd : Str}
    (F : FunD K "law" "law" params (s0 :: r) scope dvs kws (He.ga K "law") fd) (S : FnScope N ["_law_script"] scope) (hn : 2 ≤ N.length)
    (D0 : DefD P w K mg base k nd 1 m)
    (h0 : ∀ (cdv : Value) (A : Around) (outer : List Env) (s : Shared) (H : Hp) (E : XK), Room k (A.deeper (envOfC "law" scope s.heap.objs.size (He.ga K "law") cdv)) →
      PS (cxOf (L2.CX P w) P w K mg base N "law" scope (He.ga K "law") cdv A outer s H E) s0 (tAsg (tCallSD (spDk 1 K m) [] (WE fun cls d _ H => E cls d H) (tCons (tVar 0) tNil)) (gName 1)))
    (hr : ∀ (cdv : Value) (A : Around) (outer : List Env) (s : Shared) (H : Hp) (E : XK), Room k (A.deeper (envOfC "law" scope s.heap.objs.size (He.ga K "law") cdv)) →
      PSs (cxOf (L2.CX P w) P w K mg base N "law" scope (He.ga K "law") cdv A outer s H E) r (tS K (fun cls d _ H => E cls d H) rest)) :
    FnOk P w K mg base (L2.CX P w) (k + 1) (He.ga K "law") fd ["_law_script"] (spLaw K N.length m rest) := by
  refine F.ok S (fun vs H Q E ⟨a, ns, e, _⟩ => by rw [e]; rfl) fun cdv A outer s H vs Q E hrm ⟨a, ns, e, hs, good, hq⟩ => ⟨_, pss_cons (h0 cdv A outer s H E hrm) (hr cdv A outer s H E hrm), ?_⟩
  subst e
  obtain ⟨d, big, em, good⟩ := good
  have dm : Dom (fun _ => False) H := fun b h => h.elim
  have iv0 : (SC.pure (fun _ => False) H dm).Iv () (fun _ => False) H := ⟨Stp.refl _ _, fun _ _ _ e => e⟩
  have rs : Rep K (fun _ => False) H (.ref a) (.scr ns) := .scr (by
    rcases hs with hs | hs
    · exact .inl ⟨fun z => z, hs⟩
    · exact .inr hs)
  have A0 : At K (SC.pure (fun _ => False) H dm) (Slot.val (.scr ns) :: List.replicate (N.length - 1) .no) () (start N [.ref a]) H := At.start (ds := [.scr ns]) trivial iv0 (.cons rs .nil) (by simp; omega)
  refine ⟨.ref a, rfl, SC.pure (fun _ => False) H dm, [.scr ns], iv0, .cons rs .nil, rfl, ?_⟩
  rw [em]
  intro sv x y H' st r ne hx hy
  have A1 := A0.toDk (i := 1) (fun _ z => z) (fun j xs => start_none) ⟨fun b o n e => st.keep b o (fun z => z) e, fun b h => (st.new b h).elim False.elim .inr⟩ r ne hx hy
  obtain ⟨t, et⟩ := good x y
  refine ⟨_, _, _, A1, ?_⟩
  rw [et]
  intro v H2 _ _ r2
  cases r2
  exact hq H2
end
section
variable {chk : Chk} {fn : List He.DefD} {K : Fg}
theorem SaysM.fact (c : SaysM chk fn K) (i : Nat) {f : Fg → Bool} (h : chk[i]? = some f := by rfl) : f K = true := by
  have c1 := (He.ba (show ((chk.all fun f => f K) && fn.all fun d => d.ok K) = true from congrArg (fun z : He.AlD => z.1) c)).1
  exact List.all_eq_true.mp c1 f (List.mem_of_getElem? h)
theorem SaysM.def_ (c : SaysM chk fn K) (i : Nat) {d : He.DefD} (h : fn[i]? = some d := by rfl) : ∃ fd, FunD K d.name d.qual d.params d.body d.scope (d.dvs K) (d.kws K) (He.fAd K d.at_) fd := by
  have c2 := (He.ba (show ((chk.all fun f => f K) && fn.all fun d => d.ok K) = true from congrArg (fun z : He.AlD => z.1) c)).2
  have e : fn.map (fun d => He.fnW K d.at_) = fn.map He.DefD.val := congrArg (fun z : He.AlD => z.2) c
  have e2 : (fn.map fun d => He.fnW K d.at_)[i]? = (fn.map He.DefD.val)[i]? := by rw [e]
  rw [List.getElem?_map, List.getElem?_map, h] at e2
  exact He.DefD.funD (Option.some.inj e2) (List.all_eq_true.mp c2 d (List.mem_of_getElem? h))
end
end MM

namespace MM
open PySem PySem.Spec PyProof.Rows L2
section
variable {K : Fg} {h : Heap} {mg : Str → Option Value}
theorem cGlo_ok {x : Str} (X : K.In h) (G : h.Ns mainGlobals mg) (c : cGlo x K = true) : mg x = some (.ref (He.ga K x)) := He.glo_ok X G c
theorem cFree_ok {x : Str} (X : K.In h) (G : h.Ns mainGlobals mg) (c : cFree x K = true) : mg x = none := He.free_ok X G c
theorem cExc_ok {x : Str} (X : K.In h) (G : h.Ns mainGlobals mg) (c : cExc x K = true) : ExcF K mg x := by
  obtain ⟨c, g⟩ := He.ba c
  have c' : (PySem.W.excIn K (He.ga K x) He.veBase "ValueError.__new__" && (PySem.W.keepIn K (.ref (He.ga K x)) && (decide (PySem.W.subIn K (.ref (He.ga K x)) (.type "BaseException") = some true) && decide (PySem.W.typeIn K (.ref (He.ga K x)) = some (.type "type"))))) = true := c
  obtain ⟨c1, c'⟩ := He.ba c'
  obtain ⟨c2, c'⟩ := He.ba c'
  obtain ⟨c3, c4⟩ := He.ba c'
  exact ⟨c1, He.glo_ok X G g, c2, of_decide_eq_true c3, of_decide_eq_true c4⟩
theorem cExcC_ok {x : Str} (c : cExcC x K = true) : ExcC K (He.ga K x) := by
  unfold cExcC at c
  obtain ⟨c1, c⟩ := He.ba c
  obtain ⟨c2, c⟩ := He.ba c
  obtain ⟨c3, c⟩ := He.ba c
  obtain ⟨c4, c⟩ := He.ba c
  obtain ⟨c5, c⟩ := He.ba c
  obtain ⟨c6, c⟩ := He.ba c
  obtain ⟨c7, c8⟩ := He.ba c
  exact ⟨of_decide_eq_true c1, of_decide_eq_true c2, of_decide_eq_true c3, c4, of_decide_eq_true c5, of_decide_eq_true c6, of_decide_eq_true c7, of_decide_eq_true c8⟩
theorem cKit_ok {x : Str} {v : Fg → Value} {b : Bool} (c : cKit x v b K = true) : PySem.W.kitOne K (.ref (He.ga K x)) (v K) = some b := of_decide_eq_true c
theorem cExm_ok {x : Str} {v : Fg → Value} {b : Bool} (c : cExm x v b K = true) : PySem.W.exmOne K (.ref (He.ga K x)) (v K) = some b := of_decide_eq_true c
end
mutual
theorem isDV_ok {K : Fg} : ∀ (n : Nat) (v : Value) (d : D), isDV K n v d = true → ∃ x : V, RelV x v ∧ ∀ F H, Rep K F H x d := by
  intro n v d h
  unfold isDV at h
  split at h
  · exact ⟨.non, rfl, fun _ _ => .non⟩
  · rename_i b c
    have e : b = c := eq_of_beq h
    subst e
    exact ⟨.bl b, rfl, fun _ _ => .bl _⟩
  · rename_i i t j
    have e : i = j := of_decide_eq_true h
    subst e
    exact ⟨.int i, ⟨t, rfl⟩, fun _ _ => .int _⟩
  · rename_i i t j
    have e : i = j := of_decide_eq_true h
    subst e
    exact ⟨.str i, ⟨t, rfl⟩, fun _ _ => .str _⟩
  · rename_i n a ds
    split at h
    · rename_i c od its m sl q
      obtain ⟨h1, h⟩ := He.ba h
      obtain ⟨h2, h3⟩ := He.ba h
      obtain ⟨xs, r1, r2⟩ := isDVs_ok n its.toList ds h3
      exact ⟨.ref a, rfl, fun F H => .tup (.inr ⟨_, its, m, q, congrArg Value.type (of_decide_eq_true h1), rfl, of_decide_eq_true h2, r1⟩) (r2 F H)⟩
    · cases h
  · cases h
theorem isDVs_ok {K : Fg} : ∀ (n : Nat) (vs : List Value) (ds : List D), isDVs K n vs ds = true → ∃ xs : List V, Vals xs vs ∧ ∀ F H, Reps K F H xs ds := by
  intro n vs ds h
  unfold isDVs at h
  split at h
  · exact ⟨[], .nil, fun _ _ => .nil⟩
  · rename_i v vs d ds
    obtain ⟨h1, h2⟩ := He.ba h
    obtain ⟨x, r1, r2⟩ := isDV_ok n v d h1
    obtain ⟨xs, q1, q2⟩ := isDVs_ok n vs ds h2
    exact ⟨x :: xs, .cons r1 q1, fun F H => .cons (r2 F H) (q2 F H)⟩
  · cases h
end
theorem cVal_ok {K : Fg} {h : Heap} {mg : Str → Option Value} {x : Str} {d : D} (X : K.In h) (G : h.Ns mainGlobals mg) (c : cVal x d K = true) : Glc K mg x d := by
  unfold cVal at c
  split at c
  · rename_i v e
    obtain ⟨y, r1, r2⟩ := isDV_ok 8 v d c
    exact ⟨y, v, PySem.W.mg_of X G e, r1, r2⟩
  · cases c
theorem glc_rep {K : Fg} {mg : Str → Option Value} {x : Str} {d : D} (g : Glc K mg x d) (e : mg x = some (.ref (He.ga K x))) : ∀ F H, Rep K F H (.ref (He.ga K x)) d := by
  obtain ⟨v, u, h1, h2, h3⟩ := g
  rw [e] at h1
  cases h1
  cases v with
  | ref a => cases h2; exact h3
  | _ => first
    | (cases h2; done)
    | (obtain ⟨_, h2⟩ := h2; cases h2)
theorem room_k {k : Nat} (h : k ≤ 60) : Room k callerA := Room.mono (k := 60) ⟨rfl, by decide, by decide⟩ h
theorem pe_deck {X : Cx} {W : WX} {k : Nat} {x : Str} {m : List D → Option (D × List Int)} {e : Expr} {p pos : Pos} {t : TA} (Df : DefD X.prog X.w X.K X.mg X.base k x 1 m) (hr : Room k X.A) (tk : Takes X W) (hg : Gl X x) (ha : PA X [e] t)
    (hdb : (x == ("__debug__" : Str)) = false := by decide) (he : starEach [e] X.env = (false, eval e X.env) :: starEach [] X.env := by rfl) (hpl : (backTo pos (starEach [] X.env)).any (·.1) = false := by rfl) :
    PE X (.Call (.Name x p) [e] [] pos) (tCallSD (spDk 1 X.K m) [] (WE W) t) := by
  obtain ⟨fd, ps, ds, F, hm, hk, hb, hd⟩ := Df.ex
  exact pe_callSD F hr hg hm hk hb hd (fun σ => passAt tk σ) ha hdb he hpl
theorem walk_mm {l : PySem.W.OpenLaw} {n k nn : Nat} {q : Program} {loose : List Str} {XP : (Str → Option Value) → Heap → Prop} {chk : Chk} {fn : List He.DefD} {d : DefRec} {N : Nat} {m : List D → Option (D × List Int)} {rest : MS Dk}
    (hn : l.most = some n) (hn2 : n ≤ sizeLine) (hdf : d.params.defaults = []) (hname : d.name = "law") (hr : Room k callerA)
    (F : ∀ (w : World) (mg : Str → Option Value) (K : Fg) (h : Heap), K.In h → h.Ns mainGlobals mg → SaysM chk fn K → mg "law" = some (.ref (He.ga K "law")) ∧
      ∃ fd : FuncData, (∀ (s : Shared) (u : Value), BindsTo s fd ⟨[u], []⟩ [("_law_script", u)]) ∧ ∀ base : Heap, FnOk l.prog w K mg base (L2.CX l.prog w) k (He.ga K "law") fd ["_law_script"] (spLaw K N m rest))
    (good : ∀ ns : List Int, ns.length ≤ n → (∀ z ∈ ns, Builtin.Int.intBits z ≤ 1048576) → lawIs N m rest ns) :
    PySem.W.WalkO q loose XP (hookM nn chk fn).says l.row.toRowW d [] (fun f vs => PySem.call f vs) := by
  refine Att.attach_callB hn hdf fun w s₀ s₁ mg mb fa o pm cd doc a vs ns G Y ho hd hcd hmg hobj hints hlen hbits hg => ?_
  obtain ⟨K, KX, sm⟩ := Y
  obtain ⟨e1, fd, hb, hF⟩ := F w mg K _ KX G.T.g sm
  rw [hname, e1] at hmg
  injection hmg with hmg
  injection hmg with hmg
  subst hmg
  refine law_call KX G.T.g G.T.b G.T.builtins G.T.nolimit hg hobj hints (Nat.le_trans hlen hn2) hr (fun base _ _ => hF base) hb (fun H _ hS => ⟨a, ns, rfl, hS, good ns hlen hbits, fun _ => rfl⟩) fun H e s' => ?_
  rintro ⟨a, B, H', cls, dd, _, _, _, _, _, _, _, z⟩
  exact z
end MM

namespace MM
open PySem PySem.Spec PyProof.Rows L2
section
variable {τ : Type}
def oE {α : Type} (r : Res τ α) (Q : α → τ → Prop) (X : Str → Fds → τ → Prop) : Prop := match r with
  | .ok a t => Q a t
  | .ex n fs t => X n fs t
  | .bad => False
structure Pt (τ : Type) where
  nx : Rho → τ → Prop
  rt : D → τ → Prop
  ex : Str → Fds → Rho → τ → Prop := fun _ _ _ _ => False
  bk : Rho → τ → Prop := fun _ _ => False
  ct : Rho → τ → Prop := fun _ _ => False
def oS (r : Fl τ) (P : Pt τ) : Prop := match r with
  | .nx ρ t => P.nx ρ t
  | .rt d t => P.rt d t
  | .ex n fs ρ t => P.ex n fs ρ t
  | .bk ρ t => P.bk ρ t
  | .ct ρ t => P.ct ρ t
  | .bad => False
section
variable {α β γ δ : Type} {Q : α → τ → Prop} {X : Str → Fds → τ → Prop} {P : Pt τ}
@[simp] theorem oE_ok {a : α} {t : τ} : oE (.ok a t) Q X = Q a t := rfl
@[simp] theorem oE_ex {n : Str} {fs : Fds} {t : τ} : oE (α := α) (.ex n fs t) Q X = X n fs t := rfl
@[simp] theorem oE_bad : oE (α := α) .bad Q X = False := rfl
@[simp] theorem oE_bind {r : Res τ β} {k : β → τ → Res τ α} : oE (r.bind k) Q X = oE r (fun b t => oE (k b t) Q X) X := by cases r <;> rfl
@[simp] theorem oE_opt {o : Option α} {t : τ} : oE (opt o t) Q X = ∃ a, o = some a ∧ Q a t := by
  cases o with
  | none => simp [opt, oE]
  | some a => simp [opt, oE]
@[simp] theorem oE_ite {c : Prop} [Decidable c] {a b : Res τ α} : oE (if c then a else b) Q X = ((c → oE a Q X) ∧ (¬ c → oE b Q X)) := by
  by_cases h : c <;> simp [h]
theorem oE_imp {r : Res τ α} {Q' : α → τ → Prop} {X' : Str → Fds → τ → Prop} (h : oE r Q' X') (i : ∀ a t, Q' a t → Q a t) (ix : ∀ n fs t, X' n fs t → X n fs t) : oE r Q X := by
  cases r with
  | ok a t => exact i _ _ h
  | ex n fs t => exact ix _ _ _ h
  | bad => exact h
theorem oE_eq {r : Res τ α} {v : α} {u : τ} (h : oE r (fun a t => a = v ∧ t = u) (fun _ _ _ => False)) : r = .ok v u := by
  cases r with
  | ok a t => obtain ⟨rfl, rfl⟩ := h; rfl
  | ex n fs t => exact h.elim
  | bad => exact h.elim
theorem oE_eqx {r : Res τ α} {n : Str} {fs : Fds} {u : τ} (h : oE r (fun a t => False) (fun m gs t => m = n ∧ gs = fs ∧ t = u)) : r = .ex n fs u := by
  cases r with
  | ok a t => exact h.elim
  | ex m gs t => obtain ⟨rfl, rfl, rfl⟩ := h; rfl
  | bad => exact h.elim
theorem oE_ex' {r : Res τ α} (h : oE r Q (fun _ _ _ => False)) : ∃ a t, r = .ok a t ∧ Q a t := by
  cases r with
  | ok a t => exact ⟨a, t, rfl, h⟩
  | ex n fs t => exact h.elim
  | bad => exact h.elim
theorem oS_imp {r : Fl τ} {P' : Pt τ} (h : oS r P') (i1 : ∀ ρ t, P'.nx ρ t → P.nx ρ t) (i2 : ∀ d t, P'.rt d t → P.rt d t) (i3 : ∀ n fs ρ t, P'.ex n fs ρ t → P.ex n fs ρ t) (i4 : ∀ ρ t, P'.bk ρ t → P.bk ρ t) (i5 : ∀ ρ t, P'.ct ρ t → P.ct ρ t) : oS r P := by
  cases r with
  | nx => exact i1 _ _ h
  | rt => exact i2 _ _ h
  | ex => exact i3 _ _ _ _ h
  | bk => exact i4 _ _ h
  | ct => exact i5 _ _ h
  | bad => exact h
variable {ρ : Rho} {t : τ}
@[simp] theorem oE_var {i : Nat} {Q : D → τ → Prop} : oE (eVar i ρ t) Q X = (match ρ[i]? with | some (.val d) => Q d t | _ => False) := by
  unfold eVar; split <;> simp_all [oE]
@[simp] theorem oE_varW {i : Nat} {Q : D → τ → Prop} : oE (eVarW i ρ t) Q X = (match ρ[i]? with | some (.val d) => Q d t | some (.own xs) => Q (.lst xs) t | some (.dct ks xs) => Q (.dct ks xs) t | _ => False) := by
  unfold eVarW; split <;> simp_all [oE]
@[simp] theorem oE_c {d : D} {Q : D → τ → Prop} : oE (eC d ρ t) Q X = Q d t := rfl
@[simp] theorem oE_e1 {f : β → Option α} {a : ME τ β} : oE (e1 f a ρ t) Q X = oE (a ρ t) (fun d t => ∃ z, f d = some z ∧ Q z t) X := by unfold e1; simp
@[simp] theorem oE_e2 {f : β → γ → Option α} {a : ME τ β} {b : ME τ γ} : oE (e2 f a b ρ t) Q X = oE (a ρ t) (fun d t => oE (b ρ t) (fun e t => ∃ z, f d e = some z ∧ Q z t) X) X := by unfold e2; simp
@[simp] theorem oE_e3 {f : β → γ → δ → Option α} {a : ME τ β} {b : ME τ γ} {c : ME τ δ} : oE (e3 f a b c ρ t) Q X = oE (a ρ t) (fun d t => oE (b ρ t) (fun e t => oE (c ρ t) (fun g t => ∃ z, f d e g = some z ∧ Q z t) X) X) X := by unfold e3; simp
@[simp] theorem oE_not {a : ME τ Bool} {Q : Bool → τ → Prop} : oE (tNot1 a ρ t) Q X = oE (a ρ t) (fun b t => Q (!b) t) X := by unfold tNot1; simp
@[simp] theorem oE_and {a b : ME τ Bool} {Q : Bool → τ → Prop} : oE (tAnd2 a b ρ t) Q X = oE (a ρ t) (fun c t => (c = true → oE (b ρ t) Q X) ∧ (¬ c = true → Q false t)) X := by unfold tAnd2; simp
@[simp] theorem oE_or {a b : ME τ Bool} {Q : Bool → τ → Prop} : oE (tOr2 a b ρ t) Q X = oE (a ρ t) (fun c t => (c = true → Q true t) ∧ (¬ c = true → oE (b ρ t) Q X)) X := by unfold tOr2; simp
@[simp] theorem oE_andE {a b : ME τ D} {Q : D → τ → Prop} : oE (eAnd2 a b ρ t) Q X = oE (a ρ t) (fun d t => ∃ c, asB d = some c ∧ ((c = true → oE (b ρ t) Q X) ∧ (¬ c = true → Q (.bl false) t))) X := by unfold eAnd2; simp
@[simp] theorem oE_orE {a b : ME τ D} {Q : D → τ → Prop} : oE (eOr2 a b ρ t) Q X = oE (a ρ t) (fun d t => ∃ c, asB d = some c ∧ ((c = true → Q (.bl true) t) ∧ (¬ c = true → oE (b ρ t) Q X))) X := by unfold eOr2; simp
@[simp] theorem oE_notE {a : ME τ D} {Q : D → τ → Prop} : oE (eNot1 a ρ t) Q X = oE (a ρ t) (fun d t => ∃ c, asB d = some c ∧ Q (.bl (!c)) t) X := by unfold eNot1; simp
@[simp] theorem oE_nil {Q : List α → τ → Prop} : oE (aNil ρ t) Q X = Q [] t := rfl
@[simp] theorem oE_cons {a : ME τ α} {b : ME τ (List α)} {Q : List α → τ → Prop} : oE (aCons a b ρ t) Q X = oE (a ρ t) (fun d t => oE (b ρ t) (fun ds t => Q (d :: ds) t) X) X := by unfold aCons; simp
@[simp] theorem oE_tup {a : ME τ (List D)} {Q : D → τ → Prop} : oE (eTup a ρ t) Q X = oE (a ρ t) (fun ds t => ds.length ≤ 16777216 ∧ Q (.tup ds) t) X := by
  unfold eTup; rw [oE_e1]; congr; funext ds t; unfold lim
  by_cases h : ds.length ≤ 16777216 <;> simp [h]
@[simp] theorem ex_lim {ds : List α} {Q : List α → Prop} : (∃ z, lim ds = some z ∧ Q z) ↔ ds.length ≤ 16777216 ∧ Q ds := by
  unfold lim
  by_cases h : ds.length ≤ 16777216 <;> simp [h]
@[simp] theorem oE_lst {a : ME τ (List D)} {Q : D → τ → Prop} : oE (eLst a ρ t) Q X = oE (a ρ t) (fun ds t => Q (.lst ds) t) X := by unfold eLst; simp
@[simp] theorem oE_call {m : List D → Unit → Res Unit D} {df : List D} {a : ME τ (List D)} {Q : D → τ → Prop} : oE (eCall m df a ρ t) Q X = oE (a ρ t) (fun ds t => oE (m (ds ++ df) ()) (fun d _ => Q d t) (fun n fs _ => X n fs t)) X := by
  unfold eCall; rw [oE_bind]; congr; funext ds t
  cases m (ds ++ df) () <;> rfl
@[simp] theorem oE_callS {m : List D → τ → Res τ D} {df : List D} {a : ME τ (List D)} {Q : D → τ → Prop} : oE (eCallS m df a ρ t) Q X = oE (a ρ t) (fun ds t => oE (m (ds ++ df) t) Q X) X := by unfold eCallS; simp
@[simp] theorem oE_oNone {Q : Option Int → τ → Prop} : oE (oNone ρ t) Q X = Q none t := rfl
@[simp] theorem oE_oSome {a : ME τ D} {Q : Option Int → τ → Prop} : oE (oSome a ρ t) Q X = oE (a ρ t) (fun d t => ∃ i, d = .int i ∧ Q (some i) t) X := by
  unfold oSome; rw [oE_e1]; congr; funext d t
  cases d <;> simp
@[simp] theorem aVar_eq {i : Nat} : aVar i ρ = (match ρ[i]? with | some (.val d) => some d | _ => none) := rfl
@[simp] theorem keyOf_int {i : Int} : keyOf (.int i) = some (.inl i) := rfl
@[simp] theorem keyOf_str {i : Str} : keyOf (.str i) = some (.inr i) := rfl
@[simp] theorem oE_run {n : Nat} {b : MS τ} {ds : List D} {Q : D → τ → Prop} : oE (runB n b ds t) Q X = oS (b (ds.map Slot.val ++ List.replicate (n - ds.length) .no) t) { nx := fun _ t => Q .non t, rt := Q, ex := fun n fs _ t => X n fs t } := by
  unfold runB; cases b (ds.map Slot.val ++ List.replicate (n - ds.length) .no) t <;> rfl
@[simp] theorem oS_nx : oS (.nx ρ t) P = P.nx ρ t := rfl
@[simp] theorem oS_rt {d : D} : oS (.rt d t) P = P.rt d t := rfl
@[simp] theorem oS_bk : oS (.bk ρ t) P = P.bk ρ t := rfl
@[simp] theorem oS_ct : oS (.ct ρ t) P = P.ct ρ t := rfl
@[simp] theorem oS_ex {n : Str} {fs : Fds} : oS (.ex n fs ρ t) P = P.ex n fs ρ t := rfl
@[simp] theorem oS_bad : oS .bad P = False := rfl
@[simp] theorem oS_ite {c : Prop} [Decidable c] {a b : Fl τ} : oS (if c then a else b) P = ((c → oS a P) ∧ (¬ c → oS b P)) := by
  by_cases h : c <;> simp [h]
def Nxt (b : MS τ) (ρ : Rho) (t : τ) (P : Pt τ) : Prop := oS (b ρ t) P
@[simp] theorem oS_seq {a b : MS τ} : oS (sSeq a b ρ t) P = oS (a ρ t) { P with nx := fun ρ t => Nxt b ρ t P } := by
  unfold sSeq Nxt; cases a ρ t <;> rfl
@[simp] theorem oS_skip : oS (sSkip ρ t) P = P.nx ρ t := rfl
theorem oS_do {m : ME τ α} {k : α → Rho → τ → Fl τ} : oS (sDo m k ρ t) P = oE (m ρ t) (fun a t => oS (k a ρ t) P) (fun n fs t => P.ex n fs ρ t) := by
  unfold sDo; cases m ρ t <;> rfl
@[simp] theorem oS_asg {i : Nat} {m : ME τ D} : oS (sAsg (gN i) m ρ t) P = oE (m ρ t) (fun d t => P.nx (ρ.set i (.val d)) t) (fun n fs t => P.ex n fs ρ t) := by
  unfold sAsg; rw [oS_do]; rfl
@[simp] theorem oS_asgT {gs : Tgts} {m : ME τ D} : oS (sAsg (gT gs) m ρ t) P = oE (m ρ t) (fun d t => ∃ ρ', gT gs ρ d = some ρ' ∧ P.nx ρ' t) (fun n fs t => P.ex n fs ρ t) := by
  unfold sAsg; rw [oS_do]; congr; funext d t
  cases gT gs ρ d <;> simp
@[simp] theorem gNil_eq : gNil ρ [] = some ρ := rfl
@[simp] theorem gCons_eq {g : Tgt} {gs : Tgts} {d : D} {ds : List D} : gCons g gs ρ (d :: ds) = (g ρ d).bind fun ρ' => gs ρ' ds := rfl
@[simp] theorem gN_eq {i : Nat} {d : D} : gN i ρ d = some (ρ.set i (.val d)) := rfl
@[simp] theorem gT_tup {gs : Tgts} {ds : List D} : gT gs ρ (.tup ds) = gs ρ ds := rfl
@[simp] theorem oS_own {i : Nat} {m : ME τ (List D)} : oS (sOwn i m ρ t) P = oE (m ρ t) (fun ds t => P.nx (ρ.set i (.own ds)) t) (fun n fs t => P.ex n fs ρ t) := by
  unfold sOwn; rw [oS_do]; rfl
@[simp] theorem oS_frz {i : Nat} {m : MS τ} : oS (sFrz i m ρ t) P = (match ρ[i]? with | some (.own xs) => oS (m (ρ.set i (.val (.lst xs))) t) P | some (.dct ks xs) => oS (m (ρ.set i (.val (.dct ks xs))) t) P | _ => oS (m ρ t) P) := by
  unfold sFrz; split <;> simp_all
@[simp] theorem oS_ret {m : ME τ D} : oS (sRet m ρ t) P = oE (m ρ t) P.rt (fun n fs t => P.ex n fs ρ t) := by
  unfold sRet; rw [oS_do]; rfl
@[simp] theorem oS_if {c : ME τ Bool} {a b : MS τ} : oS (sIf c a b ρ t) P = oE (c ρ t) (fun k t => (k = true → oS (a ρ t) P) ∧ (¬ k = true → oS (b ρ t) P)) (fun n fs t => P.ex n fs ρ t) := by
  unfold sIf; rw [oS_do]; simp
@[simp] theorem oS_par {i j : Nat} {a b : ME τ D} : oS (sPar i j a b ρ t) P = oE (a ρ t) (fun d t => oE (b ρ t) (fun e t => P.nx ((ρ.set i (.val d)).set j (.val e)) t) (fun n fs t => P.ex n fs ρ t)) (fun n fs t => P.ex n fs ρ t) := by
  unfold sPar; rw [oS_do]; simp
@[simp] theorem oS_raise {n : Str} : oS (sRaise n ρ t) P = P.ex n none ρ t := rfl
@[simp] theorem oS_for {m : ME τ (List D)} {g : Tgt} {b : MS τ} : oS (sFor m g b ρ t) P = oE (m ρ t) (fun ds t => oS (loopF g b ds ρ t) P) (fun n fs t => P.ex n fs ρ t) := by
  unfold sFor; rw [oS_do]
theorem oS_loop_nil {g : Tgt} {b : MS τ} : oS (loopF g b [] ρ t) P = P.nx ρ t := rfl
theorem oS_loop_cons {g : Tgt} {b : MS τ} {d : D} {ds : List D} : oS (loopF g b (d :: ds) ρ t) P = ∃ ρ1, g ρ d = some ρ1 ∧ oS (b ρ1 t) { P with nx := fun ρ t => oS (loopF g b ds ρ t) P, ct := fun ρ t => oS (loopF g b ds ρ t) P, bk := P.nx } := by
  rw [show loopF g b (d :: ds) = fun ρ t => match g ρ d with
    | some ρ1 => (match b ρ1 t with
      | .nx ρ' t' => loopF g b ds ρ' t'
      | .ct ρ' t' => loopF g b ds ρ' t'
      | .bk ρ' t' => .nx ρ' t'
      | r => r)
    | none => .bad from rfl]
  cases e : g ρ d with
  | none => simp [e]
  | some ρ1 =>
    simp only [e, Option.some.injEq, exists_eq_left']
    cases e2 : b ρ1 t <;> simp
theorem oS_rtEx {r : Fl τ} {R : D → τ → Prop} (h : oS r { nx := fun _ _ => False, rt := R }) : ∃ d t, r = .rt d t ∧ R d t := by
  cases r with
  | rt d t => exact ⟨d, t, rfl, h⟩
  | _ => exact h.elim
theorem compL_ok {g : Tgt} {tt : ME Unit Bool} {te : ME Unit D} {ρ : Rho} {p : D → Prop} : ∀ ds : List D, (∀ d ∈ ds, ∃ ρ1, g ρ d = some ρ1 ∧ ∃ b, tt ρ1 () = .ok b () ∧ (b = true → ∃ y, te ρ1 () = .ok y () ∧ p y)) →
    ∃ ys, compL g tt te ρ ds () = .ok ys () ∧ ∀ y ∈ ys, p y
  | [], _ => ⟨[], rfl, fun y h => by cases h⟩
  | d :: ds, h => by
    obtain ⟨ρ1, e1, b, e2, h3⟩ := h d List.mem_cons_self
    obtain ⟨ys, e4, h4⟩ := compL_ok (p := p) ds fun d hd => h d (List.mem_cons_of_mem _ hd)
    unfold compL
    rw [e1]
    dsimp only
    rw [e2]
    cases b with
    | false => exact ⟨ys, e4, h4⟩
    | true =>
      obtain ⟨y, e5, h5⟩ := h3 rfl
      refine ⟨y :: ys, ?_, fun z hz => by rcases List.mem_cons.mp hz with rfl | hz; exact h5; exact h4 z hz⟩
      simp [noEx, e5, e4]
theorem intsD_all : ∀ ys : List D, (∀ y ∈ ys, ∃ i, y = .int i) → ∃ l, intsD ys = some l
  | [], _ => ⟨[], rfl⟩
  | y :: ys, h => by
    obtain ⟨i, rfl⟩ := h y List.mem_cons_self
    obtain ⟨l, e⟩ := intsD_all ys fun y hy => h y (List.mem_cons_of_mem _ hy)
    exact ⟨i :: l, by show (intsD ys).map (i :: ·) = _; rw [e]; rfl⟩
theorem oS_loop {g : Tgt} {b : MS τ} (I : List D → Rho → τ → Prop) : ∀ (ds : List D) (ρ : Rho) (t : τ), I ds ρ t →
    (∀ d ds ρ t, I (d :: ds) ρ t → ∃ ρ1, g ρ d = some ρ1 ∧ oS (b ρ1 t) { P with nx := I ds, ct := I ds, bk := P.nx }) → (∀ ρ t, I [] ρ t → P.nx ρ t) → oS (loopF g b ds ρ t) P
  | [], ρ, t, h, _, hn => hn ρ t h
  | d :: ds, ρ, t, h, hs, hn => by
    rw [oS_loop_cons]
    obtain ⟨ρ1, e, h1⟩ := hs d ds ρ t h
    exact ⟨ρ1, e, oS_imp h1 (fun ρ t h => oS_loop I ds ρ t h hs hn) (fun _ _ h => h) (fun _ _ _ _ h => h) (fun _ _ h => h) (fun ρ t h => oS_loop I ds ρ t h hs hn)⟩
theorem oS_while [Sto τ] {c : ME τ Bool} {b : MS τ} (I : Nat → Rho → τ → Prop) (hs : ∀ n ρ t, I n ρ t → oE (c ρ t) (fun k t => (k = true → oS (b ρ t) { P with nx := fun ρ t => ∃ m, m < n ∧ I m ρ t, ct := fun ρ t => ∃ m, m < n ∧ I m ρ t, bk := P.nx }) ∧ (¬ k = true → P.nx ρ t)) (fun n fs t => P.ex n fs ρ t)) :
    ∀ (n : Nat) (ρ : Rho) (t : τ), I n ρ t → oS (sWhile c b ρ t) P := by
  intro n
  induction n using Nat.strongRecOn with
  | _ n ih =>
    intro ρ t h
    rw [sWhile_turn, oS_do]
    refine oE_imp (hs n ρ t h) (fun k t1 h1 => ?_) fun _ _ _ h => h
    rw [oS_ite]
    refine ⟨fun hk => ?_, fun hk => h1.2 hk⟩
    have h2 := h1.1 hk
    cases e : b ρ t1 <;> rw [e] at h2
    · obtain ⟨m, hm, h3⟩ := h2; exact ih m hm _ _ h3
    · exact h2
    · exact h2
    · obtain ⟨m, hm, h3⟩ := h2; exact ih m hm _ _ h3
    · exact h2
    · exact h2
end
end
section
variable {Q : D → Dk → Prop} {X : Str → Fds → Dk → Prop} {P : Pt Dk} {ρ : Rho} {t : Dk} {i j : Nat} {m : ME Dk D}
@[simp] theorem isDk_eq : isDk i ρ t = (match ρ[i]? with | some (.val (.at a)) => decide (a = t.a) | _ => false) := rfl
@[simp] theorem oE_dk0 : oE (eDk i 0 ρ t) Q X = (isDk i ρ t = true ∧ Q t.scr t) := by unfold eDk; by_cases h : isDk i ρ t = true <;> simp only [h, if_true, if_false, true_and, false_and, oE_ok, oE_bad, Bool.false_eq_true]
@[simp] theorem oE_dk2 : oE (eDk i 2 ρ t) Q X = (isDk i ρ t = true ∧ Q (.int t.pos) t) := by unfold eDk; by_cases h : isDk i ρ t = true <;> simp only [h, if_true, if_false, true_and, false_and, oE_ok, oE_bad, Bool.false_eq_true]
@[simp] theorem oE_dk3 : oE (eDk i 3 ρ t) Q X = (isDk i ρ t = true ∧ Q (.int t.cnt) t) := by unfold eDk; by_cases h : isDk i ρ t = true <;> simp only [h, if_true, if_false, true_and, false_and, oE_ok, oE_bad, Bool.false_eq_true]
@[simp] theorem oE_dkLen : oE (eDkLen i ρ t) Q X = (isDk i ρ t = true ∧ Q (.int (t.big.length : Nat)) t) := by unfold eDkLen; by_cases h : isDk i ρ t = true <;> simp only [h, if_true, if_false, true_and, false_and, oE_ok, oE_bad, Bool.false_eq_true]
@[simp] theorem oE_dkAt : oE (eDkAt i ρ t) Q X = (isDk i ρ t = true ∧ ∃ c, t.big[t.pos]? = some c ∧ Q (.int c) t) := by
  unfold eDkAt
  by_cases h : isDk i ρ t = true
  · simp only [h, if_true, true_and]
    cases e : t.big[t.pos]? <;> simp
  · simp only [h, if_false, false_and, oE_bad, Bool.false_eq_true]
@[simp] theorem oS_dkBig : oS (sDkBig i m ρ t) P = oE (m ρ t) (fun d t => ∃ c, d = .int c ∧ isDk i ρ t = true ∧ t.pos < t.big.length ∧ P.nx ρ { t with big := t.big.set t.pos c }) (fun n fs t => P.ex n fs ρ t) := by
  unfold sDkBig; rw [oS_do]; congr; funext d t
  cases d <;> simp only [oS_bad, reduceCtorEq, false_and, exists_false, D.int.injEq, exists_eq_left']
  rename_i c
  by_cases h : isDk i ρ t = true ∧ t.pos < t.big.length
  · rw [if_pos h]; simp only [oS_nx, h.1, h.2, true_and]
  · rw [if_neg h]; simp only [oS_bad]; exact (propext ⟨fun z => z.elim, fun z => h ⟨z.1, z.2.1⟩⟩)
@[simp] theorem oS_dkSet2 : oS (sDkSet i 2 m ρ t) P = oE (m ρ t) (fun d t => ∃ c, d = .int c ∧ isDk i ρ t = true ∧ 0 ≤ c ∧ P.nx ρ { t with pos := c.toNat }) (fun n fs t => P.ex n fs ρ t) := by
  unfold sDkSet; rw [oS_do]; congr; funext d t
  cases d <;> simp only [oS_bad, reduceCtorEq, false_and, exists_false, D.int.injEq, exists_eq_left']
  rename_i c
  by_cases h : isDk i ρ t = true ∧ 0 ≤ c
  · rw [if_pos h]; simp only [oS_nx, h.1, h.2, true_and]
  · rw [if_neg h]; simp only [oS_bad]; exact (propext ⟨fun z => z.elim, fun z => h ⟨z.1, z.2.1⟩⟩)
@[simp] theorem oS_dkSet3 : oS (sDkSet i 3 m ρ t) P = oE (m ρ t) (fun d t => ∃ c, d = .int c ∧ isDk i ρ t = true ∧ 0 ≤ c ∧ P.nx ρ { t with cnt := c.toNat }) (fun n fs t => P.ex n fs ρ t) := by
  unfold sDkSet; rw [oS_do]; congr; funext d t
  cases d <;> simp only [oS_bad, reduceCtorEq, false_and, exists_false, D.int.injEq, exists_eq_left']
  rename_i c
  by_cases h : isDk i ρ t = true ∧ 0 ≤ c
  · rw [if_pos h]; simp only [oS_nx, h.1, h.2, true_and]
  · rw [if_neg h]; simp only [oS_bad]; exact (propext ⟨fun z => z.elim, fun z => h ⟨z.1, z.2.1⟩⟩)
end
@[simp] theorem asB_bl {b : Bool} : asB (.bl b) = some b := rfl
@[simp] theorem dLt_int {i j : Int} : dLt (.int i) (.int j) = some (.bl (decide (i < j))) := rfl
@[simp] theorem dLe_int {i j : Int} : dLe (.int i) (.int j) = some (.bl (decide (i ≤ j))) := rfl
@[simp] theorem dGt_int {i j : Int} : dGt (.int i) (.int j) = some (.bl (decide (j < i))) := rfl
@[simp] theorem dGe_int {i j : Int} : dGe (.int i) (.int j) = some (.bl (decide (j ≤ i))) := rfl
@[simp] theorem dAdd_int {i j : Int} : dAdd (.int i) (.int j) = some (.int (i + j)) := rfl
@[simp] theorem dSub_int {i j : Int} : dSub (.int i) (.int j) = some (.int (i - j)) := rfl
@[simp] theorem ex_asc {α : Sort _} {a : α} {c : Prop} {Q : α → Prop} : (∃ z, (z = a ∧ c) ∧ Q z) ↔ c ∧ Q a := ⟨fun ⟨z, ⟨e, hc⟩, q⟩ => ⟨hc, e ▸ q⟩, fun ⟨hc, q⟩ => ⟨a, ⟨rfl, hc⟩, q⟩⟩
@[simp] theorem ex_asc0 {α : Sort _} {a : α} {c : Prop} : (∃ z, z = a ∧ c) ↔ c := ⟨fun ⟨z, _, hc⟩ => hc, fun hc => ⟨a, rfl, hc⟩⟩
@[simp] theorem dMul_some {i j : Int} {z : D} : (dMulI (.int i) (.int j) = some z) = (z = .int (i * j) ∧ mulOk i j = true) := by
  unfold dMulI; by_cases h : mulOk i j = true <;> simp [h, eq_comm]
@[simp] theorem dDiv_some {i j : Int} {z : D} : (dDiv (.int i) (.int j) = some z) = (z = .int (i.fdiv j) ∧ divOk i j = true) := by
  unfold dDiv; by_cases h : divOk i j = true <;> simp [h, eq_comm]
@[simp] theorem dMod_some {i j : Int} {z : D} : (dMod (.int i) (.int j) = some z) = (z = .int (i.fmod j) ∧ j ≠ 0) := by
  unfold dMod modOk; by_cases h : j ≠ 0 <;> simp [h, eq_comm]
@[simp] theorem dPow_some {i j : Int} {z : D} : (dPow (.int i) (.int j) = some z) = (z = .int (i ^ j.toNat) ∧ powOk i j = true) := by
  unfold dPow; by_cases h : powOk i j = true <;> simp [h, eq_comm]
@[simp] theorem ex_addL {xs ys : List D} {Q : D → Prop} : (∃ z, dAdd (.lst xs) (.lst ys) = some z ∧ Q z) ↔ xs.length + ys.length ≤ 16777216 ∧ Q (.lst (xs ++ ys)) := by
  unfold dAdd lim2; by_cases h : xs.length + ys.length ≤ 16777216 <;> simp [h]
@[simp] theorem ex_addT {xs ys : List D} {Q : D → Prop} : (∃ z, dAdd (.tup xs) (.tup ys) = some z ∧ Q z) ↔ xs.length + ys.length ≤ 16777216 ∧ Q (.tup (xs ++ ys)) := by
  unfold dAdd lim2; by_cases h : xs.length + ys.length ≤ 16777216 <;> simp [h]
theorem rng_red {j : Int} {Q : List D → Prop} : (∃ z, (if -(2 ^ 62) ≤ j ∧ j < 2 ^ 62 then some (rngD 0 j.toNat) else none) = some z ∧ Q z) ↔ (-(2 ^ 62) ≤ j ∧ j < 2 ^ 62) ∧ Q (rngD 0 j.toNat) := by
  generalize (2 : Int) ^ 62 = P
  by_cases h : -P ≤ j ∧ j < P
  · rw [if_pos h]; exact ⟨fun ⟨z, e, q⟩ => ⟨h, by cases e; exact q⟩, fun q => ⟨_, rfl, q.2⟩⟩
  · rw [if_neg h]; exact ⟨fun ⟨z, e, q⟩ => (by cases e), fun q => absurd q.1 h⟩
@[simp] theorem ex_rng {j : Int} {Q : List D → Prop} : (∃ z, fRng1 [.int j] = some z ∧ Q z) ↔ (-4611686018427387904 ≤ j ∧ j < 4611686018427387904) ∧ Q (rngD 0 j.toNat) := rng_red
@[simp] theorem dNeg_int {i : Int} : dNeg (.int i) = some (.int (-i)) := rfl
theorem abs_if (i : Int) : (if i < 0 then -i else i) = (i.natAbs : Int) := by split <;> omega
@[simp] theorem fAbs_int {i : Int} : fAbs [.int i] = some (.int (i.natAbs : Int)) := by show some (D.int (if i < 0 then -i else i)) = _; rw [abs_if]
@[simp] theorem fLen_lst {xs : List D} : fLen [.lst xs] = some (.int (xs.length : Nat)) := rfl
@[simp] theorem fLen_tup {xs : List D} : fLen [.tup xs] = some (.int (xs.length : Nat)) := rfl
@[simp] theorem fLen_scr {xs : List Int} : fLen [.scr xs] = some (.int (xs.length : Nat)) := rfl
@[simp] theorem dIx_lst {xs : List D} {i : Int} : dIx (.lst xs) (.int i) = atI xs i := rfl
@[simp] theorem dIx_tup {xs : List D} {i : Int} : dIx (.tup xs) (.int i) = atI xs i := rfl
@[simp] theorem dIx_scr {xs : List Int} {i : Int} : dIx (.scr xs) (.int i) = (atI xs i).map .int := rfl
@[simp] theorem itD_lst {xs : List D} : itD (.lst xs) = some xs := rfl
@[simp] theorem itD_tup {xs : List D} : itD (.tup xs) = some xs := rfl
@[simp] theorem itD_scr {xs : List Int} : itD (.scr xs) = some (xs.map .int) := rfl
@[simp] theorem truth_bl {b : Bool} : truth (.bl b) = some b := rfl
@[simp] theorem truth_int {i : Int} : truth (.int i) = some (i != 0) := rfl
theorem eqD_int {i j : Int} : eqD (.int i) (.int j) = some (decide (i = j)) := by
  simp [eqD, py, SeqAt.shaped, PyData.canLay0, PyData.depth, PyData.eqv]
  rfl
@[simp] theorem dEq_int {i j : Int} : dEq (.int i) (.int j) = some (.bl (decide (i = j))) := by unfold dEq; rw [eqD_int]; rfl
@[simp] theorem dNe_int {i j : Int} : dNe (.int i) (.int j) = some (.bl (!decide (i = j))) := by unfold dNe; rw [eqD_int]; rfl
theorem eqD_pair {i j k l : Int} : eqD (.tup [.int i, .int j]) (.tup [.int k, .int l]) = some (decide (i = k) && decide (j = l)) := by
  simp [eqD, py, pys, SeqAt.shaped, PyData.canLay0, PyData.canLayAll0, PyData.depth, PyData.depthAll, PyData.eqv, PyData.eqvAll]
  rfl
@[simp] theorem dEq_pair {i j k l : Int} : dEq (.tup [.int i, .int j]) (.tup [.int k, .int l]) = some (.bl (decide (i = k) && decide (j = l))) := by unfold dEq; rw [eqD_pair]; rfl
@[simp] theorem dNe_pair {i j k l : Int} : dNe (.tup [.int i, .int j]) (.tup [.int k, .int l]) = some (.bl (!(decide (i = k) && decide (j = l)))) := by unfold dNe; rw [eqD_pair]; rfl
theorem eqD_bl {i j : Bool} : eqD (.bl i) (.bl j) = some (i == j) := by
  simp [eqD, py, SeqAt.shaped, PyData.canLay0, PyData.depth, PyData.eqv]
@[simp] theorem dEq_bl {i j : Bool} : dEq (.bl i) (.bl j) = some (.bl (i == j)) := by unfold dEq; rw [eqD_bl]; rfl
@[simp] theorem dNe_bl {i j : Bool} : dNe (.bl i) (.bl j) = some (.bl (!(i == j))) := by unfold dNe; rw [eqD_bl]; rfl
theorem small_mul {i j : Int} {a b : Nat} (h1 : i.natAbs < 2 ^ a) (h2 : j.natAbs < 2 ^ b) (ha : 0 < a) (hb : 0 < b) (h : a + b ≤ 1000000) : mulOk i j = true := by
  have x := PySem.Flt.log2_lt_of ha h1
  have y := PySem.Flt.log2_lt_of hb h2
  unfold mulOk
  exact decide_eq_true (by omega)
theorem small_div {i j : Int} {b : Nat} (h : j ≠ 0) (h2 : j.natAbs < 2 ^ b) (hb : 0 < b) (h9 : b ≤ 9000) : divOk i j = true := by
  have y := PySem.Flt.log2_lt_of hb h2
  unfold divOk
  exact decide_eq_true ⟨h, by omega⟩
end MM

namespace MM
open PySem PySem.Spec PyProof.Rows L2
section
variable {prog : Program} {w : World} {A : Around} {E : Value → Shared → Prop} {s : Shared}
end
def endV (xs : List V) (i n : Nat) : List V := (xs.drop i).drop (xs.length + 1 - n)
section
variable {X : Cx} {W : WX} {τ : Type} [Sto τ] {K : Fg}
theorem Reps.fin {F : Fp} {H : Hp} {xs : List V} {ds : List D} (r : Reps K F H xs ds) (i n : Nat) : Reps K F H (endV xs i n) ((ds.drop i).drop (ds.length + 1 - n)) := by
  unfold endV; rw [r.length]; exact (r.drop i).drop _
end
end MM

namespace MM
open PySem PySem.Spec PyProof.Rows L2 RZ
section
variable {X : Cx} {W : WX} {τ : Type} [Sto τ] {K : Fg}
def enumD (ds : List D) : List D := ds.mapIdx fun i d => .tup [.int (i : Nat), d]
def fEnum : List D → Option (List D)
  | [.lst ds] => some (enumD ds)
  | _ => none
theorem rIt_enum {I : Fp → Hp → Prop} {F0 F : Fp} {H H' : Hp} {a : Addr} {vs : List V} {ds : List D} (hl : LstF K F H' a vs) (r : Reps K F H' vs ds) : rIt K I F0 F H H' (Ite K a) (enumD ds) := by
  have w : Walk (Ite K a) (enumD ds).length (fun H => SqL K H a vs) (YPair (fun i => some (.int (i : Nat))) (fun i => vs[i]?)) := by
    rw [show (enumD ds).length = vs.length by unfold enumD; rw [List.length_mapIdx, r.length]]
    exact walk_enum
  refine ⟨_, _, w, fun H2 s => (hl.step ⟨s, fun _ z => .inl z⟩).sq, fun Fc i H2 x H3 hi s dm y => ?_⟩
  obtain ⟨T, x0, y0, rfl, nT, rfl, e1, e2⟩ := y
  cases e1
  obtain ⟨d, ed, q⟩ := (r.step s).getV e2
  exact ⟨same_upd nT, .tup [.int (i : Nat), d], by unfold enumD; rw [List.getElem?_mapIdx, ed]; rfl, Rep.newTup (.cons (.int _) (.cons q .nil)) dm nT⟩
theorem mi_enum {e : Expr} {p pos tpos : Pos} {elts : List Expr} {kk : Nat} {m : ME τ (List D)} (hg : Gl X "enumerate") (hm : X.mg "enumerate" = none) (ha : PA X [e] (tA X.K W m)) (hs : starEach [e] X.env = [(false, eval e X.env)] := by rfl) :
    PI X (.Tuple elts kk tpos) (.Call (.Name "enumerate" p) [e] [] pos) (tI X.K W (e1 fEnum m)) := PI.imp (pi_enum hg hm ha hs) fun σ H R ⟨C, ρ, t, A, p⟩ => by
  refine use okI A p fun d t1 v H1 e1 s1 A1 r1 p1 => ?_
  unfold fEnum at p1
  split at p1
  · cases r1 with
    | cons r1 r2 =>
      cases r2
      cases r1 with
      | lst hl rs => exact ⟨_, _, rfl, hl.sq, p1 _ H1 (Sm.refl _ _) A1.st (rIt_enum hl rs)⟩
  · exact p1.elim
def zipD (xs ys : List D) : List D := List.zipWith (fun x y => .tup [x, y]) xs ys
def fZip : List D → Option (List D)
  | [.lst xs, .lst ys] => some (zipD xs ys)
  | [.tup xs, .tup ys] => some (zipD xs ys)
  | _ => none
theorem zip_get {xs ys : List D} {i : Nat} {d e : D} (h1 : xs[i]? = some d) (h2 : ys[i]? = some e) : (zipD xs ys)[i]? = some (.tup [d, e]) := by
  unfold zipD
  rw [List.getElem?_zipWith, h1, h2]
theorem rIt_zip {I : Fp → Hp → Prop} {F0 F : Fp} {H H' : Hp} {a b : Addr} {vs ws : List V} {ds es : List D} (hl : LstF K F H' a vs) (r : Reps K F H' vs ds) (hl2 : LstF K F H' b ws) (r2 : Reps K F H' ws es) : rIt K I F0 F H H' (Itz K a b) (zipD ds es) := by
  have w : Walk (Itz K a b) (zipD ds es).length (fun H => SqL K H a vs ∧ SqL K H b ws) (YPair (fun i => vs[i]?) (fun i => ws[i]?)) := walk_zip (by unfold zipD; rw [List.length_zipWith, r.length, r2.length])
  refine ⟨_, _, w, fun H2 s => ⟨(hl.step ⟨s, fun _ z => .inl z⟩).sq, (hl2.step ⟨s, fun _ z => .inl z⟩).sq⟩, fun Fc i H2 x H3 hi s dm y => ?_⟩
  obtain ⟨T, x0, y0, rfl, nT, rfl, e1, e2⟩ := y
  obtain ⟨d, ed, q⟩ := (r.step s).getV e1
  obtain ⟨e, ee, q2⟩ := (r2.step s).getV e2
  exact ⟨same_upd nT, .tup [d, e], zip_get ed ee, Rep.newTup (.cons q (.cons q2 .nil)) dm nT⟩
theorem walk_zipT {xs ys : List V} {a b : Addr} {n : Nat} (hn : n = min xs.length ys.length) : Walk (ItzT K a b) n (fun H => SqT K H a xs ∧ SqT K H b ys) (YPair (fun i => xs[i]?) (fun i => ys[i]?)) := by
  subst hn
  refine ⟨fun i _ hi q => ?_, fun _ q => ⟨xs, ys, q.1, q.2, by omega⟩, fun i H v H' hi q y => ?_⟩
  · have h1 : i < xs.length := by omega
    have h2 : i < ys.length := by omega
    exact ⟨xs, ys, xs[i], ys[i], q.1, q.2, by simp [h1], by simp [h2]⟩
  · obtain ⟨T, x, z, h1, h2, h3, h4, h5⟩ := y
    exact ⟨T, x, z, h1, h2, h3, h4 xs q.1, h5 ys q.2⟩
theorem rIt_zipT {I : Fp → Hp → Prop} {F0 F : Fp} {H H' : Hp} {a b : Addr} {vs ws : List V} {ds es : List D} (hl : TupF K F H' a vs) (r : Reps K F H' vs ds) (hl2 : TupF K F H' b ws) (r2 : Reps K F H' ws es) : rIt K I F0 F H H' (ItzT K a b) (zipD ds es) := by
  have w : Walk (ItzT K a b) (zipD ds es).length (fun H => SqT K H a vs ∧ SqT K H b ws) (YPair (fun i => vs[i]?) (fun i => ws[i]?)) := walk_zipT (by unfold zipD; rw [List.length_zipWith, r.length, r2.length])
  refine ⟨_, _, w, fun H2 s => ⟨(hl.step ⟨s, fun _ z => .inl z⟩).sq, (hl2.step ⟨s, fun _ z => .inl z⟩).sq⟩, fun Fc i H2 x H3 hi s dm y => ?_⟩
  obtain ⟨T, x0, y0, rfl, nT, rfl, e1, e2⟩ := y
  obtain ⟨d, ed, q⟩ := (r.step s).getV e1
  obtain ⟨e, ee, q2⟩ := (r2.step s).getV e2
  exact ⟨same_upd nT, .tup [d, e], zip_get ed ee, Rep.newTup (.cons q (.cons q2 .nil)) dm nT⟩
theorem mi_zip {e e2 : Expr} {p pos tpos : Pos} {elts : List Expr} {kk : Nat} {m : ME τ (List D)} (hg : Gl X "zip") (hm : X.mg "zip" = none) (ha : PA X [e, e2] (tA X.K W m))
    (hs : starEach [e, e2] X.env = (false, eval e X.env) :: starEach [e2] X.env := by rfl) (hpl : (backTo pos (starEach [e2] X.env)).any (·.1) = false := by rfl) :
    PI X (.Tuple elts kk tpos) (.Call (.Name "zip" p) [e, e2] [] pos) (tI X.K W (MM.e1 fZip m)) := PI.imp (pi_zipA hg hm ha hs hpl) fun σ H R ⟨C, ρ, t, A, p⟩ => by
  refine use okI A p fun d t1 v H1 e1 s1 A1 r1 p1 => ?_
  unfold fZip at p1
  split at p1
  · cases r1 with
    | cons r1 r2 =>
      cases r2 with
      | cons r2 r3 =>
        cases r3
        cases r1 with
        | lst hl rs =>
          cases r2 with
          | lst hl2 rs2 => exact ⟨_, _, _, _, rfl, .inl ⟨hl.sq, hl2.sq, p1 _ H1 (Sm.refl _ _) A1.st (rIt_zip hl rs hl2 rs2)⟩⟩
  · cases r1 with
    | cons r1 r2 =>
      cases r2 with
      | cons r2 r3 =>
        cases r3
        cases r1 with
        | tup hl rs =>
          cases r2 with
          | tup hl2 rs2 => exact ⟨_, _, _, _, rfl, .inr ⟨hl.sq, hl2.sq, p1 _ H1 (Sm.refl _ _) A1.st (rIt_zipT hl rs hl2 rs2)⟩⟩
  · exact p1.elim
def blsD : List D → Option (List Bool)
  | [] => some []
  | .bl b :: r => (blsD r).map (b :: ·)
  | _ => none
theorem blsD_ok {F : Fp} {H : Hp} : ∀ {vs : List V} {ds : List D} {bs : List Bool}, Reps K F H vs ds → blsD ds = some bs → vs = bs.map V.bl
  | _, _, _, .nil, e => by cases e; rfl
  | _, _, bs, .cons (v := v) (vs := vs) (d := d) (ds := ds) r t, e => by
    cases d <;> first
      | (cases e; done)
      | skip
    rename_i b
    have e' : (blsD ds).map (b :: ·) = some bs := e
    cases q : blsD ds with
    | none => rw [q] at e'; cases e'
    | some l =>
      rw [q] at e'
      cases e'
      cases r
      rw [blsD_ok t q]
      rfl
def fAll : List D → Option D
  | [.lst ds] => (blsD ds).map fun bs => .bl (bs.all id)
  | _ => none
theorem c_all : DCall K (rAll K) fAll := fun F0 F H xs ds z Q dm r q k => by
  unfold fAll at q
  split at q
  · obtain ⟨v, rfl, r0⟩ := r.one
    obtain ⟨a, vs, rfl, h1, rs⟩ := r0.lstOf
    rename_i ds
    cases e : blsD ds with
    | none => rw [e] at q; cases q
    | some bs =>
      rw [e] at q; cases q
      have ev := blsD_ok rs e
      subst ev
      exact ⟨a, bs, rfl, h1.sq, k _ _ (Same.refl H) (.bl _)⟩
  · cases q
end
@[simp] theorem fEnum_lst {ds : List D} : fEnum [.lst ds] = some (enumD ds) := rfl
@[simp] theorem fZip_lst {xs ys : List D} : fZip [.lst xs, .lst ys] = some (zipD xs ys) := rfl
@[simp] theorem fZip_tup {xs ys : List D} : fZip [.tup xs, .tup ys] = some (zipD xs ys) := rfl
@[simp] theorem fAll_lst {ds : List D} : fAll [.lst ds] = (blsD ds).map fun bs => .bl (bs.all id) := rfl
@[simp] theorem blsD_nil : blsD [] = some [] := rfl
@[simp] theorem blsD_cons {b : Bool} {r : List D} : blsD (.bl b :: r) = (blsD r).map (b :: ·) := rfl
end MM

namespace MM
open PySem PySem.Spec PyProof.Rows L2
section
variable {K : Fg} {F F2 : Fp} {H : Hp}
def looseB : HO → Bool
  | .lst _ => true
  | .dK _ => true
  | .dT _ => true
  | .ext _ => true
  | _ => false
theorem OwnR.loose {K : Fg} {F : Fp} {H : Hp} {a : Addr} {u : HO} {x : Slot} (r : OwnR K F H a u x) : looseB u = true := by
  cases r with
  | lst _ => rfl
  | dct r => cases r <;> rfl
end
section
variable {X : Cx} {W : WX} {τ : Type} [Sto τ] {K : Fg}
end
section
variable {τ : Type} {ρ : Rho} {t : τ} {X : Str → Fds → τ → Prop}
end
end MM

namespace MM
open PySem PySem.Spec PyProof.Rows L2
section
variable {X : Cx} {W : WX} {τ : Type} [Sto τ] {K : Fg}
theorem PK.imp {e : List Keyword} {t t' : TA} (h : PK X e t) (i : ∀ σ H Q, t' σ H Q → t σ H Q) : PK X e t' := ⟨fun pos pins s σ H Q I q => h.run pos pins s σ H Q I (i σ H Q q)⟩
theorem mk_nil : PK X [] (tA X.K W (aNil (τ := τ))) := PK.imp pk_nil fun σ H Q ⟨C, ρ, t, A, p⟩ => p _ H (Sm.refl _ _) A.st .nil
theorem mk_cons {nm : Option Str} {e : Expr} {kpos : Pos} {kws : List Keyword} {a : ME τ D} {b : ME τ (List D)} (h : PE X e (tE X.K W a)) (hs : PK X kws (tA X.K W b)) : PK X (⟨nm, e, kpos⟩ :: kws) (tA X.K W (aCons a b)) :=
  PK.imp (pk_cons h hs) fun σ H Q ⟨C, ρ, t, A, p⟩ => by
    refine use okA A p fun d t1 v H1 e1 s1 A1 r1 p1 => ?_
    refine use okA A1 p1 fun d2 t2 v2 H2 e2 s2 A2 r2 p2 => ?_
    exact p2 _ H2 (Sm.refl _ _) A2.st (.cons (r1.same (s2.mono fun _ => Fo.base)) r2)
end
section
variable {τ : Type} {ρ : Rho} {t : τ} {Q : List D → τ → Prop} {X : Str → Fds → τ → Prop} {g : Tgt} {tt : ME τ Bool} {te : ME τ D}
def Slot.nown : Slot → Bool
  | .own _ => false
  | .dct .. => false
  | _ => true
@[simp] theorem nown_no : Slot.nown .no = true := rfl
@[simp] theorem nown_val {d : D} : Slot.nown (.val d) = true := rfl
@[simp] theorem wipeR_nil : wipeR ρ [] = ρ := rfl
@[simp] theorem wipeR_cons {u : Nat} {us : List Nat} : wipeR ρ (u :: us) = (wipeR ρ us).set u .no := rfl
@[simp] theorem noOwn_nil : noOwn ρ [] = true := rfl
@[simp] theorem noOwn_cons {u : Nat} {us : List Nat} : noOwn ρ (u :: us) = ((match ρ[u]? with | some s => s.nown | none => true) && noOwn ρ us) := by
  unfold noOwn
  rw [List.all_cons]
  congr 1
  cases ρ[u]? with
  | none => rfl
  | some s => cases s <;> rfl
@[simp] theorem oE_noEx {α : Type} {r : Res τ α} {Q : α → τ → Prop} : oE (noEx r) Q X = oE r Q (fun _ _ _ => False) := by cases r <;> rfl
@[simp] theorem oE_comp {mi : ME τ (List D)} {vs : List Nat} : oE (eComp mi vs g tt te ρ t) Q X = oE (mi ρ t) (fun ds t => (ds.length ≤ 16777216 ∧ noOwn ρ vs = true) ∧ oE (compL g tt te (wipeR ρ vs) ds t) Q X) X := by
  unfold eComp; rw [oE_bind]; congr; funext ds t
  by_cases h : ds.length ≤ 16777216 ∧ noOwn ρ vs = true
  · rw [if_pos h]; simp only [h, and_self, true_and]
  · rw [if_neg h]; simp only [oE_bad, h, false_and]
theorem oE_compNil : oE (compL g tt te ρ [] t) Q X = Q [] t := rfl
theorem oE_compCons {d : D} {ds : List D} : oE (compL g tt te ρ (d :: ds) t) Q X = ∃ ρ1, g ρ d = some ρ1 ∧ oE (tt ρ1 t) (fun b t => (b = true → oE (te ρ1 t) (fun y t => oE (compL g tt te ρ ds t) (fun ys t => Q (y :: ys) t) X) (fun _ _ _ => False)) ∧ (¬ b = true → oE (compL g tt te ρ ds t) Q X)) (fun _ _ _ => False) := by
  rw [show compL g tt te ρ (d :: ds) t = (match g ρ d with
    | some ρ1 => (noEx (tt ρ1 t)).bind fun b t => if b = true then (noEx (te ρ1 t)).bind fun y t => (compL g tt te ρ ds t).bind fun ys t => .ok (y :: ys) t else compL g tt te ρ ds t
    | none => .bad) from rfl]
  cases e : g ρ d with
  | none => simp
  | some ρ1 =>
    simp only [Option.some.injEq, exists_eq_left']
    cases tt ρ1 t with
    | ok b t1 =>
      simp only [noEx, Res.bind_ok, oE_ite, oE_ok]
      cases te ρ1 t1 with
      | ok y t2 => simp
      | ex n fs t2 => simp
      | bad => simp
    | ex n fs t1 => rfl
    | bad => rfl
@[simp] theorem fLst_lst {ds : List D} : fLst [.lst ds] = some ds := rfl
@[simp] theorem fLst_tup {ds : List D} : fLst [.tup ds] = some ds := rfl
@[simp] theorem fTup_lst {ds : List D} : fTup [.lst ds] = some (.tup ds) := rfl
@[simp] theorem fTup_tup {ds : List D} : fTup [.tup ds] = some (.tup ds) := rfl
end
section
variable {τ : Type} {P : Pt τ} {ρ : Rho} {t : τ}
@[simp] theorem oS_setI {i : Nat} {me mi : ME τ D} : oS (sSetI i me mi ρ t) P = (match ρ[i]? with | some (.own xs) => oE (me ρ t) (fun d t => oE (mi ρ t) (fun k t => ∃ j, k = .int j ∧ ∃ n, ixN xs.length j = some n ∧ P.nx (ρ.set i (.own (xs.set n d))) t) (fun n fs t => P.ex n fs ρ t)) (fun n fs t => P.ex n fs ρ t) | _ => False) := by
  have key : ∀ o : Option Slot, oS ((match o with
      | some (.own xs) => sDo me (fun d ρ t => sDo mi (fun k ρ t => match k with
        | .int k => match ixN xs.length k with
          | some j => .nx (ρ.set i (.own (xs.set j d))) t
          | none => .bad
        | _ => .bad) ρ t) ρ t
      | _ => .bad) : Fl τ) P = (match o with | some (.own xs) => oE (me ρ t) (fun d t => oE (mi ρ t) (fun k t => ∃ j, k = .int j ∧ ∃ n, ixN xs.length j = some n ∧ P.nx (ρ.set i (.own (xs.set n d))) t) (fun n fs t => P.ex n fs ρ t)) (fun n fs t => P.ex n fs ρ t) | _ => False) := fun o => by
    cases o with
    | none => rfl
    | some s =>
      cases s with
      | no => rfl
      | val d => rfl
      | dct _ _ => rfl
      | own xs =>
        dsimp only
        rw [oS_do]
        congr; funext d t
        rw [oS_do]
        congr; funext k t
        cases k <;> try (simp only [oS_bad, reduceCtorEq, false_and, exists_false])
        rename_i j
        cases e : ixN xs.length j <;> simp [e]
  exact key (ρ[i]?)
end
section
variable {τ : Type} {ρ : Rho} {t : τ} {X : Str → Fds → τ → Prop}
end
end MM

namespace MM
open PySem PySem.Spec PyProof.Rows L2 RZ
open PySem.Builtin (SmallTypes.nextOrEnd)
def SIt (kd : Bool) (h : Heap) (i l : Addr) (k : Nat) : Prop := match kd with
  | true => h.IsTupleIter i l k
  | false => h.IsListIter i l k
def SSq (kd : Bool) (h : Heap) (l : Addr) (xs : Array Value) : Prop := match kd with
  | true => h.IsTuple l xs
  | false => h.IsList l xs
section
variable {prog : Program} {w : World} {A : Around} {E : Value → Shared → Prop} {s : Shared} {kd : Bool} {h h' : Heap} {i l : Addr} {k : Nat} {xs : Array Value}
theorem SIt.at (x : SIt kd h i l k) (e : ∀ o, h.get? i = some o → h'.get? i = some o) : SIt kd h' i l k := by
  cases kd with
  | true => obtain ⟨o, h1, h2⟩ := x; exact ⟨o, e o h1, h2⟩
  | false => obtain ⟨o, h1, h2⟩ := x; exact ⟨o, e o h1, h2⟩
theorem SSq.at (x : SSq kd h l xs) (e : ∀ o, h.get? l = some o → h'.get? l = some o) : SSq kd h' l xs := by
  cases kd with
  | true => obtain ⟨o, h1, h2⟩ := x; exact ⟨o, e o h1, h2⟩
  | false => obtain ⟨o, h1, h2⟩ := x; exact ⟨o, e o h1, h2⟩
theorem SIt.ex (x : SIt kd h i l k) : ∃ o, h.get? i = some o ∧ ∀ v, o.data ≠ .cell v := by
  cases kd with
  | true => obtain ⟨o, h1, h2, h3⟩ := x; exact ⟨o, h1, fun v q => by rw [h3] at q; cases q⟩
  | false => obtain ⟨o, h1, h2, h3⟩ := x; exact ⟨o, h1, fun v q => by rw [h3] at q; cases q⟩
theorem SSq.push {kd : Bool} {h : Heap} {l : Addr} {xs : Array Value} (o : Obj) (x : SSq kd h l xs) : SSq kd (h.push o) l xs := x.at fun _ e => Heap.get?_push_of_some _ e
end
def SqX (kd : Bool) (K : Fg) (H : Hp) (a : Addr) (xs : List V) : Prop := match kd with
  | true => SqT K H a xs
  | false => SqL K H a xs
theorem SqX.sq {kd : Bool} {X : Cx} {pins : List (Addr × Obj)} {σ : L2.St} {H : Hp} {s : Shared} {a : Addr} {xs : List V} (h : SqX kd X.K H a xs) (I : Inv X pins σ H s) : ∃ its : List Value, Vals xs its ∧ SSq kd s.heap a its.toArray ∧ a < s.heap.objs.size := by
  cases kd with
  | true =>
    obtain ⟨its, rv, p, _⟩ := I.tuple h
    obtain ⟨o, ho, _⟩ := id p
    exact ⟨its, rv, p, Heap.lt_size ho⟩
  | false =>
    obtain ⟨its, rv, p, _⟩ := I.list h
    exact ⟨its, rv, p.isList, p.lt⟩
theorem SqX.inj {kd : Bool} {X : Cx} {pins : List (Addr × Obj)} {σ : L2.St} {H : Hp} {s : Shared} {a : Addr} {xs ys : List V} (I : Inv X pins σ H s) (h : SqX kd X.K H a xs) (h2 : SqX kd X.K H a ys) : xs = ys := by
  cases kd with
  | true => exact I.tuple_inj h h2
  | false => exact I.list_inj h h2
section
variable {X : Cx} {W : WX} {τ : Type} [Sto τ] {K : Fg}
end
end MM

namespace MM
open PySem PySem.Spec PyProof.Rows L2
section
variable {X : Cx} {W : WX} {τ : Type} [Sto τ] {K : Fg}
theorem zip_fst {α β : Type} : ∀ {a : List α} {b : List β}, b.length = a.length → (a.zip b).map (·.1) = a
  | [], _, _ => rfl
  | x :: a, [], h => by cases h
  | x :: a, y :: b, h => by simp [zip_fst (a := a) (b := b) (by simpa using h)]
theorem zip_snd {α β : Type} : ∀ {a : List α} {b : List β}, b.length = a.length → (a.zip b).map (·.2) = b
  | [], [], _ => rfl
  | [], _ :: _, h => by cases h
  | x :: a, [], h => by cases h
  | x :: a, y :: b, h => by simp [zip_snd (a := a) (b := b) (by simpa using h)]
def dRev : D → Option (List D)
  | .lst ds => some ds.reverse
  | _ => none
theorem Reps.rev {F : Fp} {H : Hp} : ∀ {vs : List V} {ds : List D}, Reps K F H vs ds → Reps K F H vs.reverse ds.reverse
  | _, _, .nil => .nil
  | _, _, .cons r t => by rw [List.reverse_cons, List.reverse_cons]; exact (Reps.rev t).snoc r
theorem mf_rev {e : Expr} {k : Nat} {p1 p2 p3 pos : Pos} {m : ME τ D} (h : PE X e (tW X.K W m)) : PE X (.Subscript e (.Slice none none (some (.UnaryOp .USub (.Constant (.int 1) k p1) p2)) p3) pos) (tF X.K W (MM.e1 dRev m)) := PE.imp (pe_revL h) fun σ H Q ⟨C, ρ, t, A, p⟩ => by
  refine use okF A p fun d t1 v H1 e1 s1 A1 r1 p1 => ?_
  unfold dRev at p1
  split at p1
  · obtain ⟨a, vs, rfl, hl, rs⟩ := r1.lstOf
    exact ⟨a, vs, rfl, hl.sq, new_fin A1 rs.rev p1⟩
  · exact p1.elim
def strsD : List D → Option (List Str)
  | [] => some []
  | .str x :: r => (strsD r).map (x :: ·)
  | _ => none
theorem strsD_ok {F : Fp} {H : Hp} : ∀ {vs : List V} {ds : List D} {ys : List Str}, Reps K F H vs ds → strsD ds = some ys → vs = ys.map V.str
  | _, _, _, .nil, e => by cases e; rfl
  | _, _, _, .cons (d := d) r t, e => by
    cases d <;> try (simp [strsD] at e; done)
    rename_i x
    simp only [strsD] at e
    cases e2 : strsD _ with
    | none => rw [e2] at e; cases e
    | some zs =>
      rw [e2] at e
      cases e
      cases r
      rw [strsD_ok t e2]; rfl
def joinOk (a : Str) (ys : List Str) : Bool := decide ((ys.map (·.length)).sum + ys.length * a.length ≤ 16777216)
def dJoin (a : Str) : D → Option D := fun e => match e with
  | .lst ds => (strsD ds).bind fun ys => if joinOk a ys = true then some (.str (Txt.join a ys)) else none
  | .tup ds => (strsD ds).bind fun ys => if joinOk a ys = true then some (.str (Txt.join a ys)) else none
  | _ => none
theorem me_join {e : Expr} {a : Str} {k : Nat} {opos apos pos : Pos} {me : ME τ D} (he : PE X e (tW X.K W me)) (hs : starEach [e] X.env = [(false, eval e X.env)] := by rfl) (hbase : attributeBase (.Constant (.str a) k opos) "join" X.env (eval (.Constant (.str a) k opos) X.env) = eval (.Constant (.str a) k opos) X.env := by rfl) (hline : (apos.endLine == pos.line) = true := by rfl) :
    PE X (.Call (.Attribute (.Constant (.str a) k opos) "join" apos) [e] [] pos) (tE X.K W (MM.e1 (dJoin a) me)) := PE.imp (pe_join pe_str he hs hbase hline) fun σ H Q ⟨C, ρ, t, A, p⟩ => by
  refine ⟨⟨a, rfl⟩, ?_⟩
  refine use okE A p fun d2 t2 v2 H2 e2 s2 A2 r2 p2 => ?_
  have fin : ∀ (p : Addr) (vs : List V) (ds : List D), v2 = .ref p → (SqL X.K H2 p vs ∨ SqT X.K H2 p vs) → Reps X.K (Fo C.F ρ σ) H2 vs ds → Post rE X.K W C (Fo C.F ρ σ) σ H2 (opt ((strsD ds).bind fun ys => if joinOk a ys = true then some (.str (Txt.join a ys)) else none) t2) Q →
      ∃ (a' : Str) (p : Addr) (ys : List Str), V.str a = .str a' ∧ [v2] = [.ref p] ∧ (SqL X.K H2 p (ys.map V.str) ∨ SqT X.K H2 p (ys.map V.str)) ∧ (ys.map (·.length)).sum + ys.length * a'.length ≤ 16777216 ∧ Q (.str (Txt.join a' ys)) H2 := fun p vs ds ev hq rs p2 => by
    cases e3 : strsD ds with
    | none => rw [e3] at p2; exact p2.elim
    | some ys =>
      rw [e3, Option.bind_some] at p2
      split at p2
      · rename_i hj
        have := strsD_ok rs e3
        subst this
        exact ⟨a, p, ys, rfl, by rw [ev], hq, of_decide_eq_true hj, p2 _ H2 (Sm.refl _ _) A2.st (.str _)⟩
      · exact p2.elim
  cases d2 with
  | lst ds =>
    obtain ⟨p, vs, rfl, hl, rs⟩ := r2.lstOf
    exact fin p vs _ rfl (.inl hl.sq) rs p2
  | tup ds =>
    obtain ⟨p, vs, rfl, hl, rs⟩ := r2.tupOf
    exact fin p vs _ rfl (.inr hl.sq) rs p2
  | _ => exact p2.elim
end
@[simp] theorem dRev_lst {ds : List D} : dRev (.lst ds) = some ds.reverse := rfl
end MM

namespace PySem.W
open PySem PySem.Calls PyProof.Rows
section
variable {prog : Program} {w : World} {A : Around} {E : Value → Shared → Prop} {s : Shared}
def cmpAll : List PyData → List PyData → Bool
  | x :: xs, y :: ys => alike x y && (if PyData.eqv x y = true then cmpAll xs ys else true)
  | [], _ => true
  | _ :: _, [] => true
theorem katLex_cmp {b fin : Bool} {Q : Bool → Shared → Prop} : ∀ (xs ys : List PyData) (i : Nat) (vs ws : List Value) (as bs : List Addr), ReadsAll s.heap vs xs as → ReadsAll s.heap ws ys bs → cmpAll xs ys = true → A.units + min (PyData.depthAll xs) (PyData.depthAll ys) < cLine →
    (b = true → i = 0 → ∀ x r t, xs = x :: r → x ≠ .tuple t) → fin = decide (xs.length < ys.length) → Q (PyProof.Rows.lexLt itemOrd (keyToksAll xs) (keyToksAll ys)) s → KatLex prog w A b fin Q (vs.zip ws) i s
  | [], ys, i, _, _, _, _, ra, rb, _, hu, hb, hf, hq => katLex_alike [] ys i _ _ _ _ ra rb rfl hu hb hf hq
  | x :: xs, [], i, _, _, _, _, ra, rb, _, hu, hb, hf, hq => katLex_alike (x :: xs) [] i _ _ _ _ ra rb rfl hu hb hf hq
  | x :: xs, y :: ys, i, _, _, _, _, .cons r rs, .cons r' rs', h, hu, hb, hf, hq => by
    obtain ⟨h1, h2⟩ := Bool.and_eq_true_iff.mp h
    have hf' : fin = decide (xs.length < ys.length) := by rw [hf]; simp only [List.length_cons, Nat.add_lt_add_iff_right]
    rw [List.zip_cons_cons]
    refine kat_cons (eqAt_alike x y A s _ _ _ _ r r' h1 (SeqAt.room_head hu) prog w _ _ ?_)
    cases hx : PyData.eqv x y with
    | true =>
      rw [dataLt_all_yes h1 hx] at hq
      rw [hx, if_pos rfl] at h2
      exact kat_yes (katLex_cmp xs ys (i + 1) _ _ _ _ rs rs' h2 (SeqAt.room_tail hu) (fun _ hi => absurd hi (Nat.succ_ne_zero i)) hf' hq)
    | false =>
      rw [dataLt_all_no h1 hx] at hq
      refine kat_no (oneLt_alike (fun hbi t => ?_) r r' h1 (ne_none_of h1 hx) (SeqAt.room_head hu) hq)
      rw [Bool.and_eq_true] at hbi; exact hb hbi.1 (by simpa using hbi.2) x xs t rfl
structure RowsOk (ds : List PyData) : Prop where
  row : ∀ d ∈ ds, d.canLay0 = true ∧ ∃ x r, d = .tuple (x :: r)
  two : ∀ xs ys, .tuple xs ∈ ds → .tuple ys ∈ ds → cmpAll xs ys = true
theorem rowKind_some {h : Heap} {ds : List PyData} (hr : RowsOk ds) {v : Value} {d : PyData} {as : List Addr} (hd : d ∈ ds) (r : Reads h v d as) : (dataKind h ds).keyOf v = some (keyToks d) := by
  have q : ∃ d, d ∈ ds ∧ ∃ as, Reads h v d as := ⟨d, hd, as, r⟩
  have e : (dataKind h ds).keyOf v = some (keyToks q.choose) := by
    show (open Classical in if q : ∃ d, d ∈ ds ∧ ∃ as, Reads h v d as then some (keyToks q.choose) else none) = _; rw [dif_pos q]
  obtain ⟨h1, as', h2⟩ := q.choose_spec
  rw [e, SeqAt.Reads.unique _ _ _ _ _ (hr.row _ hd).1 r h2]
theorem each_keysR {h : Heap} {ds : List PyData} (hr : RowsOk ds) : ∀ {vs : List Value} {es : List PyData}, (∀ d ∈ es, d ∈ ds) → EachIs (fun v d => ∃ as, Reads h v d as) vs es → EachIs (fun v d => (dataKind h ds).keyOf v = some (keyToks d)) vs es
  | _, _, _, .nil => .nil
  | _, _, hm, .cons ⟨as, r⟩ t => .cons (rowKind_some hr (hm _ List.mem_cons_self) r) (each_keysR hr (fun d hd => hm d (List.mem_cons_of_mem _ hd)) t)
theorem sorts_rows {vs : List Value} {ds : List PyData} (e : EachIs (fun v d => ∃ as, Reads s.heap v d as) vs ds) (hr : RowsOk ds) (hu : ∀ d, d ∈ ds → A.units + d.depth < cLine) : SortsAt prog w A s (dataKind s.heap ds) vs := by
  refine ⟨fun v hv => ?_, ?_⟩
  · obtain ⟨d, hd, as, r⟩ := e.left v hv
    exact ⟨_, rowKind_some hr hd r⟩
  · cases ds with
    | nil =>
      cases e
      exact ⟨general', fun E x y a b Q ha _ _ => (by obtain ⟨d, _, hd, _⟩ := dataKind_inv ha; exact absurd hd (by simp)), fun h2 => absurd h2 (by simp)⟩
    | cons d₀ ds₀ =>
      obtain ⟨x₀, r₀, e₀⟩ := (hr.row d₀ (List.mem_cons_self ..)).2
      have hfirst : ∀ x r, PyData.tuple (x :: r) ∈ d₀ :: ds₀ → alike x x₀ = true := fun x r hm => by
        have q := hr.two (x :: r) (x₀ :: r₀) hm (by rw [← e₀]; exact List.mem_cons_self)
        exact (Bool.and_eq_true_iff.mp q).1
      refine ⟨tuples' (dataType x₀ != Value.type "tuple"), fun E x y a b Q ha hb hq => ?_, fun h2 E Q hq => ?_⟩
      · obtain ⟨d, as, hd, ra, rfl⟩ := dataKind_inv ha
        obtain ⟨d', as', hd', rb, rfl⟩ := dataKind_inv hb
        have hroom : A.units + min d.depth d'.depth < cLine := Nat.lt_of_le_of_lt (Nat.add_le_add_left (Nat.min_le_left _ _) _) (hu d hd)
        obtain ⟨x1, r1, rfl⟩ := (hr.row d hd).2
        obtain ⟨x2, r2, rfl⟩ := (hr.row d' hd').2
        have hq' : Q (dataLt (.tuple (x1 :: r1)) (.tuple (x2 :: r2))) s := hq
        rw [dataLt_tuple] at hq'
        have two := hr.two _ _ hd hd'
        cases ra with
        | @tuple l o xs n _ _ h1 h2 h3 h4 =>
          cases rb with
          | @tuple l' o' xs' n' _ _ k1 k2 k3 k4 =>
            have n1 : xs.size = (x1 :: r1).length := by simpa using SeqAt.ReadsAll.length _ _ _ h4
            have n2 : xs'.size = (x2 :: r2).length := by simpa using SeqAt.ReadsAll.length _ _ _ k4
            refine kat_lt h1 h3 k1 k3 (katLex_cmp (x1 :: r1) (x2 :: r2) 0 _ _ _ _ h4 k4 two (by have q := SeqAt.room_in hroom; omega) (fun hb _ x r t ex => ?_) (by rw [n1, n2]) hq')
            obtain ⟨rfl, rfl⟩ := List.cons.inj ex
            have q := dataType_alike (hfirst _ _ hd)
            rw [← q] at hb; exact dataType_tuple hb t
      · obtain ⟨fs, t1, t2, t3⟩ := each_katTups e fun d hd => (hr.row d hd).2
        refine kat_kind (T := dataType x₀) t1 (by omega) (fun f hf => ?_) (beq_self_eq_true _) hq
        obtain ⟨x, r, as, m1, m2⟩ := t3 f hf
        rw [← dataType_alike (hfirst x r m1)]; exact looks_reads m2
def SortOk (ds : List PyData) : Prop := (AllAlike ds ∧ Sortable ds) ∨ RowsOk ds
theorem sorted_dataR {β : Type} {R : Value → β → Prop} {enc : β → PyData} {vs : List Value} {bs : List β} {l : Addr} {Q : Value → Shared → Prop} (hl : s.heap.IsList l vs.toArray) (e : EachIs R vs bs) (er : EachIs (fun v b => ∃ as, Reads s.heap v (enc b) as) vs bs) (hk : SortOk (bs.map enc)) (hL : bs.length ≤ sizeLine)
    (hu : ∀ b, b ∈ bs → A.units + 2 + (enc b).depth < cLine) (h : ∀ out, out.length = bs.length → EachIs R out (bs.mergeSort (dataLe false enc)) → Q (.ref (s.heap.objs.size + 1)) { s with heap := sortedAll s.heap vs (List.toArray out) }) :
    wpAny (model prog w) A (call (.builtin "sorted") [.ref l]) Q E s := by
  rcases hk with ⟨hal, hk⟩ | hr
  · exact sorted_data hl e er hal hk hL hu h
  · have er' : EachIs (fun v b => ∃ as, Reads (sortingHeap (copyHeap s.heap vs) (s.heap.objs.size + 1) vs) v (enc b) as) vs bs := er.mono fun _ _ ⟨as, r⟩ => ⟨as, PyProof.Rows.Reads.keeps (fun _ _ => sorting_copy_old) r⟩
    have em := each_map (R := fun v d => ∃ as, Reads (sortingHeap (copyHeap s.heap vs) (s.heap.objs.size + 1) vs) v d as) enc er'
    exact sorted_vals hl (sorts_rows (s := { s with heap := sortingHeap (copyHeap s.heap vs) (s.heap.objs.size + 1) vs }) em hr (bound_map hu)) (by rw [e.length]; exact hL)
      (h _ (by rw [sortVals_length false rfl]; exact e.length) (sortVals_each (κ := dataKind (sortingHeap (copyHeap s.heap vs) (s.heap.objs.size + 1) vs) (bs.map enc)) (fun b => keyToks (enc b)) e (each_of_map enc (each_keysR hr (fun _ hd => hd) em))))
end
end PySem.W
namespace MM
open PySem PySem.Spec PyProof.Rows L2
section
variable {X : Cx} {W : WX} {τ : Type} [Sto τ] {K : Fg}
def sortV {α : Type} (xs : List α) (ps : List PyData) : List α := ((xs.zip ps).mergeSort (PySem.W.dataLe false fun b => b.2)).map (·.1)
structure SrtC (ps : List PyData) : Prop where
  ok : PySem.W.SortOk ps
  dep : ∀ p ∈ ps, p.depth ≤ 50
def rSortD (K : Fg) : List V → Hp → VK → Prop := fun vs H Q => ∃ (a : Addr) (xs : List V) (ps : List PyData), vs = [V.ref a] ∧ SqL K H a xs ∧ DpAll K H xs ps ∧ SrtC ps ∧ ∀ p, H p = none → Q (.ref p) (upd H p (.lst (sortV xs ps)))
theorem each_of_vals {β : Type} {f : β → V} : ∀ {bs : List β} {us : List Value}, Vals (bs.map f) us → PySem.W.EachIs (fun u b => RelV (f b) u) us bs
  | [], _, .nil => .nil
  | _ :: _, _, .cons r t => .cons r (each_of_vals t)
theorem vals_of_each {β : Type} {f : β → V} : ∀ {bs : List β} {us : List Value}, PySem.W.EachIs (fun u b => RelV (f b) u) us bs → Vals (bs.map f) us
  | _, _, .nil => .nil
  | _, _, .cons r t => .cons r (vals_of_each t)
theorem each_reads {h : Heap} {β : Type} {enc : β → PyData} : ∀ {bs : List β} {us : List Value} {as : List Addr}, ReadsAll h us (bs.map enc) as → PySem.W.EachIs (fun u b => ∃ as, Reads h u (enc b) as) us bs
  | [], _, _, .nil => .nil
  | _ :: _, _, _, .cons r t => .cons ⟨_, r⟩ (each_reads t)
theorem dps_len {H : Hp} : ∀ {xs : List V} {ps : List PyData}, DpAll K H xs ps → xs.length = ps.length
  | _, _, .nil => rfl
  | _, _, .cons _ t => congrArg (· + 1) (dps_len t)
theorem cr_sortD (hu : X.A.units + 64 < cLine) : CallR X (.builtin "sorted") (rSortD X.K) := by
  intro pins s σ H vs us Q I r h
  obtain ⟨a, xs, ps, rfl, hs, hd, hc, q⟩ := h
  obtain rfl := Vals.ref1 r
  obtain ⟨its, rv, hl, hz⟩ := I.list hs
  obtain ⟨as, ra⟩ := Dp.readsAll I ps xs its hd rv
  have len := dps_len hd
  have f1 : (xs.zip ps).map (·.1) = xs := zip_fst len.symm
  have f2 : (xs.zip ps).map (·.2) = ps := zip_snd len.symm
  have ll : (xs.zip ps).length = xs.length := by rw [List.length_zip]; omega
  refine PySem.W.sorted_dataR (R := fun u b => RelV b.1 u) (enc := fun b => b.2) (bs := xs.zip ps) hl.isList (each_of_vals (by rw [f1]; exact rv)) (each_reads (enc := fun b : V × PyData => b.2) (as := as) (by rw [f2]; exact ra)) (by rw [f2]; exact hc.ok) (by omega) (fun b hb => ?_) fun out h1 h2 => ?_
  · have := hc.dep b.2 (by rw [← f2]; exact List.mem_map_of_mem hb); omega
  · obtain ⟨ep, he'⟩ := PyProof.Rows.sortedAll_at s.heap its out.toArray
    have hlen : (sortV xs ps).length ≤ sizeLine := by unfold sortV; rw [List.length_map, (List.mergeSort_perm _ _).length_eq, ll]; exact hz
    exact ⟨.ref _, upd H (s.heap.objs.size + 1) (.lst (sortV xs ps)), I.laid (t' := s.toks) (fun _ _ => PyProof.Rows.sortedAll_old) (Nat.le_succ _) ⟨hlen, _, ep, vals_of_each h2, he'⟩, rfl, q _ (I.hok.fresh (Nat.le_succ _))⟩
open Classical in
noncomputable def fSortD : List D → Option (List D)
  | [.lst ds] => (pys ds).bind fun ps => if SrtC ps then some (sortV ds ps) else none
  | _ => none
theorem reps_zip {F : Fp} {H : Hp} : ∀ {vs : List V} {ds : List D}, Reps K F H vs ds → ∀ p ∈ vs.zip ds, Rep K F H p.1 p.2
  | _, _, .nil, p, hp => by cases hp
  | _, _, .cons r t, p, hp => by
    rcases List.mem_cons.mp hp with rfl | h
    · exact r
    · exact reps_zip t p h
theorem reps_map {F : Fp} {H : Hp} {β : Type} {f : β → V} {g : β → D} : ∀ {bs : List β}, (∀ b ∈ bs, Rep K F H (f b) (g b)) → Reps K F H (bs.map f) (bs.map g)
  | [], _ => .nil
  | b :: bs, h => .cons (h b List.mem_cons_self) (reps_map fun c hc => h c (List.mem_cons_of_mem _ hc))
theorem zip_map_zip {α β γ : Type} (ps : List γ) : ∀ (xs : List α) (ys : List β), xs.length = ys.length → xs.length = ps.length → xs.zip ps = ((xs.zip ys).zip ps).map (fun z => (z.1.1, z.2)) ∧ ys.zip ps = ((xs.zip ys).zip ps).map (fun z => (z.1.2, z.2)) := by
  induction ps with
  | nil => intro xs ys h1 h2; cases xs with
    | nil => cases ys with
      | nil => exact ⟨rfl, rfl⟩
      | cons => cases h1
    | cons => cases h2
  | cons p ps ih =>
    intro xs ys h1 h2
    cases xs with
    | nil => cases h2
    | cons x xs =>
      cases ys with
      | nil => cases h1
      | cons y ys =>
        obtain ⟨e1, e2⟩ := ih xs ys (by simpa using h1) (by simpa using h2)
        exact ⟨by simp [e1], by simp [e2]⟩
theorem sortV_map {α β : Type} {f : α → β} {zs : List (α × PyData)} : ((zs.map fun z => (f z.1, z.2)).mergeSort (PySem.W.dataLe false fun b => b.2)) = (zs.mergeSort (PySem.W.dataLe false fun b => b.2)).map fun z => (f z.1, z.2) := by
  rw [List.map_mergeSort (s := PySem.W.dataLe false fun b => b.2)]
  intro a _ b _; rfl
theorem Reps.sortV {F : Fp} {H : Hp} {vs : List V} {ds : List D} {ps : List PyData} (r : Reps K F H vs ds) (hl : ds.length = ps.length) : Reps K F H (MM.sortV vs ps) (MM.sortV ds ps) := by
  obtain ⟨e1, e2⟩ := zip_map_zip ps vs ds r.length (r.length.trans hl)
  unfold MM.sortV
  rw [e1, e2, sortV_map (f := fun z : V × D => z.1), sortV_map (f := fun z : V × D => z.2), List.map_map, List.map_map]
  refine reps_map fun b hb => ?_
  have hb' := (List.mergeSort_perm _ _).mem_iff.mp hb
  exact reps_zip r b.1 (List.of_mem_zip hb').1
theorem pys_len : ∀ {ds : List D} {ps : List PyData}, pys ds = some ps → ds.length = ps.length
  | [], _, e => by cases e; rfl
  | d :: ds, ps, e => by
    simp only [pys] at e
    cases h1 : py d with
    | none => rw [h1] at e; cases e
    | some p =>
      cases h2 : pys ds with
      | none => rw [h1, h2] at e; cases e
      | some qs => rw [h1, h2] at e; cases e; simp [pys_len h2]
theorem mf_sortD {e : Expr} {es : List Expr} {p pos : Pos} {ms : ME τ (List D)} (hu : X.A.units + 64 < cLine) (hg : Gl X "sorted") (hm : X.mg "sorted" = none) (ha : PA X (e :: es) (tAW X.K W ms))
    (he : starEach (e :: es) X.env = (false, eval e X.env) :: starEach es X.env := by rfl) (hpl : (backTo pos (starEach es X.env)).any (·.1) = false := by rfl) :
    PE X (.Call (.Name "sorted" p) (e :: es) [] pos) (tF X.K W (MM.e1 fSortD ms)) := PE.imp (pe_callB (cr_sortD hu) hg hm (by decide +kernel) ha (by decide) (by decide) he hpl) fun σ H Q ⟨C, ρ, t, A, p⟩ => by
  refine use okF A p fun ds t1 v H1 e1 s1 A1 r1 p1 => ?_
  unfold fSortD at p1
  split at p1
  · obtain ⟨v, rfl, r0⟩ := RepsW.one r1
    obtain ⟨a, vs, rfl, h1, rs⟩ := r0.lstOf
    rename_i ds
    cases e : pys ds with
    | none => rw [e] at p1; exact p1.elim
    | some ps =>
      rw [e, Option.bind_some] at p1
      split at p1
      · rename_i hc
        exact ⟨a, vs, ps, rfl, h1.sq, dps_of (F0 := Fo C.F ρ σ) rs e, hc, fun q nq => new_fin A1 (rs.sortV (pys_len e)) p1 q nq⟩
      · exact p1.elim
  · exact p1.elim
end
theorem pss_bad {X : Cx} {W : WX} {τ : Type} [Sto τ] {sts : List Stmt} : PSs X sts (tS X.K W (fun (_ : Rho) (_ : τ) => Fl.bad)) := ⟨fun pins s σ H D I ⟨C, ρ, t, A, p⟩ => p.elim⟩
theorem sortV_of {α β : Type} {f : α → β} {g : α → PyData} {le : α → α → Bool} (xs : List α) (h : ∀ a ∈ xs, ∀ b ∈ xs, PySem.W.dataLe false g a b = le a b) : sortV (xs.map f) (xs.map g) = (xs.mergeSort le).map f := by
  unfold sortV
  have e : ∀ xs : List α, (xs.map f).zip (xs.map g) = xs.map fun x => (f x, g x) := fun xs => by
    induction xs with
    | nil => rfl
    | cons x xs ih => simp [ih]
  rw [e, ← List.map_mergeSort (r := le) (s := PySem.W.dataLe false fun b : β × PyData => b.2) (f := fun x => (f x, g x)), List.map_map]
  · rfl
  · intro a ha b hb; exact (h a ha b hb).symm
end MM

namespace MM
open PySem PySem.Spec PyProof.Rows L2
section
variable {X : Cx} {W : WX} {τ : Type} [Sto τ] {K : Fg}
def dCutA : D → Option Int → Option Int → Option D
  | .lst ds, lo, hi => some (.lst (cutD ds lo hi))
  | .tup ds, lo, hi => some (.tup (cutD ds lo hi))
  | .str z, lo, hi => if lim2 z.length = true then some (.str (cutS z lo hi)) else none
  | _, _, _ => none
theorem me_cutA {e : Expr} {lo hi : Option Expr} {p2 pos : Pos} {m : ME τ D} {ml mh : ME τ (Option Int)} (h : PE X e (tW X.K W m)) (hl : PO X lo (tO X.K W ml)) (hh : PO X hi (tO X.K W mh)) : PE X (.Subscript e (.Slice lo hi none p2) pos) (tE X.K W (e3 dCutA m ml mh)) :=
  PE.imp (pe_slice ((sl_tupA.or sl_str).or sl_list) h hl hh) fun σ H Q ⟨C, ρ, t, A, p⟩ => by
    refine use okE A p fun d t1 v H1 e1 s1 A1 r1 p1 => ?_
    refine use okE A1 p1 fun l t2 l' H2 e2 s2 A2 rl p2 => ?_
    refine use okE A2 p2 fun u t3 u' H3 e3 s3 A3 ru p3 => ?_
    cases rl
    cases ru
    have rd := RepW.same (RepW.same r1 s2 fun _ => Fo.base) s3 fun _ => Fo.base
    cases d <;> first
      | exact p3.elim
      | skip
    · rename_i z
      unfold dCutA at p3
      dsimp only at p3
      split at p3
      · rename_i hz
        exact .inl (.inr ⟨z, rd.strOf, lim2_le hz, p3 _ H3 (Sm.refl _ _) A3.st (.str _)⟩)
      · exact p3.elim
    · obtain ⟨a, vs, rfl, q, rs⟩ := rd.tupOf
      refine .inl (.inl ⟨a, vs, rfl, q.sq, fun hw => ?_, fun _ b nb => p3 _ _ (Sm.of_same (same_upd nb)) (C.stay A3.st (same_upd nb)) (Rep.newTup (rs.cut _ _) A3.dom nb)⟩)
      refine p3 _ H3 (Sm.refl _ _) A3.st ?_
      show Rep X.K _ H3 (V.ref a) (.tup (cutD _ _ _))
      unfold cutD
      rw [← rs.length, hw.1, hw.2, List.drop_zero, Nat.sub_zero, rs.length, List.take_length]
      exact .tup q rs
    · obtain ⟨a, vs, rfl, q, rs⟩ := rd.lstOf
      exact .inr ⟨a, vs, rfl, q.sq, fun b nb => p3 _ _ (Sm.of_same (same_upd nb)) (C.stay A3.st (same_upd nb)) (Rep.newLst (rs.cut _ _) A3.dom nb)⟩
theorem room65 {k : Nat} {A : Around} (r : Room k A) : A.units + 65 < cLine := by have := r.un; omega
end
@[simp] theorem dCutA_lst {ds : List D} {lo hi : Option Int} : dCutA (.lst ds) lo hi = some (.lst (cutD ds lo hi)) := rfl
@[simp] theorem dCutA_tup {ds : List D} {lo hi : Option Int} : dCutA (.tup ds) lo hi = some (.tup (cutD ds lo hi)) := rfl
end MM

namespace MM
open PySem PySem.Spec PyProof.Rows L2
section
variable {X : Cx} {W : WX} {τ : Type} [Sto τ] {K : Fg}
end
end MM

namespace MM
open PySem PySem.Spec PyProof.Rows L2
section
variable {X : Cx} {W : WX} {τ : Type} [Sto τ] {K : Fg}
structure ClsF (K : Fg) (C : Str) : Prop where
  cl : Cls K (He.ga K C)
  ha : PySem.W.findIn K (.ref (He.ga K C)) "__class__" = some (some (.builtin "object.__class__"))
  hn : PySem.W.specialIn K (.builtin "object.__class__") "__get__" = some (some (.builtin "getset_descriptor.__get__"))
  htk : PySem.W.takesIn K (.builtin "object.__class__") = some true
  hm : PySem.W.mroIn K (He.ga K C) (.type "object") = some true
theorem ClsF.ty (c : ClsF K C) {H : Hp} {a dx : Addr} {fs : List (Str × V)} (e : H a = some (.ins (He.ga K C) dx fs)) : TyX K H (.ref a) (.ref (He.ga K C)) := .base (.ins e c.cl c.ha c.hn c.htk c.hm)
structure MethE (P : Program) (w : World) (K : Fg) (mg : Str → Option Value) (base : Heap) (k : Nat) (C m : Str) (np : Nat) (mf : List D → Unit → Res Unit D) : Prop where
  ex : ∃ (fd : FuncData) (ps : List Str), FnOk P w K mg base (L2.CX P w) k (He.ma K (He.ga K C) m) fd ps (spF np K mf) ∧ Binds K fd ps [] ∧ ClsF K C ∧ Meth K (He.ga K C) m (He.ma K (He.ga K C) m)
theorem MethE.mono {P : Program} {w : World} {mg : Str → Option Value} {base : Heap} {j k : Nat} {C m : Str} {np : Nat} {mf : List D → Unit → Res Unit D} (F : MethE P w K mg base j C m np mf) (h : j ≤ k) : MethE P w K mg base k C m np mf := by
  obtain ⟨fd, ps, f1, f2⟩ := F.ex
  exact ⟨fd, ps, f1.mono h, f2⟩
theorem SqT.upd_ne {H : Hp} {a x : Addr} {o o' : HO} {xs : List V} (h : SqT K H a xs) (hx : H x = some o) (ho : ∀ ys, o ≠ .tup ys) (hf : ∀ oo ys, o ≠ .frz oo (.tup ys)) : SqT K (upd H x o') a xs := by
  rcases h with h | h
  · rcases h with h | ⟨oo, h⟩
    · refine .inl (.inl ?_)
      rw [L2.upd_ne]; exact h
      intro z; subst z; rw [hx] at h; cases h; exact ho _ rfl
    · refine .inl (.inr ⟨oo, ?_⟩)
      rw [L2.upd_ne]; exact h
      intro z; subst z; rw [hx] at h; cases h; exact hf _ _ rfl
  · exact .inr h
end
section
variable {X : Cx} {K : Fg}
end
section
variable {K : Fg}
end
section
variable {τ : Type} {X : Str → Fds → τ → Prop} {ρ : Rho} {t : τ}
end
end MM

namespace MM
open PySem PySem.Spec PyProof.Rows L2
section
variable {K : Fg} {F0 F : Fp} {H : Hp}
theorem RepW.keyOf {y : V} {k : Key} (r : RepW K F0 F H y (keyD k)) : y = kV k := by
  cases k with
  | inl i => exact r.intOf
  | inr x => exact r.strOf
end
section
variable {X : Cx} {W : WX} {τ : Type} [Sto τ] {K : Fg}
end
end MM

namespace MM
open PySem PySem.Spec PyProof.Rows L2
section
variable {X : Cx}
end
end MM

namespace MM
open PySem PySem.Spec PyProof.Rows L2
section
variable {X : Cx} {W : WX} {τ : Type} [Sto τ] {K : Fg}
end
end MM

namespace MM
open PySem PySem.Spec PyProof.Rows L2
section
variable {X : Cx} {W : WX} {τ : Type} [Sto τ] {K : Fg}
end
end MM

namespace MM
open PySem PySem.Spec PyProof.Rows L2
section
variable {τ : Type} {ρ : Rho} {t : τ} {X : Str → Fds → τ → Prop} {P : Pt τ} {g : Tgt} {tt : ME τ Bool} {te tk tv : ME τ D} {pu : List D → List D → D → D → Option (List D × List D)}
theorem comp_map {α : Type} {enc f : α → D} : ∀ {xs : List α} {Q : List D → τ → Prop}, (∀ x ∈ xs, ∃ ρ1, g ρ (enc x) = some ρ1 ∧ oE (te ρ1 t) (fun y t' => y = f x ∧ t' = t) (fun _ _ _ => False)) → Q (xs.map f) t →
    oE (compL g (fun _ t => .ok true t) te ρ (xs.map enc) t) Q X
  | [], _, _, h => h
  | x :: xs, Q, hx, h => by
    obtain ⟨ρ1, e1, e2⟩ := hx x List.mem_cons_self
    rw [List.map_cons, oE_compCons]
    refine ⟨ρ1, e1, ?_⟩
    simp only [oE_ok, not_true_eq_false, false_implies, and_true, forall_const]
    refine oE_imp e2 (fun y t' hh => ?_) fun _ _ _ z => z
    rw [hh.1, hh.2]
    exact comp_map (Q := fun ys t => Q (f x :: ys) t) (fun z hz => hx z (List.mem_cons_of_mem _ hz)) h
theorem comp_filt {α : Type} {enc f : α → D} {p : α → Bool} : ∀ {xs : List α} {Q : List D → τ → Prop}, (∀ x ∈ xs, ∃ ρ1, g ρ (enc x) = some ρ1 ∧ oE (tt ρ1 t) (fun b t' => b = p x ∧ t' = t) (fun _ _ _ => False) ∧ (p x = true → oE (te ρ1 t) (fun y t' => y = f x ∧ t' = t) (fun _ _ _ => False))) → Q ((xs.filter p).map f) t →
    oE (compL g tt te ρ (xs.map enc) t) Q X
  | [], _, _, h => h
  | x :: xs, Q, hx, h => by
    obtain ⟨ρ1, e1, e2, e3⟩ := hx x List.mem_cons_self
    rw [List.map_cons, oE_compCons]
    refine ⟨ρ1, e1, ?_⟩
    refine oE_imp e2 (fun b t' hh => ?_) fun _ _ _ z => z
    have eb := hh.1
    rw [hh.2]
    have r := fun z hz => hx z (List.mem_cons_of_mem x hz)
    refine ⟨fun hb => ?_, fun hb => ?_⟩
    · rw [eb] at hb
      rw [List.filter_cons, if_pos hb] at h
      refine oE_imp (e3 hb) (fun y t' hh => ?_) fun _ _ _ z => z
      rw [hh.1, hh.2]
      exact comp_filt (Q := fun ys t => Q (f x :: ys) t) r h
    · rw [eb] at hb
      rw [List.filter_cons, if_neg hb] at h
      exact comp_filt r h
theorem oS_loopE {α : Type} {enc : α → D} {b : MS τ} (I : List α → List α → Rho → τ → Prop) (xs : List α) (h0 : I [] xs ρ t)
    (hs : ∀ dn x td ρ t, xs = dn ++ x :: td → I dn (x :: td) ρ t → ∃ ρ1, g ρ (enc x) = some ρ1 ∧ oS (b ρ1 t) { P with nx := I (dn ++ [x]) td, ct := I (dn ++ [x]) td, bk := P.nx }) (hn : ∀ ρ t, I xs [] ρ t → P.nx ρ t) : oS (loopF g b (xs.map enc) ρ t) P := by
  have key : ∀ (td dn : List α) (ρ : Rho) (t : τ), xs = dn ++ td → I dn td ρ t → oS (loopF g b (td.map enc) ρ t) P := by
    intro td
    induction td with
    | nil =>
      intro dn ρ t e h
      rw [List.append_nil] at e
      subst e
      exact hn ρ t h
    | cons x td ih =>
      intro dn ρ t e h
      rw [List.map_cons, oS_loop_cons]
      obtain ⟨ρ1, e1, h1⟩ := hs dn x td ρ t e h
      have e' : xs = (dn ++ [x]) ++ td := by rw [e]; simp
      exact ⟨ρ1, e1, oS_imp h1 (fun ρ t h => ih (dn ++ [x]) ρ t e' h) (fun _ _ h => h) (fun _ _ _ _ h => h) (fun _ _ h => h) (fun ρ t h => ih (dn ++ [x]) ρ t e' h)⟩
  exact key xs [] ρ t rfl h0
end
end MM

namespace PySem
open Sem (wp)
open AutoSeq1 (wpAny_loadPart')
theorem mEnumT (l : Addr) (ob : Obj) (items : Array Value) (hc : ob.cls = .type "tuple") (hT : ∀ h : Heap, h.get? l = some ob → h.IsTuple l items) :
    Meets (Builtin.«enumerate.__new__» ⟨[.type "enumerate", .ref l], []⟩) (fun _ R s => s.heap.get? l = some ob ∧
      R (.ok (.ret (.ref (s.heap.push { cls := .type "tuple_iterator", data := .fields #[.ref l, .int 0 0] }).objs.size)))
        { s with heap := (s.heap.push { cls := .type "tuple_iterator", data := .fields #[.ref l, .int 0 0] }).push { cls := .type "enumerate", data := .fields #[.none, .bool false, .ref s.heap.objs.size, rawInt 0, .none, .none] } }) :=
  .of_wp fun prog w A R s h => by
    obtain ⟨hp, g, d, tk, os⟩ := s; obtain ⟨hl, h⟩ := h
    have hsub := sub_enumerate
    have hL : Heap.IsTuple (Shared.heap ⟨hp, g, d, tk, os⟩) l items := hT _ hl
    wp_walk using wpAny_loadPart' hl
    refine wpAny_stack_any fun st => wpAny_pure ?_
    split
    · rename_i c _ _ _ _ _
      cases (c == Value.type "enumerate")
      · wp_walk using wpAny_loadPart' hl, wpAny_pyIter_tuple hL
        exact ⟨_, rfl, h⟩
      · wp_walk using wpAny_loadPart' hl, wpAny_pyIter_tuple hL
        exact ⟨_, rfl, h⟩
    · wp_walk using wpAny_loadPart' hl, wpAny_pyIter_tuple hL
      exact ⟨_, rfl, h⟩
end PySem
namespace MM
open PySem PySem.Spec PyProof.Rows L2
theorem pyNext_enumT_end {prog : Program} {w : World} {A : Around} {E : Value → Shared → Prop} {s : Shared} {e it l : Addr} {i : Nat} {items : Array Value} {old : Value} {Q : Option Value → Shared → Prop} (hh : A.handled = none)
    (he : IsEnum s.heap e it i old) (hit : s.heap.IsTupleIter it l i) (hl : s.heap.IsTuple l items) (hx : items[i]? = none) (hQ : ∀ h', Heap.ExtBut it s.heap h' → Q none { s with heap := h' }) : wpAny (model prog w) A (pyNext (.ref e)) Q E s := by
  have hT : s.TypeIs (.ref e) "enumerate" := ⟨_, he, rfl⟩
  unfold pyNext
  refine wpAny_bind (wpAny_attempt (wpAny_callSpecial?_slot (name := Str.ofString "__next__") hT F.slot_enumerate_next (wpAny_call_entry F.slot_enumerate_next hT F.entry_enumerate_next ?_ (F.args_enumerate_next_1 _))))
  show wpAny _ _ (field (.ref e) 2 >>= _) _ _ _
  refine wpAny_bind (wpAny_field he rfl (x := .ref it) rfl (wpAny_bind (wpAny_nextOf_tuple_end hh hit hl hx fun h' x he' hx' => ?_)))
  obtain ⟨o, ho, hc⟩ := hx'
  exact wpAny_bind (wpAny_isInstance (T := "StopIteration") (b := true) ⟨o, ho, hc⟩ isSubtype_stop (wpAny_pure (hQ _ he')))
def IteT (K : PySem.W.Frag) (a : Addr) : It :=
  ⟨fun i H => ∃ (xs : List V) (x : V), SqT K H a xs ∧ xs[i]? = some x, fun i H v H' => ∃ T x, v = .ref T ∧ H T = none ∧ H' = upd H T (.tup [.int (i : Nat), x]) ∧ ∀ xs, SqT K H a xs → xs[i]? = some x, fun i H => ∃ xs : List V, SqT K H a xs ∧ xs.length ≤ i⟩
theorem turn_enT {P : Program} {w : World} {K : PySem.W.Frag} {elts : List Expr} {kk : Nat} {tpos : Pos} (a e it : Addr) (hai : a ≠ it) (hae : a ≠ e) :
    Turn P w K (.Tuple elts kk tpos) (IteT K a) [e, it] e (fun i h => (∃ old, IsEnum h e it ((i : Nat) : Int) old) ∧ h.IsTupleIter it a i ∧ e ≠ it) where
  mem := by simp
  obj := fun i h st b hb => by
    obtain ⟨⟨old, he⟩, ⟨o, ho, hc, hd⟩, _⟩ := st
    have hb' : b = e ∨ b = it := by simpa using hb
    rcases hb' with rfl | rfl
    · exact ⟨_, he, fun v q => nomatch q⟩
    · exact ⟨o, ho, fun v q => by rw [hd] at q; cases q⟩
  keep := fun i h h' st k => let ⟨⟨old, he⟩, hi, ne⟩ := st; ⟨⟨old, k e (by simp) _ he⟩, hi.at fun o q => k it (by simp) o q, ne⟩
  item := by
    intro X hP hw hK hc i pins s σ H E I hf st hg
    subst hP hw hK
    obtain ⟨⟨old, he⟩, hit, ne⟩ := st
    obtain ⟨xs, x, hq, hx⟩ := hg
    obtain ⟨its, rv, p, hz⟩ := I.tuple hq
    obtain ⟨u, hu, ru⟩ := rv.get hx
    have lt : i < its.toArray.size := by
      have := (List.getElem?_eq_some_iff.mp hu).1
      simpa using this
    have el : e < s.heap.objs.size := Heap.lt_size he
    have il : it < s.heap.objs.size := by obtain ⟨_, q, _⟩ := hit; exact Heap.lt_size q
    have D := Draws.tuple (prog := X.prog) (w := X.w) (A := X.A.in1) (I.ok.hd hc) it a hai its.toArray
    refine wpAny_pyNext_enum_itemD D he ⟨hit, p⟩ lt ne (by simp only [List.mem_cons, List.not_mem_nil, or_false, not_or]; exact ⟨ne, fun z => hae z.symm⟩) fun y h' tk hy ho hst hT hsz hk => ?_
    have ey : y = u := by
      have hy' : its.toArray[i]? = some y := hy
      rw [List.getElem?_toArray, hu] at hy'
      exact (Option.some.inj hy').symm
    subst ey
    refine ⟨_, rfl, wpAny_letOwnedTupleGo_enum (s := { s with heap := h', toks := tk + 1 }) ho fun h'' he' sb => ?_⟩
    have hT2 : h''.get? s.heap.objs.size = some { cls := .type "tuple", data := .seq #[.int i tk, y] } := (sb.2 _ (Nat.ne_of_gt el)).trans hT
    have new : ObjOk X.prog X.w (upd H s.heap.objs.size (.tup [.int (i : Nat), x])) h'' s.heap.objs.size (.tup [.int (i : Nat), x]) :=
      ⟨by show 2 ≤ sizeLine; decide, [.int i tk, y], .cons ⟨_, rfl⟩ (.cons ru .nil), ⟨_, hT2, rfl, _, rfl⟩⟩
    have I1 : Inv X pins σ (upd H s.heap.objs.size (.tup [.int (i : Nat), x])) { s with heap := h'', toks := tk + 1 } :=
      I.turnedNew (ch := [e, it]) (fun b ob hb q => (sb.2 b (fun z => hb (by simp [z]))).trans (hk b ob (fun z => hb (by simp [z])) (fun z => hb (by simp [z])) q)) hf (Nat.le_refl _) new
    refine ⟨.ref s.heap.objs.size, _, I1, rfl, ⟨_, x, rfl, I.hok.fresh (Nat.le_refl _), rfl, fun ys hys => ?_⟩, ⟨⟨y, ?_⟩, hst.1.at fun o q => (sb.2 it (Ne.symm ne)).trans q, ne⟩, fun b hb => ?_⟩
    · rw [I.tuple_inj hys hq]; exact hx
    · rw [show ((i + 1 : Nat) : Int) = (i : Int) + 1 by omega]; exact he'
    · have hb' : b = e ∨ b = it := by simpa using hb
      have : b < s.heap.objs.size := by rcases hb' with rfl | rfl <;> assumption
      rw [upd_ne (Nat.ne_of_lt this)]
      exact (hf b hb).1
  done := by
    intro X hP hw hK hc i pins s σ H E I hf st hg
    subst hP hw hK
    obtain ⟨⟨old, he⟩, hit, ne⟩ := st
    obtain ⟨xs, hq, hx⟩ := hg
    obtain ⟨its, rv, p, hz⟩ := I.tuple hq
    obtain ⟨f0, f1, f2, f3, f4, f5⟩ := hf it (by simp)
    have hl := rv.length
    exact pyNext_enumT_end (I.ok.hd hc) he hit p (by simp; omega) fun h' eb => ⟨rfl, I.turned (t' := s.toks) (fun b o hb q => eb b o hb q) f0 f1 f3 f4 f5⟩
  self := fun A i s Q E st h => let ⟨⟨_, he⟩, _⟩ := st; wpAny_pyIter_enum he h
def iEnumT (K : PySem.W.Frag) (ta : TA) : TI := fun σ H R => ta σ H fun vs H1 => ∃ a xs, vs = [.ref a] ∧ SqT K H1 a xs ∧ R (IteT K a) H1
theorem pi_enumT {X : Cx} {e : Expr} {ta : TA} {p pos tpos : Pos} {elts : List Expr} {kk : Nat} (hg : Gl X "enumerate") (hm : X.mg "enumerate" = none) (ha : PA X [e] ta) (hs : starEach [e] X.env = [(false, eval e X.env)] := by rfl) :
    PI X (.Tuple elts kk tpos) (.Call (.Name "enumerate" p) [e] [] pos) (iEnumT X.K ta) := by
  refine ⟨fun pins s σ H R I h => ?_⟩
  refine Call_ (ld_blt I hg hm boot_enumerate (PyProof.Rows.callWith_type1 (thn (ha.run pos pins s σ H _ I h) fun us s1 ⟨vs, H1, I1, r1, a, xs, ex, hq, q⟩ => ?_) hs rfl))
  subst ex
  rw [Vals.ref1 r1]
  obtain ⟨its, rv, ⟨ob, hob, hc, n, hd⟩, hz⟩ := I1.tuple hq
  have lt : a < s1.heap.objs.size := Heap.lt_size hob
  refine callType_new F.called_enumerate (by decide) (F.typeCall_enumerate_1 _) (F.newCall_enumerate_1 _) (fun obj => F.args_object_init_2 obj _) F.entry_enumerate_new
    (mEnumT a ob its.toArray hc fun h e => ⟨ob, e, hc, n, hd⟩) ⟨hob, ?_⟩
  have sz : (s1.heap.push { cls := .type "tuple_iterator", data := .fields #[.ref a, .int 0 0] }).objs.size = s1.heap.objs.size + 1 := Heap.size_push ..
  show _ ∧ _
  rw [sz]
  have he := Heap.get?_push_size (s1.heap.push { cls := .type "tuple_iterator", data := .fields #[.ref a, .int 0 0] }) (o := { cls := .type "enumerate", data := .fields #[.none, .bool false, .ref s1.heap.objs.size, rawInt 0, .none, .none] }) rfl
  rw [sz] at he
  have keep : ∀ b o, s1.heap.get? b = some o → ((s1.heap.push { cls := .type "tuple_iterator", data := .fields #[.ref a, .int 0 0] }).push { cls := .type "enumerate", data := .fields #[.none, .bool false, .ref s1.heap.objs.size, rawInt 0, .none, .none] }).get? b = some o := fun b o x => Heap.get?_push_of_some _ (Heap.get?_push_of_some _ x)
  have hit : ((s1.heap.push { cls := .type "tuple_iterator", data := .fields #[.ref a, .int 0 0] }).push { cls := .type "enumerate", data := .fields #[.none, .bool false, .ref s1.heap.objs.size, rawInt 0, .none, .none] }).get? s1.heap.objs.size = some { cls := .type "tuple_iterator", data := .fields #[.ref a, .int 0 0] } := Heap.get?_push_of_some _ (Heap.get?_push_size _ rfl)
  generalize (s1.heap.push { cls := .type "tuple_iterator", data := .fields #[.ref a, .int 0 0] }).push { cls := .type "enumerate", data := .fields #[.none, .bool false, .ref s1.heap.objs.size, rawInt 0, .none, .none] } = h' at he keep hit ⊢
  have hen : IsEnum h' (s1.heap.objs.size + 1) s1.heap.objs.size 0 .none := he
  refine ⟨⟨_, he, rfl⟩, wpAny_pyIter_enum hen ?_⟩
  have I2 : Inv X pins σ H1 { s1 with heap := h' } := I1.kept (t' := s1.toks) keep
  refine ⟨s1.heap.objs.size + 1, [s1.heap.objs.size + 1, s1.heap.objs.size], _, _, H1, rfl, I2, turn_enT a (s1.heap.objs.size + 1) s1.heap.objs.size (Nat.ne_of_lt lt) (Nat.ne_of_lt (Nat.lt_succ_of_lt lt)), ⟨⟨.none, hen⟩, ⟨_, hit, rfl, rfl⟩, Nat.succ_ne_self _⟩, fun b hb => ?_, q⟩
  have hb' : b = s1.heap.objs.size + 1 ∨ b = s1.heap.objs.size := by simpa using hb
  have le : s1.heap.objs.size ≤ b := by
    rcases hb' with rfl | rfl
    · exact Nat.le_add_right _ _
    · exact Nat.le_refl _
  exact I1.fpOk le (I1.hok.fresh le)
section
variable {X : Cx} {W : WX} {τ : Type} [Sto τ] {K : Fg}
def fEnumT : List D → Option (List D)
  | [.tup ds] => some (enumD ds)
  | _ => none
@[simp] theorem fEnumT_tup {ds : List D} : fEnumT [.tup ds] = some (enumD ds) := rfl
theorem rIt_enumT {I : Fp → Hp → Prop} {F0 F : Fp} {H H' : Hp} {a : Addr} {vs : List V} {ds : List D} (hl : TupF K F H' a vs) (r : Reps K F H' vs ds) : rIt K I F0 F H H' (IteT K a) (enumD ds) := by
  have w : Walk (IteT K a) (enumD ds).length (fun H => SqT K H a vs) (YPair (fun i => some (.int (i : Nat))) (fun i => vs[i]?)) := by
    rw [show (enumD ds).length = vs.length by unfold enumD; rw [List.length_mapIdx, r.length]]
    refine ⟨fun i H hi g => ⟨vs, vs[i], g, List.getElem?_eq_getElem hi⟩, fun H g => ⟨vs, g, Nat.le_refl _⟩, fun i H x H' hi g y => ?_⟩
    obtain ⟨T, x0, rfl, nT, rfl, hx⟩ := y
    exact ⟨T, _, x0, rfl, nT, rfl, rfl, hx vs g⟩
  refine ⟨_, _, w, fun H2 s => (hl.step ⟨s, fun _ z => .inl z⟩).sq, fun Fc i H2 x H3 hi s dm y => ?_⟩
  obtain ⟨T, x0, y0, rfl, nT, rfl, e1, e2⟩ := y
  cases e1
  obtain ⟨d, ed, q⟩ := (r.step s).getV e2
  exact ⟨same_upd nT, .tup [.int (i : Nat), d], by unfold enumD; rw [List.getElem?_mapIdx, ed]; rfl, Rep.newTup (.cons (.int _) (.cons q .nil)) dm nT⟩
theorem mi_enumT {e : Expr} {p pos tpos : Pos} {elts : List Expr} {kk : Nat} {m : ME τ (List D)} (hg : Gl X "enumerate") (hm : X.mg "enumerate" = none) (ha : PA X [e] (tA X.K W m)) (hs : starEach [e] X.env = [(false, eval e X.env)] := by rfl) :
    PI X (.Tuple elts kk tpos) (.Call (.Name "enumerate" p) [e] [] pos) (tI X.K W (e1 fEnumT m)) := PI.imp (pi_enumT hg hm ha hs) fun σ H R ⟨C, ρ, t, A, p⟩ => by
  refine use okI A p fun d t1 v H1 e1 s1 A1 r1 p1 => ?_
  unfold fEnumT at p1
  split at p1
  · cases r1 with
    | cons r rr =>
      cases rr
      cases r with
      | tup h rs => exact ⟨_, _, rfl, h.sq, p1 _ H1 (Sm.refl _ _) A1.st (rIt_enumT h rs)⟩
  · exact p1.elim
def fEnum2 : List D → Option (List D)
  | [.tup ds] => some (enumD ds)
  | [.lst ds] => some (enumD ds)
  | _ => none
@[simp] theorem fEnum2_tup {ds : List D} : fEnum2 [.tup ds] = some (enumD ds) := rfl
@[simp] theorem fEnum2_lst {ds : List D} : fEnum2 [.lst ds] = some (enumD ds) := rfl
theorem PI.or {tg e : Expr} {t t' : TI} (h : PI X tg e t) (h' : PI X tg e t') : PI X tg e (fun σ H Q => t σ H Q ∨ t' σ H Q) := ⟨fun pins s σ H R I q => q.elim (h.run pins s σ H R I) (h'.run pins s σ H R I)⟩
theorem mi_enum2 {e : Expr} {p pos tpos : Pos} {elts : List Expr} {kk : Nat} {m : ME τ (List D)} (hg : Gl X "enumerate") (hm : X.mg "enumerate" = none) (ha : PA X [e] (tA X.K W m)) (hs : starEach [e] X.env = [(false, eval e X.env)] := by rfl) :
    PI X (.Tuple elts kk tpos) (.Call (.Name "enumerate" p) [e] [] pos) (tI X.K W (e1 fEnum2 m)) := PI.imp (PI.or (mi_enumT hg hm ha hs) (mi_enum hg hm ha hs)) fun σ H R ⟨C, ρ, t, A, p⟩ => by
  have key : e1 fEnum2 m ρ t = e1 fEnumT m ρ t ∨ e1 fEnum2 m ρ t = e1 fEnum m ρ t := by
    unfold e1
    cases m ρ t with
    | ok ds t1 =>
      show opt (fEnum2 ds) t1 = opt (fEnumT ds) t1 ∨ opt (fEnum2 ds) t1 = opt (fEnum ds) t1
      rcases ds with _ | ⟨d, _ | ⟨d2, dr⟩⟩
      · exact .inl rfl
      · cases d <;> first
          | exact .inl rfl
          | exact .inr rfl
      · left
        cases d <;> rfl
    | ex n fs t1 => exact .inl rfl
    | bad => exact .inl rfl
  rcases key with k | k
  · exact .inl ⟨C, ρ, t, A, k ▸ p⟩
  · exact .inr ⟨C, ρ, t, A, k ▸ p⟩
end
end MM

namespace MM
open PySem PySem.Spec PyProof.Rows L2
section
variable {τ : Type} [Sto τ] {X : Cx} {W : WX} {K : Fg}
abbrev MSf (τ : Type) := Rho → τ → Res τ (List D)
def SPostF (K : Fg) (W : WX) (C : SC τ) (F1 : Fp) (H : Hp) (r : Res τ (List D)) (Q : VK) : Prop := match r with
  | .ok ds t' => ∀ a vs H', Stp F1 H (fun b => C.F b ∨ b = a) H' → ¬ C.F a → H' a = some (.lst vs) → Reps K (fun b => C.F b ∨ b = a) H' vs ds → C.Iv t' (fun b => C.F b ∨ b = a) H' → Q (.ref a) H'
  | .ex n fs t' => ∀ cls dd σ' H' G, (∀ b, C.F b → G b) → Stp F1 H G H' → C.Iv t' G H' → XRep K G H' n fs cls dd → W cls dd σ' H'
  | .bad => False
theorem SPostF.rebase {C : SC τ} {F1 F2 : Fp} {H H1 : Hp} {r : Res τ (List D)} {Q : VK} (h : SPostF K W C F1 H r Q) (s : Stp F1 H F2 H1) : SPostF K W C F2 H1 r Q := by
  cases r with
  | ok ds t' => exact fun a vs H' s' n q r i => h a vs H' (s.trans s') n q r i
  | ex n fs t' => exact fun cls dd σ' H' G g s' i x => h cls dd σ' H' G g (s.trans s') i x
  | bad => exact h
def tSf (K : Fg) (W : WX) (m : MSf τ) : TS := fun E σ H => ∃ (C : SC τ) (ρ : Rho) (t : τ), At K C ρ t σ H ∧ SPostF K W C (Fo C.F ρ σ) H (m ρ t) E.rt
def FPostF (K : Fg) (C : SC τ) (H : Hp) (r : Res τ (List D)) (Q : VK) (E : XK) : Prop := match r with
  | .ok ds t' => ∀ a vs H', Stp C.F H (fun b => C.F b ∨ b = a) H' → ¬ C.F a → H' a = some (.lst vs) → Reps K (fun b => C.F b ∨ b = a) H' vs ds → C.Iv t' (fun b => C.F b ∨ b = a) H' → Q (.ref a) H'
  | .ex n fs t' => ∀ cls dd H', Sm C.F H H' → C.Iv t' C.F H' → XRep K C.F H' n fs cls dd → E cls dd H'
  | .bad => False
def spFF (np : Nat) (K : Fg) (m : List D → τ → Res τ (List D)) : Sp := fun vs H Q E => ∃ (C : SC τ) (ds : List D) (t : τ), Sto.ok K C ∧ C.Iv t C.F H ∧ Reps K C.F H vs ds ∧ ds.length = np ∧ FPostF K C H (m ds t) Q E
def runF (n : Nat) (mb : MSf τ) : List D → τ → Res τ (List D) := fun ds t => mb (ds.map Slot.val ++ List.replicate (n - ds.length) .no) t
theorem fn_mkF {P : Program} {w : World} {K : Fg} {mg : Str → Option Value} {base : Heap} {x qual : Str} {params : Arguments} {body : List Stmt} {scope : Scope} {dvs : List V} {kws : List (Str × V)} {f : Addr} {fd : FuncData} {N ps : List Str} {k : Nat}
    (F : FunD K x qual params body scope dvs kws f fd) (S : FnScope N ps scope) (mb : MSf τ)
    (hb : ∀ (cdv : Value) (A : Around) (outer : List Env) (s : Shared) (H : Hp) (E : XK), Room k (A.deeper (envOfC qual scope s.heap.objs.size f cdv)) →
      PSs (cxOf (L2.CX P w) P w K mg base N qual scope f cdv A outer s H E) body (tSf K (fun cls d _ H => E cls d H) mb)) : FnOk P w K mg base (L2.CX P w) (k + 1) f fd ps (spFF ps.length K (runF N.length mb)) := by
  have hpl : ps.length ≤ N.length := by have := congrArg List.length S.pre; rw [List.length_take] at this; omega
  refine F.ok S (fun vs H Q E ⟨C, ds, t, _, _, r, hl, _⟩ => r.length.trans hl) fun cdv A outer s H vs Q E hr ⟨C, ds, t, okC, iv, r, hl, p⟩ => ⟨_, hb cdv A outer s H E hr, C, _, t, At.start okC iv r (by rw [hl]; exact hpl), ?_⟩
  unfold runF at p
  cases e : mb (ds.map Slot.val ++ List.replicate (N.length - ds.length) .no) t with
  | ok xs t' =>
    rw [e] at p
    exact fun a vs H' s' n q r i => p a vs H' ⟨fun b o n e => s'.keep b o (fun z => n (FoStart z)) e, fun b h => (s'.new b h).elim (fun z => .inl (FoStart z)) .inr⟩ n q r i
  | ex n fs t' =>
    rw [e] at p
    exact fun cls dd σ' H' G g s' i x => p cls dd H' (fun b o n e => s'.keep b o (fun z => n (FoStart z)) e) (C.less i g) (x.anti g)
  | bad => rw [e] at p; exact p.elim
structure DefF (P : Program) (w : World) (K : Fg) (mg : Str → Option Value) (base : Heap) (k : Nat) (x : Str) (np : Nat) (m : List D → τ → Res τ (List D)) : Prop where
  ex : ∃ (fd : FuncData) (ps : List Str) (ds : List Value), FnOk P w K mg base (L2.CX P w) k (He.ga K x) fd ps (spFF np K m) ∧ mg x = some (.ref (He.ga K x)) ∧ PySem.W.keepIn K (.ref (He.ga K x)) = true ∧ Binds K fd ps ds ∧ Vals [] ds
theorem DefF.mk' {P : Program} {w : World} {K : Fg} {mg : Str → Option Value} {base : Heap} {x qual : Str} {params : Arguments} {body : List Stmt} {scope : Scope} {dvs : List V} {kws : List (Str × V)} {fd : FuncData} {N ps : List Str} {k : Nat}
    (F : FunD K x qual params body scope dvs kws (He.ga K x) fd) (hm : mg x = some (.ref (He.ga K x))) (S : FnScope N ps scope) (mb : MSf τ) (hb : ∃ ds, Vals [] ds ∧ Binds K fd ps ds)
    (hbody : ∀ (cdv : Value) (A : Around) (outer : List Env) (s : Shared) (H : Hp) (E : XK), Room k (A.deeper (envOfC qual scope s.heap.objs.size (He.ga K x) cdv)) →
      PSs (cxOf (L2.CX P w) P w K mg base N qual scope (He.ga K x) cdv A outer s H E) body (tSf K (fun cls d _ H => E cls d H) mb)) : DefF P w K mg base (k + 1) x ps.length (runF N.length mb) := by
  obtain ⟨ds, h1, h2⟩ := hb
  exact ⟨fd, ps, ds, fn_mkF F S mb hbody, hm, F.kp, h2, h1⟩
theorem DefF.mono {P : Program} {w : World} {K : Fg} {mg : Str → Option Value} {base : Heap} {j k : Nat} {x : Str} {np : Nat} {m : List D → τ → Res τ (List D)} (F : DefF P w K mg base j x np m) (h : j ≤ k) : DefF P w K mg base k x np m := by
  obtain ⟨fd, ps, ds, F, r⟩ := F.ex
  exact ⟨fd, ps, ds, F.mono h, r⟩
end
section
variable {τ : Type} [Sto τ] {X : Cx} {W : WX}
end
section
variable {τ : Type} [Sto τ] {X : Cx} {W : WX}
end
section
variable {τ α : Type} {X : Str → Fds → τ → Prop} {ρ : Rho} {t : τ}
@[simp] theorem oE_runF {n : Nat} {b : MSf τ} {ds : List D} {Q : List D → τ → Prop} : oE (runF n b ds t) Q X = oE (b (ds.map Slot.val ++ List.replicate (n - ds.length) .no) t) Q X := rfl
end
end MM

namespace MM
open PySem PySem.Spec PyProof.Rows L2
section
variable {τ : Type} [Sto τ] {X : Cx} {W : WX}
end
section
variable {X : Cx} {K : Fg}
end
end MM

namespace MM
open PySem PySem.Spec PyProof.Rows L2
mutual
def qd : PyData → D
  | .none => .non
  | .bool b => .bl b
  | .int i => .int i
  | .str x => .str x
  | .tuple ps => .tup (qds ps)
  | .list ps => .lst (qds ps)
  | .dict _ => .non
def qds : List PyData → List D
  | [] => []
  | p :: ps => qd p :: qds ps
end
mutual
theorem qd_of : ∀ {d : D} {p : PyData}, py d = some p → qd p = d
  | .non, _, e => by unfold py at e; cases e; rfl
  | .bl b, _, e => by unfold py at e; cases e; rfl
  | .int b, _, e => by unfold py at e; cases e; rfl
  | .str b, _, e => by unfold py at e; cases e; rfl
  | .tup ds, _, e => by
    unfold py at e
    cases q : pys ds with
    | none => rw [q] at e; cases e
    | some ps => rw [q] at e; cases e; unfold qd; rw [qds_of q]
  | .lst ds, _, e => by
    unfold py at e
    cases q : pys ds with
    | none => rw [q] at e; cases e
    | some ps => rw [q] at e; cases e; unfold qd; rw [qds_of q]
theorem qds_of : ∀ {ds : List D} {ps : List PyData}, pys ds = some ps → qds ps = ds
  | [], _, e => by unfold pys at e; cases e; rfl
  | d :: ds, _, e => by
    unfold pys at e
    cases q : py d with
    | none => rw [q] at e; cases e
    | some p =>
      rw [q] at e
      cases q2 : pys ds with
      | none =>
        have e' : (pys ds).map (p :: ·) = some _ := e
        rw [q2] at e'
        cases e'
      | some ps =>
        have e' : (pys ds).map (p :: ·) = some _ := e
        rw [q2] at e'
        cases e'
        unfold qds
        rw [qd_of q, qds_of q2]
end
theorem qds_get : ∀ {ps : List PyData} {i : Nat} {p : PyData}, ps[i]? = some p → (qds ps)[i]? = some (qd p)
  | [], _, _, e => by simp at e
  | _ :: _, 0, _, e => by
    have e' := Option.some.inj e
    subst e'
    rfl
  | _ :: ps, i + 1, p, e => by
    show (qds ps)[i]? = _
    exact qds_get (by simpa using e)
section
variable {X : Cx} {W : WX} {τ : Type} [Sto τ] {K : Fg}
structure MinC (p : PyData) (ps : List PyData) : Prop where
  ok : PySem.W.AlikeAll (p :: ps)
  dep : PyData.depthAll (p :: ps) ≤ 60
def rMinD (K : Fg) : List V → Hp → VK → Prop := fun vs H Q => ∃ (a : Addr) (xs : List V) (p : PyData) (ps : List PyData), vs = [V.ref a] ∧ SqL K H a xs ∧ DpAll K H xs (p :: ps) ∧ MinC p ps ∧ ∀ (i : Nat) (v : V), xs[i]? = some v → (p :: ps)[i]? = some (PySem.W.minD p ps) → Q v H
theorem vals_get : ∀ {xs : List V} {us : List Value} {i : Nat} {u : Value}, Vals xs us → us[i]? = some u → ∃ v, xs[i]? = some v ∧ RelV v u
  | _, _, _, _, .nil, h => by simp at h
  | _, _, 0, _, .cons r t, h => by
    have h' := Option.some.inj h
    subst h'
    exact ⟨_, rfl, r⟩
  | _, _, i + 1, _, .cons r t, h => by
    obtain ⟨v, e, q⟩ := vals_get (i := i) t (by simpa using h)
    exact ⟨v, by simpa using e, q⟩
theorem cr_minD (hc : X.calm = true) (hu : X.A.units + 64 < cLine) : CallR X (.builtin "min") (rMinD X.K) := by
  intro pins s σ H vs us Q I r h
  obtain ⟨a, xs, p, ps, rfl, hs, hd, hm, q⟩ := h
  obtain rfl := Vals.ref1 r
  obtain ⟨its, rv, hl, hz⟩ := I.list hs
  obtain ⟨as, ra⟩ := Dp.readsAll I (p :: ps) xs its hd rv
  have dep := hm.dep
  refine PySem.W.min_list_data (I.ok.hd hc) hl.isList ra hm.ok (by omega) fun i u h' tk bs hi hr hk => ?_
  have hi' : its[i]? = some u := by simpa using hi
  obtain ⟨v, hv, rvu⟩ := vals_get rv hi'
  obtain ⟨bs', rd, lt, _, _⟩ := PySem.W.readsAll_at ra i u hi'
  have e : (p :: ps).getD i .none = PySem.W.minD p ps := (Reads.unique (PySem.W.reads_keeps hk rd) _ _ hr).1
  refine ⟨v, H, I.kept hk, rvu, q i v hv ?_⟩
  rw [← e, List.getD_eq_getElem?_getD, List.getElem?_eq_getElem lt]
  rfl
open Classical in
noncomputable def fMinD : List D → Option D
  | [.lst ds] => (pys ds).bind fun ps => match ps with
    | [] => none
    | p :: ps => if MinC p ps then some (qd (PySem.W.minD p ps)) else none
  | _ => none
theorem reps_get {F : Fp} {H : Hp} : ∀ {vs : List V} {ds : List D} {i : Nat} {v : V} {d : D}, Reps K F H vs ds → vs[i]? = some v → ds[i]? = some d → Rep K F H v d
  | _, _, _, _, _, .nil, h, _ => by simp at h
  | _, _, 0, _, _, .cons r t, h, h' => by
    have e := Option.some.inj h
    have e' := Option.some.inj h'
    subst e e'
    exact r
  | _, _, i + 1, _, _, .cons r t, h, h' => reps_get (i := i) t (by simpa using h) (by simpa using h')
theorem c_minD : DCall K (rMinD K) fMinD := fun F0 F H xs ds z Q dm r q k => by
  unfold fMinD at q
  split at q
  · obtain ⟨v, rfl, r0⟩ := r.one
    obtain ⟨a, vs, rfl, h1, rs⟩ := r0.lstOf
    rename_i ds
    cases e : pys ds with
    | none => rw [e] at q; cases q
    | some ps =>
      rw [e, Option.bind_some] at q
      split at q
      · cases q
      · rename_i p ps
        split at q
        · rename_i hm
          cases q
          refine ⟨a, vs, p, ps, rfl, h1.sq, dps_of (F0 := F0) rs e, hm, fun i v hv hp => k _ _ (Same.refl H) ?_⟩
          have e2 := qds_get hp
          rw [qds_of e] at e2
          exact reps_get rs hv e2
        · cases q
  · cases q
def dIdx (es : List D) (e : D) : Option D := match pys es, py e with
  | some ps, some p => if SeqAt.shaped (.list ps) = true ∧ SeqAt.shaped p = true then (ps.findIdx? fun z => PyData.eqv z p).map fun j => .int (j : Nat) else none
  | _, _ => none
def eIdx (mo me : ME τ D) : ME τ D := fun ρ t => (mo ρ t).bind fun d t1 => match d with
  | .lst es => (me ρ t1).bind fun e t2 => opt (dIdx es e) t2
  | _ => .bad
theorem me_idx {o e : Expr} {mo me : ME τ D} {apos cpos : Pos} (hu : X.A.units + 65 < cLine) (ho : PE X o (tW X.K W mo)) (he : PE X e (tW X.K W me))
    (hbase : attributeBase o "index" X.env (eval o X.env) = eval o X.env := by rfl)
    (hfew : ((backTo cpos (starEach [e] X.env)).all (fun x => !x.1) && (backToKw cpos (keywordEach [] X.env)).all (fun x => x.1.isSome)
      && decide ([e].length + ([] : List Keyword).length + (if ([] : List Keyword).isEmpty then 0 else 1) < 30)) = true := by rfl)
    (hline : (apos.endLine == cpos.line) = true := by rfl) (hs : starEach [e] X.env = (false, eval e X.env) :: starEach [] X.env := by rfl) (hplain : (backTo cpos (starEach [] X.env)).any (·.1) = false := by rfl) :
    PE X (.Call (.Attribute o "index" apos) [e] [] cpos) (tE X.K W (eIdx mo me)) :=
  PE.imp (pe_bm PySem.F.plainAttrs_list PySem.F.slot_list_index PySem.F.type_list_index (mt_indexD hu) ho (pa_cons he pa_nil hs) hbase hfew hline hs hplain) fun σ H Q ⟨C, ρ, t, A, p⟩ => by
    refine use okE A p fun d t1 v H1 e1 s1 A1 r1 p1 => ?_
    cases d with
    | lst es =>
      obtain ⟨x, vs, rfl, h1, q1⟩ := r1.lstOf
      refine ⟨.inl ⟨rfl, vs, h1.sq⟩, ?_⟩
      refine use okE A1 p1 fun e t2 u H2 e2 s2 A2 r2 p2 => ?_
      have r1' := RepW.same r1 s2 (fun _ => Fo.base)
      unfold dIdx at p2
      split at p2
      · rename_i ps p e3 e4
        split at p2
        · rename_i hsh
          cases e5 : ps.findIdx? fun z => PyData.eqv z p with
          | none => rw [e5] at p2; exact p2.elim
          | some j =>
            rw [e5] at p2
            obtain ⟨hj, h3, h4⟩ := List.findIdx?_eq_some_iff_getElem.mp e5
            refine ⟨x, u, p, ps, j, ps[j], rfl, rfl, RepW.dp r1' (by simp only [py, e3]; rfl), RepW.dp r2 e4, hsh.1, hsh.2, List.getElem?_eq_getElem hj, h3, fun m z' hm hz => ?_, p2 _ H2 (Sm.refl _ _) A2.st (.int _)⟩
            have hml : m < ps.length := Nat.lt_trans hm hj
            rw [List.getElem?_eq_getElem hml] at hz
            cases hz
            have := h4 m hm
            simpa using this
        · exact p2.elim
      · exact p2.elim
    | _ => exact p1.elim
end
section
variable {τ : Type} {Q : D → τ → Prop} {X : Str → Fds → τ → Prop} {ρ : Rho} {t : τ}
@[simp] theorem oE_idx {mo me : ME τ D} : oE (eIdx mo me ρ t) Q X = oE (mo ρ t) (fun d t1 => ∃ es, d = .lst es ∧ oE (me ρ t1) (fun e t2 => ∃ z, dIdx es e = some z ∧ Q z t2) X) X := by
  unfold eIdx
  cases e1 : mo ρ t with
  | ok d t1 =>
    cases d with
    | lst es =>
      simp only [Res.bind_ok, oE_ok, D.lst.injEq, exists_eq_left']
      cases e2 : me ρ t1 with
      | ok e t2 => cases e3 : dIdx es e <;> simp [e3]
      | ex n fs t2 => simp
      | bad => simp
    | _ => simp
  | ex n fs t2 => simp
  | bad => simp
end
end MM

namespace MM
open PySem PySem.Spec PyProof.Rows L2
section
variable {X : Cx} {W : WX} {τ : Type} [Sto τ] {K : Fg}
def eChain (f g : D → D → Option D) (ma mb mc : ME τ D) : ME τ D := fun ρ t => (ma ρ t).bind fun x t1 => (mb ρ t1).bind fun y t2 => match f x y with
  | some (.bl true) => (mc ρ t2).bind fun w t3 => opt (g y w) t3
  | some (.bl false) => .ok (.bl false) t2
  | _ => .bad
theorem run3 {r r' : R2} {f g : D → D → Option D} {ma mb mc : ME τ D} {σ : L2.St} {H : Hp} {Q : VK} (o1 : DOp2 K r f) (o2 : DOp2 K r' g) (p : tE K W (eChain f g ma mb mc) σ H Q) : tChain r r' (tW K W ma) (tW K W mb) (tW K W mc) σ H Q := by
  obtain ⟨C, ρ, t, A, p⟩ := p
  refine use okE A p fun x t1 v H1 e1 s1 A1 r1 p1 => ?_
  refine use okE A1 p1 fun y t2 u H2 e2 s2 A2 r2 p2 => ?_
  have r1' := RepW.same r1 s2 (fun _ => Fo.base)
  cases e : f x y with
  | none => rw [e] at p2; exact p2.elim
  | some z =>
    rw [e] at p2
    cases z with
    | bl k =>
      refine o1 C.F _ H2 v u x y (.bl k) _ A2.dom r1' r2 e fun v' H3 sm rr => ?_
      cases rr
      refine ⟨k, rfl, ?_⟩
      cases k with
      | false => exact p2 (.bl false) H3 (Sm.of_same sm) (C.stay A2.st sm) (.bl _)
      | true =>
        have A3 := A2.next (Sm.of_same sm) (C.stay A2.st sm)
        rw [if_pos rfl]
        have p2' : Post rE K W C (Fo C.F ρ σ) σ H2 ((mc ρ t2).bind fun w t3 => opt (g y w) t3) Q := p2
        refine use okE A3 (Post.rebase okE p2' (Sm.of_same sm) fun _ => Fo.base) fun w t3 w' H4 e3 s3 A4 r3 p3 => ?_
        have r2' := RepW.same (RepW.same r2 (Sm.of_same sm) (fun _ => Fo.base)) s3 (fun _ => Fo.base)
        cases e5 : g y w with
        | none => rw [e5] at p3; exact p3.elim
        | some z =>
          rw [e5] at p3
          exact o2 C.F _ H4 u w' y w z Q A4.dom r2' r3 e5 fun v'' H5 sm5 rr5 => p3 v'' H5 (Sm.of_same sm5) (C.stay A4.st sm5) rr5
    | _ => exact p2.elim
end
end MM

namespace MM
open PySem PySem.Spec PyProof.Rows L2
section
variable {prog : Program} {w : World} {A : Around} {E : Value → Shared → Prop} {s : Shared}
end
section
variable {X : Cx} {τ : Type} [Sto τ] {K : Fg}
end
end MM

namespace MM
open PySem PySem.Spec PyProof.Rows L2
section
variable {X : Cx} {τ : Type} [Sto τ] {W : WX}
end
section
variable {τ : Type} {P : MM.Pt τ} {ρ : Rho} {t : τ}
end
end MM

namespace MM
open PySem PySem.Spec PyProof.Rows L2
section
variable {prog : Program} {w : World} {A : Around} {E : Value → Shared → Prop} {s : Shared}
end
section
variable {X : Cx}
variable {W : WX} {τ : Type} [Sto τ]
end
end MM

namespace MM
open PySem PySem.Spec PyProof.Rows L2
section
variable {X : Cx} {W : WX} {τ : Type} [Sto τ] {K : Fg}
end
section
variable {τ : Type} {Q : D → τ → Prop} {X : Str → Fds → τ → Prop} {ρ : Rho} {t : τ}
end
end MM

namespace MM
open PySem PySem.Spec PyProof.Rows L2
section
variable {X : Cx} {K : Fg}
theorem Reps.rep {F : Fp} {H : Hp} {vs : List V} {ds : List D} (r : Reps K F H vs ds) : ∀ k, Reps K F H (List.replicate k vs).flatten (List.replicate k ds).flatten
  | 0 => .nil
  | k + 1 => by
    rw [List.replicate_succ, List.replicate_succ, List.flatten_cons, List.flatten_cons]
    exact Reps.append r (Reps.rep r k)
variable {W : WX} {τ : Type} [Sto τ]
end
end MM

namespace MM
open PySem PySem.Spec PyProof.Rows L2
section
variable {X : Cx} {W : WX} {τ : Type} [Sto τ]
theorem mt_chain {op op' : CmpOp} {a b c : Expr} {r r' : R2} {f g : D → D → Option D} {ma mb mc : ME τ D} {pos : Pos} (ho : OpR X (compareOp op) r) (ho' : OpR X (compareOp op') r') (o1 : DOp2 X.K r f) (o2 : DOp2 X.K r' g) (ha : PE X a (tW X.K W ma)) (hb : PE X b (tW X.K W mb)) (hc : PE X c (tW X.K W mc))
    (hm : lastMarks [op, op'] [b, c] = false := by with_unfolding_all rfl) : PT X (.Compare a [op, op'] [b, c] pos) (tT X.K W (MM.e1 asB (eChain f g ma mb mc))) := by
  refine PT.imp (pt_chain ho ho' ha hb hc hm) fun σ H Q ⟨C, ρ, t, A, p⟩ => ?_
  refine run3 (K := X.K) (W := W) o1 o2 ?_
  refine use okB A p fun d t1 v H1 e1 s1 A1 r1 p1 => ?_
  cases d <;> first
    | exact p1.elim
    | (cases r1; exact ⟨_, rfl, p1 _ H1 (Sm.refl _ _) A1.st rfl⟩)
end
section
variable {τ : Type} {Q : D → τ → Prop} {X : Str → Fds → τ → Prop} {ρ : Rho} {t : τ}
theorem oE_eChain {f g : D → D → Option D} {ma mb mc : ME τ D} : oE (eChain f g ma mb mc ρ t) Q X = oE (ma ρ t) (fun x t1 => oE (mb ρ t1) (fun y t2 => (f x y = some (.bl true) ∧ oE (mc ρ t2) (fun w t3 => ∃ z, g y w = some z ∧ Q z t3) X) ∨ (f x y = some (.bl false) ∧ Q (.bl false) t2)) X) X := by
  unfold eChain
  rw [oE_bind]
  congr; funext x t1
  rw [oE_bind]
  congr; funext y t2
  cases e : f x y with
  | none => simp
  | some z =>
    cases z with
    | bl k =>
      cases k with
      | true =>
        dsimp only
        rw [oE_bind]
        simp
      | false => simp
    | _ => simp
end
end MM

namespace MM
open PySem PySem.Spec PyProof.Rows L2
section
variable {X : Cx} {W : WX} {τ : Type} [Sto τ]
end
section
variable {τ : Type} {Q : List D → τ → Prop} {X : Str → Fds → τ → Prop} {ρ : Rho} {t : τ}
end
end MM

namespace MM
open PySem PySem.Spec PyProof.Rows L2
section
variable {X : Cx} {W : WX} {τ : Type} [Sto τ] {K : Fg}
end
end MM

namespace MM
open PySem PySem.Spec PyProof.Rows L2
section
variable {J : It} {n : Nat} {G : Hp → Prop} {Y : Nat → Hp → V → Hp → Prop}
end
section
variable {X : Cx} {W : WX} {τ : Type} [Sto τ] {K : Fg}
end
section
variable {τ : Type} {Q : List D → τ → Prop} {X : Str → Fds → τ → Prop} {ρ : Rho} {t : τ} {vs vs1 : List Nat} {g g1 : Tgt} {tt tt1 : ME τ Bool} {mi mi1 : ME τ (List D)} {te : ME τ D}
end
end MM

namespace MM
open PySem PySem.Spec PyProof.Rows L2
section
variable {X : Cx} {W : WX} {τ : Type} [Sto τ] {K : Fg}
end
end MM

namespace MM
open PySem PySem.Spec PyProof.Rows L2
section
variable {K : Fg}
end
end MM

namespace MM
open PySem PySem.Spec PyProof.Rows L2
structure Nxr (it l : Addr) (S : Heap → Nat → Prop) (L : Heap → Prop) (xs : Array Value) : Prop where
  sat : ∀ {h h' : Heap} {i : Nat}, S h i → (∀ o, h.get? it = some o → h'.get? it = some o) → S h' i
  lat : ∀ {h h' : Heap}, L h → (∀ o, h.get? l = some o → h'.get? l = some o) → L h'
  lt : ∀ {h : Heap} {i : Nat}, S h i → it < h.objs.size
  item : ∀ {prog : Program} {w : World} {A : Around} {E : Value → Shared → Prop} {s : Shared} {i : Nat} {x : Value} {Q : Value → Shared → Prop}, S s.heap i → L s.heap → xs[i]? = some x →
    (∀ h', S h' (i + 1) → Heap.SameBut it s.heap h' → Q x { s with heap := h' }) → wpAny (model prog w) A (Builtin.SmallTypes.nextOf (.ref it)) Q E s
  stop : ∀ {prog : Program} {w : World} {A : Around} {E : Value → Shared → Prop} {s : Shared} {i : Nat} {Q : Value → Shared → Prop}, A.handled = none → S s.heap i → L s.heap → xs[i]? = none →
    (∀ h' e, Heap.ExtBut it s.heap h' → (∃ o, h'.get? e = some o ∧ o.cls = .type "StopIteration") → E (.ref e) { s with heap := h' }) → wpAny (model prog w) A (Builtin.SmallTypes.nextOf (.ref it)) Q E s
theorem Nxr.lst {it l : Addr} {xs : Array Value} : Nxr it l (fun h i => h.IsListIter it l i) (fun h => h.IsList l xs) xs :=
  ⟨fun a k => a.at k, fun a k => a.at k, fun a => by obtain ⟨_, e, _⟩ := a; exact Heap.lt_size e, fun a b c d => wpAny_nextOf_list_item a b c d, fun a b c d e => wpAny_nextOf_list_end a b c d e⟩
theorem Nxr.tup {it l : Addr} {xs : Array Value} : Nxr it l (fun h i => h.IsTupleIter it l i) (fun h => h.IsTuple l xs) xs :=
  ⟨fun a k => a.at k, fun a k => a.at k, fun a => by obtain ⟨_, e, _⟩ := a; exact Heap.lt_size e, fun a b c d => RZ.nextOf_tuple_item a b c d, fun a b c d e => RZ.nextOf_tuple_end a b c d e⟩
section
variable {it l : Addr} {S : Heap → Nat → Prop} {L : Heap → Prop} {xs : Array Value}
theorem Nxr.sx (N : Nxr it l S L xs) {h h' : Heap} {b : Addr} {i : Nat} (x : S h i) (e : Heap.ExtBut b h h') (d : it ≠ b) : S h' i := N.sat x fun o q => e _ o d q
theorem Nxr.lx (N : Nxr it l S L xs) {h h' : Heap} {b : Addr} (x : L h) (e : Heap.ExtBut b h h') (d : l ≠ b) : L h' := N.lat x fun o q => e _ o d q
end
section
variable {prog : Program} {w : World} {A : Around} {E : Value → Shared → Prop} {s : Shared} {z TI TO i1 i2 l1 l2 : Addr} {S1 S2 : Heap → Nat → Prop} {L1 L2 : Heap → Prop} {k1 k2 : Nat} {xs ys : Array Value} {x y a b : Value}
end
section
variable {prog : Program} {w : World} {A : Around} {E : Value → Shared → Prop} {s : Shared} {z TI TO i1 i2 l1 l2 : Addr} {S1 S2 : Heap → Nat → Prop} {L1 L2 : Heap → Prop} {k1 k2 : Nat} {xs ys : Array Value} {x y a b : Value}
end
section
variable {X : Cx} {W : WX} {τ : Type} [Sto τ] {K : Fg}
end
end MM

namespace MM
open PySem PySem.Spec PyProof.Rows L2
open ClX (CRead)
structure BaseX (K : Fg) (mg : Str → Option Value) (B : Str) : Prop where
  g : mg B = some (.ref (He.ga K B))
  r : CRead K (He.ga K B) (.type "type")
  v : PySem.W.findCls K (.ref (He.ga K B)) (.type "type") "__init__" = some (.val (.builtin "ValueError.__init__"))
theorem cBaseX_ok {K : Fg} {h : Heap} {mg : Str → Option Value} {B : Str} (X : K.In h) (G : h.Ns mainGlobals mg) (c : cBaseX B K = true) : BaseX K mg B := by
  obtain ⟨c1, c⟩ := He.ba c
  obtain ⟨c2, c⟩ := He.ba c
  obtain ⟨c3, c4⟩ := He.ba c
  refine ⟨He.glo_ok X G c1, ⟨c2, of_decide_eq_true c3⟩, ?_⟩
  split at c4
  · rename_i v e
    rw [e, eq_of_beq c4]
  · cases c4
structure OexX (K : Fg) (mg : Str → Option Value) (C : Str) (fs : List Str) : Prop where
  o : OexC K (He.ga K C)
  i : PySem.W.findIn K (.ref (He.ga K C)) "__init__" = some (some (.ref (He.ma K (He.ga K C) "__init__")))
  t : PySem.W.typeIn K (.ref (He.ma K (He.ga K C) "__init__")) = some (.type "function")
  n : ∀ f ∈ fs, PySem.W.findIn K (.ref (He.ga K C)) f = some none
  x : XfC K (He.ga K C)
  g : mg C = some (.ref (He.ga K C))
theorem oexB_ok {K : Fg} {C : Addr} (q : oexB K C = true) : ∃ nm qn N bs bm sn sub ab col dd k0 k1 k2 k3 k5, K.lookup C = some (excClassObj nm qn C N bs bm true sn sub ab col dd k0 k1 k2 k3 k5 "ValueError.__new__") ∧ PySem.HandSPX.refsVE bm = true := by
  unfold oexB at q
  split at q
  · rename_i dd cd sl ho
    split at q
    · rename_i C' bm k0 k1 k2 k3 n k5 hm hs
      simp only [Bool.and_eq_true, beq_iff_eq, Bool.not_eq_true'] at q
      obtain ⟨⟨⟨⟨rfl, rfl⟩, hdel⟩, hd⟩, hb⟩ := q
      obtain ⟨nm, bs, mro, ns, qn, hdi, sn, sub, ab, col, del⟩ := cd
      dsimp only at hm hdel hd
      subst hm hdel hd
      have hsl : sl = #[k0, k1, k2, k3, some (.builtin "ValueError.__new__"), k5] := by
        obtain ⟨l⟩ := sl
        simp only at hs
        rw [hs]
      subst hsl
      exact ⟨nm, qn, ns, bs, bm, sn, sub, ab, col, dd, k0, k1, k2, k3, k5, ho, hb⟩
    · cases q
  · cases q
theorem cOexX_ok {K : Fg} {h : Heap} {mg : Str → Option Value} {C : Str} {fs : List Str} (X : K.In h) (G : h.Ns mainGlobals mg) (c : cOexX C fs K = true) : OexX K mg C fs := by
  obtain ⟨c0, c⟩ := He.ba c
  obtain ⟨c1, c⟩ := He.ba c
  obtain ⟨c2, c⟩ := He.ba c
  obtain ⟨c3, c⟩ := He.ba c
  obtain ⟨c4, c⟩ := He.ba c
  obtain ⟨c5, c⟩ := He.ba c
  obtain ⟨c6, c⟩ := He.ba c
  obtain ⟨c7, c⟩ := He.ba c
  obtain ⟨c8, c9⟩ := He.ba c
  exact ⟨⟨oexB_ok c1, of_decide_eq_true c2, of_decide_eq_true c3, of_decide_eq_true c4, c5⟩, of_decide_eq_true c6, of_decide_eq_true c7, fun f hf => of_decide_eq_true (List.all_eq_true.mp c8 f hf), xfB_ok c9, He.glo_ok X G c0⟩
section
variable {X : Cx} {o e : Expr} {es : List Expr} {to te : TE} {ta : TA} {B f : Str} {p p' p1 p2 pos : Pos}
theorem pe_beinit {pl : Sem Bool} (b : BaseX X.K X.mg B) (hg : Gl X B) (ha : PA X (e :: es) ta) (hdb : (B == ("__debug__" : Str)) = false := by decide)
    (hc : eval (.Call (.Attribute (.Name B p1) "__init__" p2) (e :: es) [] pos) X.env = (do
      let ov ← eval (.Name B p1) X.env
      standAt p2.atName
      let (f, first) ← holding [ov] (getMethod ov "__init__" pl)
      callWith pos f first (backTo pos (starEach (e :: es) X.env)) (backToKw pos (keywordEach [] X.env))) := by rfl)
    (he : starEach (e :: es) X.env = (false, eval e X.env) :: starEach es X.env := by rfl) (hpl : (backTo pos (starEach es X.env)).any (·.1) = false := by rfl) :
    PE X (.Call (.Attribute (.Name B p1) "__init__" p2) (e :: es) [] pos) (tVeI X.K ta) := by
  refine ⟨fun pins s σ H Q I h => ?_⟩
  refine PySem.W.methodCall_KW (ld_glob I hg b.g ?_ hdb) hc
  refine PySem.W.method_cls I.kIn b.r.ga (PySem.W.cls_value I.kIn b.r.rd b.v (by decide +kernel) ?_)
  show wpAny _ _ (callWith pos (Value.builtin "ValueError.__init__") [] (backTo pos (starEach (e :: es) X.env)) []) _ _ _
  refine PyProof.Rows.callWith_method1 (thn (ha.run pos pins _ σ H _ (I.tok _) h) fun us s1 ⟨vs, H1, I1, r1, a, C, ws, ev, hl, T, ea, q⟩ => ?_) he hpl
  subst ev
  cases r1 with
  | @cons _ u0 _ ur ra rw' =>
    obtain rfl : u0 = Value.ref a := ra
    have hlen : ur.length ≤ sizeLine := by
      rw [← Paired.length rw', sizeLine_eq]
      omega
    exact oinit_ok T I1 ea hlen fun s' J => ⟨.non, H1, J, rfl, q⟩
end
def spX (C : Addr) (fs : List Str) (ok : List V → Prop) : Sp := fun vs H Q _ => ∃ a xs, vs = .ref a :: xs ∧ xs.length = fs.length ∧ ok xs ∧ H a = some (L2.exo a C none) ∧
  ∀ d, H d = none → d ≠ a → Q .non (upd (upd H d (L2.exd d (fs.zip xs).reverse)) a (L2.exo a C (some d)))
structure ExD (P : Program) (w : World) (K : Fg) (mg : Str → Option Value) (base : Heap) (C : Str) (fs : List Str) (ok : List V → Prop) : Prop where
  f : OexX K mg C fs
  ex : ∃ fd ps, FnOk P w K mg base (L2.CX P w) 1 (He.ma K (He.ga K C) "__init__") fd ps (spX (He.ga K C) fs ok) ∧ Binds K fd ps []
theorem zip_rev {α β : Type} : ∀ {xs : List α} {ys : List β}, xs.length = ys.length → (xs.zip ys).reverse = xs.reverse.zip ys.reverse
  | [], [], _ => rfl
  | x :: xs, y :: ys, h => by
    rw [List.length_cons, List.length_cons] at h
    rw [List.zip_cons_cons, List.reverse_cons, zip_rev (by omega), List.reverse_cons, List.reverse_cons, List.zip_append (by rw [List.length_reverse, List.length_reverse]; omega)]
    rfl
theorem upd_made {H1 : Hp} {C a d : Addr} {fs : List (Str × V)} (na : H1 a = none) : upd (del (upd (upd (upd H1 a (L2.exo a C none)) d (L2.exd d fs)) a (L2.exo a C (some d))) a) d (.xd fs) = upd H1 d (.xd fs) := by
  funext b
  by_cases hb1 : b = d
  · rw [hb1, upd_same, upd_same]
  · rw [upd_ne hb1, upd_ne hb1]
    by_cases hb2 : b = a
    · rw [hb2, del_same, na]
    · rw [del_ne hb2, upd_ne hb2, upd_ne hb1, upd_ne hb2]
section
variable {X : Cx} {W : WX} {τ : Type} [Sto τ] {K : Fg}
def sRaiseX (C : Str) (fs : List Str) (ok : List D → Bool) (ma : ME τ (List D)) : MS τ := sDo ma fun ds ρ t => if ds.length = fs.length ∧ fs.length ≤ 9 ∧ ok ds = true then .ex C (some (fs.reverse, ds.reverse)) ρ t else .bad
theorem ms_raiseX {C : Str} {fs : List Str} {okv : List V → Prop} {ok : List D → Bool} {e : Expr} {es : List Expr} {p p2 pos : Pos} {ma : ME τ (List D)} (hc : X.calm = true) (tk : Takes X W) (E : ExD X.prog X.w X.K X.mg X.base C fs okv) (hr : Room 2 X.A) (hg : Gl X C) (ha : PA X (e :: es) (tA X.K W ma))
    (hok : ∀ {F : Fp} {H : Hp} {vs : List V} {ds : List D}, Reps X.K F H vs ds → ok ds = true → okv vs) (hdb : (C == ("__debug__" : Str)) = false := by decide)
    (he : starEach (e :: es) X.env = (false, eval e X.env) :: starEach es X.env := by rfl) (hpl : (backTo p2 (starEach es X.env)).any (·.1) = false := by rfl) :
    PS X (.Raise (some (.Call (.Name C p) (e :: es) [] p2)) none pos) (tS X.K W (sRaiseX C fs ok ma)) := by
  obtain ⟨fd, ps, F1, hb⟩ := E.ex
  refine PS.imp (ps_raise hc tk (pmk_oex (p := p) E.f.o E.f.i E.f.t F1 hr hb .nil (passes_call (E := fun _ _ _ => False) tk fun _ _ _ _ h => h.elim) hg E.f.g ha hdb he hpl)) fun D σ H ⟨C0, ρ, t, A, q⟩ => ?_
  refine useS A q fun ds t1 vs H1 e1 s1 A1 r1 q1 => ?_
  split at q1
  · rename_i hk
    obtain ⟨h1, h2, h3⟩ := hk
    have hv := r1.length
    refine ⟨by omega, fun a na => ?_⟩
    rw [List.append_nil]
    refine ⟨a, vs, rfl, by omega, hok r1 h3, upd_same, fun d hd ne => ⟨rfl, d, (fs.zip vs).reverse, upd_same, ?_, ?_, ?_⟩⟩
    · rw [upd_ne ne, upd_same]
    · rw [upd_ne ne] at hd; exact hd
    · have hd1 : H1 d = none := by rw [upd_ne ne] at hd; exact hd
      rw [upd_made na]
      have sm : ∀ F : Fp, Sm F H1 (upd H1 d (.xd (fs.zip vs).reverse)) := fun F b o _ e => by rw [upd_ne (fun z => by rw [z, hd1] at e; cases e)]; exact e
      have A2 := A1.next (sm _) (C0.stay A1.st (fun b o e => sm (fun _ => False) b o (fun z => z) e))
      refine q1 _ _ σ _ ⟨fun b o n e => sm (fun _ => False) b o (fun z => z) e, fun b h => .inl h⟩ A2 ⟨rfl, d, vs.reverse, rfl, ?_, ?_, ?_⟩
      · rw [upd_same]
        rw [zip_rev (by omega)]
      · rw [List.length_reverse, List.length_reverse]; omega
      · exact (Reps.rev r1).step ⟨sm _, fun b h => .inl h⟩
  · exact q1.elim
end
theorem exd_one {P : Program} {w : World} {K : Fg} {mg : Str → Option Value} {base : Heap} {C qual f1 : Str} {params : Arguments} {body : List Stmt} {scope : Scope} {fd : FuncData} {N ps : List Str} {ok : List V → Prop} {ta : TA}
    (f : OexX K mg C [f1]) (F : FunD K "__init__" qual params body scope [] [] (He.ma K (He.ga K C) "__init__") fd) (S : FnScope N ps scope) (hps : ps.length = 2) (hN : N.length = 2) (hbi : Binds K fd ps [])
    (hta : ∀ a x H Q, ok [x] → (∀ z, Q [.ref a, .str z] H) → ta [some (.ref a), some x] H Q)
    (hb : ∀ (cdv : Value) (A : Around) (outer : List Env) (s : Shared) (H : Hp) (E : XK), Room 0 (A.deeper (envOfC qual scope s.heap.objs.size (He.ma K (He.ga K C) "__init__") cdv)) →
      PSs (cxOf (L2.CX P w) P w K mg base N qual scope (He.ma K (He.ga K C) "__init__") cdv A outer s H E) body (tSeq (tDrop (tVeI K ta)) (tOst K f1 (tVar 0) (tVar 1)))) : ExD P w K mg base C [f1] ok := by
  refine ⟨f, fd, ps, F.ok S (fun vs H Q E ⟨a, xs, e, h, _⟩ => by rw [e, List.length_cons, h, hps]; rfl) fun cdv A outer s H vs Q E hr ⟨a, xs, e, h1, h2, h3, h4⟩ => ⟨_, hb cdv A outer s H E hr, ?_⟩, hbi⟩
  match xs, h1 with
  | [x], _ =>
    subst e
    have st : L2.start N [.ref a, x] = [some (.ref a), some x] := by unfold L2.start; rw [hN]; rfl
    rw [st]
    show ta _ _ _
    refine hta a x H _ h2 fun z => ⟨a, He.ga K C, [.str z], rfl, by simp, f.o, h3, ?_⟩
    refine ⟨x, rfl, .ref a, rfl, a, He.ga K C, rfl, f.o, f.n f1 (by simp), .inl ⟨h3, fun dx n ne => ?_⟩⟩
    exact h4 dx n ne
section
variable {X : Cx} {W : WX} {τ : Type} [Sto τ] {K : Fg}
def fXf (f : Str) : Fds → Option D
  | some (ns, ds) => (ns.zip ds).lookup f
  | none => none
theorem zip_look {F : Fp} {H : Hp} {f : Str} {d : D} : ∀ {ns : List Str} {vs : List V} {ds : List D}, Reps K F H vs ds → (ns.zip ds).lookup f = some d → ∃ v, (ns.zip vs).lookup f = some v ∧ Rep K F H v d
  | [], _, _, _, e => by cases e
  | _ :: _, _, _, .nil, e => by cases e
  | n :: ns, _, _, .cons (v := v) (d := d') r rs, e => by
    rw [List.zip_cons_cons, List.lookup_cons] at e
    rw [List.zip_cons_cons, List.lookup_cons]
    split at e
    · cases e; exact ⟨_, rfl, r⟩
    · exact zip_look rs e
theorem xf_ok {a : Addr} {cls : Value} {dd : Option Addr} {fs : Fds} {F : Fp} {σ : St} {H : Hp} {d : D} {Q : VK} {i : Nat} {n0 f : Str} (hσ : σ[i]? = some (some (.ref a))) (x : XRep K F H n0 fs cls dd) (h : fXf f fs = some d) (q : ∀ v, Rep K F H v d → Q v H) : tXf a cls dd (He.ga K n0) f (tVar i) σ H Q := by
  obtain ⟨ec, x⟩ := x
  cases fs with
  | none => cases h
  | some p =>
    obtain ⟨ns, ds⟩ := p
    obtain ⟨ad, vs, h1, h2, h3, h4⟩ := x
    obtain ⟨v, hv, rv⟩ := zip_look h4 h
    exact ⟨_, hσ, rfl, ec, ad, _, v, h1, h2, hv, q v rv⟩
end
end MM
namespace MM
open PySem PySem.Spec PyProof.Rows L2
theorem cat_str {K : Fg} {u v : Str} {H : Hp} {Q : VK} (h : u.length + v.length ≤ 16777216) (q : Q (.str (u ++ v)) H) : rAdd4 K (.str u) (.str v) H Q := .inr (.inl ⟨u, v, rfl, rfl, h, q⟩)
section
variable {τ : Type} {P : Pt τ} {ρ : Rho} {t : τ}
@[simp] theorem oS_raiseX {C : Str} {fs : List Str} {ok : List D → Bool} {ma : ME τ (List D)} : oS (sRaiseX C fs ok ma ρ t) P = oE (ma ρ t) (fun ds t => (ds.length = fs.length ∧ fs.length ≤ 9 ∧ ok ds = true) ∧ P.ex C (some (fs.reverse, ds.reverse)) ρ t) (fun n f t => P.ex n f ρ t) := by
  unfold sRaiseX
  rw [oS_do]
  congr
  funext ds t
  by_cases h : ds.length = fs.length ∧ fs.length ≤ 9 ∧ ok ds = true
  · rw [if_pos h]; simp only [h, and_self, true_and]; rfl
  · rw [if_neg h]; simp only [h, false_and]; rfl
end
end MM

namespace MM
open PySem PySem.Spec PyProof.Rows L2
section
variable {prog : Program} {w : World} {A : Around} {P : Nat → Value → Prop}
end
section
variable {prog : Program} {w : World} {A : Around} {E : Value → Shared → Prop} {s : Shared} {x y : Str} {t u : Tok} {Q : Value → Shared → Prop}
end
section
variable {X : Cx} {K : Fg}
end
end MM
namespace PySem.W
open PySem PySem.Spec PySem.Calls PyProof.Rows
section
variable {prog : Program} {w : World} {A : Around} {E : Value → Shared → Prop} {s : Shared} {K : Frag} {x D : Addr} {ox : Obj} {od : Option Obj}
theorem mm_classE {Q : Option Value → Shared → Prop} (C : L2.ExcC K D) (X : K.In s.heap) (I : InstAt s.heap x ox D od) (h : Q (some (.ref D)) { s with toks := s.toks + 1 }) : wpAny (model prog w) A (getAttr? (.ref x) "__class__") Q E s := by
  have hf : findObj K D od "__class__" = some (.bind (.builtin "getset_descriptor.__get__") (.builtin "object.__class__")) := by
    obtain ⟨cd, hc, _⟩ := any_some C.hd
    unfold findObj
    rw [hc, Option.bind_some, C.ha, Option.bind_some]
    simp [C.hn, C.ht]
  obtain ⟨hp, g, d, t, os⟩ := s
  have l0 := I.type (M := model prog w)
  have no : (Value.builtin "BaseException.__getattribute__" == Value.builtin "object.__getattribute__") = false := by decide +kernel
  unfold getAttr? getAttrBy? getAttrBy
  refine wpAny_bind (wpAny_mkText (wpAny_bind (wpAny_attempt (wpAny_holding (wpAny_bind (l0.at (wpAny_bind ((looks_findIn (M := model prog w) X C.hg).at ?_))))))))
  show wpAny _ _ (if (onTheHeap (Value.ref D) && Value.builtin "BaseException.__getattribute__" == Value.builtin "object.__getattribute__") = true then _ else _) _ _ _
  rw [no, Bool.and_false, if_neg Bool.false_ne_true]
  unfold getAttrByItsOwn hookBefore
  rw [if_pos (show onTheHeap (Value.ref D) = true from rfl)]
  refine wpAny_bind ((looks_findIn (M := model prog w) X C.hk).at (wpAny_bind (wpAny_attempt (wpAny_holding ?_))))
  unfold callGetattribute
  rw [show (false && onTheHeap (Value.builtin "BaseException.__getattribute__")) = false from rfl, if_neg Bool.false_ne_true]
  unfold boundAndCalled
  rw [PySem.F.excAttr_ValueError.ga.bind (.ref x)]
  refine wpAny_bind (wpAny_pure ?_)
  show wpAny _ _ (call (.builtin "BaseException.__getattribute__") [.ref x, .str "__class__" t]) _ _ _
  refine wpAny_call (codeAny_call_builtin PySem.F.excAttr_ValueError.ga.plain PySem.F.entry_bexc_ga (@check_slot (model prog w) _ _ ⟨hp, g, d, t + 1, os⟩ "BaseException.__getattribute__" "BaseException" "__getattribute__" (.ref x) [.str "__class__" t] [] _ (by decide +kernel) (by decide +kernel)
    (l0.andThen (looks_subIn X C.hs)) (PySem.F.args_bexc_ga (.ref x) (.str "__class__" t)) ?_))
  unfold Builtin.«object.__getattribute__»
  refine wpAny_bind (wpAny_of_eq (a := ((Value.ref x : Value), [Value.str "__class__" t])) (by first | rfl | (simp only [slotArgs]; rfl)) ?_)
  refine wpAny_bind (wpAny_pure (wpAny_bind (l0.at (wpAny_bind ((looks_find (M := model prog w) X I hf).at ?_)))))
  show wpAny _ _ (holding [Value.builtin "object.__class__"] (call (.builtin "getset_descriptor.__get__") [.builtin "object.__class__", .ref x, .ref D]) >>= ret) _ _ _
  refine wpAny_bind (wpAny_holding (wpAny_call (class_get (s := ⟨hp, g, d, t + 1, os⟩) (ox := ox) (od := od) X I C.hm (wpAny_pure ?_))))
  show wpAny _ _ (handedOut (.ref D)) _ _ _
  rw [handedOut_of (v := .ref D) rfl]
  first
    | exact wpAny_pure (wpAny_pure h)
    | exact wpAny_pure h
    | exact wpAny_pure (wpAny_bind (wpAny_pure (wpAny_pure h)))
theorem mm_lk (C : L2.ExcC K D) : ∃ cc dd cd sl, K.lookup D = some ⟨cc, dd, .cls cd, sl⟩ := by
  obtain ⟨cdD, hcD, _⟩ := any_some C.hd
  unfold clsIn at hcD
  split at hcD
  · rename_i c' d' cd' sl' ho
    exact ⟨_, _, _, _, ho⟩
  · cases hcD
theorem mm_kitx (C : L2.ExcC K D) : KitX K (.ref x) (.ref D) (fun h => InstAt h x ox D od) where
  ty := fun _ _ _ I => I.type
  it := fun _ _ X _ => by
    obtain ⟨_, _, _, _, ho⟩ := mm_lk C
    intro A' Q' E' s' k q
    unfold isType loadHead
    exact wpAny_bind (wpAny_loadPart (k _ _ (X _ _ ho)) (wpAny_pure q))
  ne := fun h tp dd its n sl X htp => by
    obtain ⟨_, _, _, _, ho⟩ := mm_lk C
    refine Bool.eq_false_iff.mpr fun q => ?_
    have e : D = tp := Value.ref.inj (beq_iff_eq.mp q)
    subst e
    have z := (X _ _ ho).symm.trans htp
    cases z
  ca := fun X I k => mm_classE C X I k
end
end PySem.W
namespace MM
open PySem PySem.Spec PyProof.Rows L2
section
variable {X : Cx} {a D : Addr} {oe : Obj} {cls : Value} {d : Option Addr} {pn : List (Addr × Obj)}
def IsX (a : Addr) (cls : Value) (d : Option Addr) (D : Addr) (H : Hp) : Prop := cls = .ref D ∧ ∃ (dd : Addr) (fs : List (Str × V)), d = some dd ∧ H dd = some (.xd fs)
theorem IsX.inst {pins : List (Addr × Obj)} {σ : St} {H : Hp} {s : Shared} (hz : Zc cls d oe) (hf : ∃ vs, oe.data = .fields vs) (I : Inv (X.suite a ((a, oe) :: pn)) pins σ H s) (h : IsX a cls d D H) : ∃ od, PySem.W.InstAt s.heap a oe D (some od) := by
  obtain ⟨rfl, dd, fs, rfl, ea⟩ := h
  obtain ⟨ha, _⟩ := I.pin (a, oe) (List.mem_append_left _ List.mem_cons_self)
  obtain ⟨vs, hd⟩ := hf
  have hx : ObjOk X.prog X.w H s.heap dd (.xd fs) := I.hok dd _ ea
  obtain ⟨mA, hns, hr⟩ := hx
  obtain ⟨od, ho, hl⟩ := lookIn_ns hns
  exact ⟨od, ha, hz.1, by unfold PySem.W.notCls; rw [hd] <;> rfl, by rw [hz.2]; exact ho⟩
def rIsX (K : Fg) (D a : Addr) (cls : Value) (d : Option Addr) : List V → Hp → VK → Prop := fun xs H Q => IsX a cls d D H ∧ ((∃ (c : V) (cv : Value) (b : Bool), xs = [.ref a, c] ∧ (∀ u, RelV c u → u = cv) ∧ PySem.W.kitOne K (.ref D) cv = some b ∧ Q (.bl b) H) ∨
  ∃ (tp A1 A2 : Addr) (b : Bool), xs = [.ref a, .ref tp] ∧ SqT K H tp [.ref A1, .ref A2] ∧ PySem.W.kitAny K (.ref D) [.ref A1, .ref A2] = some b ∧ Q (.bl b) H)
theorem call_isX (C : ExcC X.K D) (hz : Zc cls d oe) (hf : ∃ vs, oe.data = .fields vs) : CallR (X.suite a ((a, oe) :: pn)) (.builtin "isinstance") (rIsX X.K D a cls d) := by
  intro pins s σ H xs us Q I r h
  obtain ⟨hi, h⟩ := h
  obtain ⟨od, J⟩ := hi.inst hz hf I
  rcases h with ⟨c, cv, b, rfl, hcv, e, q⟩ | ⟨tp, A1, A2, b, rfl, ht, e, q⟩
  · cases r with
    | cons rx rr =>
      cases rr with
      | cons rt rr =>
        cases rr
        cases rx
        have ec := hcv _ rt
        subst ec
        exact PySem.W.kia_one (PySem.W.mm_kitx C) I.kIn J e (fun z => nomatch z) fun tk => ⟨.bl b, H, I.kept (t' := tk) fun _ _ z => z, rfl, q⟩
  · cases r with
    | cons rx rr =>
      cases rr with
      | cons rt rr =>
        cases rr
        cases rx
        cases rt
        obtain ⟨its, rv, p, _⟩ := I.tuple ht
        obtain ⟨⟨oc, odd, oda, osl⟩, ho, hc, n, hd⟩ := p
        simp only at hc hd
        subst hc hd
        have e2 : its = [.ref A1, .ref A2] := by
          cases rv with
          | cons r1 rv =>
            cases rv with
            | cons r2 rv =>
              cases rv
              cases r1
              cases r2
              rfl
        subst e2
        exact PySem.W.kia_tup (PySem.W.mm_kitx C) I.kIn J ho e (fun z => nomatch z) fun tk => ⟨.bl b, H, I.kept (t' := tk) fun _ _ z => z, rfl, q⟩
end
end MM

namespace MM
open PySem PySem.Spec PyProof.Rows L2
section
variable {X : Cx} {a D : Addr} {oe : Obj} {cls : Value} {d : Option Addr} {pn : List (Addr × Obj)} {i : Nat}
theorem isx_one {b : Bool} {c : V} {cv : Value} {p pos : Pos} {e1 e2 : Expr} (EC : ExcC X.K D) (hz : Zc cls d oe) (hf : ∃ vs, oe.data = .fields vs) (hg : Gl (X.suite a ((a, oe) :: pn)) "isinstance") (hm : X.mg "isinstance" = none)
    (h1 : PE (X.suite a ((a, oe) :: pn)) e1 (tVar i)) (h2 : PE (X.suite a ((a, oe) :: pn)) e2 (tC c)) (hc : ∀ u, RelV c u → u = cv) (hk : PySem.W.kitOne X.K (.ref D) cv = some b)
    (hst : starEach [e1, e2] (X.suite a ((a, oe) :: pn)).env = (false, eval e1 (X.suite a ((a, oe) :: pn)).env) :: starEach [e2] (X.suite a ((a, oe) :: pn)).env := by rfl) (hst2 : starEach [e2] (X.suite a ((a, oe) :: pn)).env = (false, eval e2 (X.suite a ((a, oe) :: pn)).env) :: starEach [] (X.suite a ((a, oe) :: pn)).env := by rfl)
    (hpl : (backTo pos (starEach [e2] (X.suite a ((a, oe) :: pn)).env)).any (·.1) = false := by rfl) :
    PE (X.suite a ((a, oe) :: pn)) (.Call (.Name "isinstance" p) [e1, e2] [] pos) (fun σ H Q => σ[i]? = some (some (.ref a)) ∧ IsX a cls d D H ∧ Q (.bl b) H) :=
  PE.imp (pe_callB (call_isX EC hz hf) hg hm (by decide +kernel) (pa_cons h1 (pa_cons h2 pa_nil hst2) hst) (by decide) (by decide) hst hpl) fun σ H Q ⟨e, hi, q⟩ => ⟨_, e, hi, .inl ⟨c, cv, b, rfl, hc, hk, q⟩⟩
end
def fXb (b : Bool) : Fds → Option D
  | some _ => some (.bl b)
  | none => none
end MM

namespace MM
open PySem PySem.Spec PyProof.Rows L2
open L2H (RoomH PinOk cxH inv_startH)
structure Ec (dd : Addr) where
  fs : List (Str × V)
instance {dd : Addr} : Sto (Ec dd) where
  ok := fun _ C => ∀ t G H, C.Iv t G H → H dd = some (.xd t.fs)
  cmp := fun _ _ _ _ _ h t G H i => h t G H i.1
  ov := fun _ _ _ _ _ _ h t G H i => h t G H i.1
  lend := fun _ _ _ _ _ _ h t G H i => h t _ H i.1
section
variable {X : Cx} {W : WX} {K : Fg} {a D dd : Addr} {oe : Obj}
end
section
variable {dd a : Addr} {i : Nat} {b : Bool} {ρ : Rho} {t : Ec dd} {Q : D → Ec dd → Prop} {X : Str → Fds → Ec dd → Prop}
end
structure FnB (P : Program) (w : World) (K : Fg) (mg : Str → Option Value) (base : Heap) (CX : CXT) (p : Addr × Obj) (k : Nat) (f : Addr) (fd : FuncData) (ps : List Str) (sp : Sp) : Prop where
  len : ∀ vs H Q E, sp vs H Q E → vs.length = ps.length
  run : ∀ (A : Around) (outer : List Env) (s : Shared) (H : Hp) (args : Args) (us : List Value) (vs : List V) (Q : VK) (E : XK), RoomH k A → PinOk outer H s p → Env0 P w K mg base A outer s H → BindsTo s fd args (ps.zip us) → Vals vs us → sp vs H Q E →
    codeAny (model P w) A (.call (.ref f) args) (CR CX outer P w H s Q E) s
theorem fnB_of {P : Program} {w : World} {K : Fg} {mg : Str → Option Value} {base : Heap} {CX : CXT} {p : Addr × Obj} {x qual : Str} {params : Arguments} {body : List Stmt} {scope : Scope} {dvs : List V} {kws : List (Str × V)} {f : Addr} {fd : FuncData} {N ps : List Str} {k : Nat} {sp : Sp}
    (F : FunD K x qual params body scope dvs kws f fd) (S : FnScope N ps scope) (len : ∀ vs H Q E, sp vs H Q E → vs.length = ps.length)
    (hbody : ∀ (cdv : Value) (A : Around) (outer : List Env) (s : Shared) (H : Hp) (vs : List V) (Q : VK) (E : XK), RoomH k (A.deeper (envOfC qual scope s.heap.objs.size f cdv)) → sp vs H Q E →
      ∃ t, PSs (cxH CX P w K mg base N qual scope f cdv A outer s H E p) body t ∧ t { nx := fun _ H' => Q .non H', rt := Q } (L2.start N vs) H) : FnB P w K mg base CX p (k + 1) f fd ps sp := by
  obtain ⟨oc, od, dV, kV, doc, pm, an, cdv, ct, osl, rfl, lk, hcd, _, _⟩ := F.ex
  refine ⟨len, fun A outer s H args us vs Q E hr hpin e0 hb r hsp => ?_⟩
  have up : ∀ b o, base.get? b = some o → s.heap.get? b = some o := fun b o e => (e0.bs b o e).1
  have KX : K.In s.heap := e0.mod.kin.keeps up
  refine codeAny_call_function hr.depth (KX _ _ lk) rfl S.co S.gen rfl (PySem.W.codeRec_of KX hcd) (hb _ _ _ _ ?_)
  refine wpAny_newFunctionEnv_cells S.kind (fun ⟨n, v⟩ hy => ?_) fun env he s1 xx => ?_
  · rcases S.par n (List.of_mem_zip hy).1 with q | q
    · exact .inl q
    · exact .inr ⟨q, PySem.W.cellsFrom_some _ _ _ (.inl q)⟩
  subst he
  refine ⟨(e0.mod.nolimit.keeps up).keeps xx.toInCall.keep, codeAny_func ?_⟩
  obtain ⟨t, ht, hq⟩ := hbody cdv A outer s H vs Q E (hr.deeper _) hsp
  have I := inv_startH (CX := CX) (E := E) S hpin e0 (len _ _ _ _ hsp) r xx
  refine wpAny_mono (ht.run [] s1 (L2.start N vs) H _ I hq) (fun fl s' hs => ?_) fun e s' hs => hs
  cases fl with
  | ret u =>
    obtain ⟨v, σ', H', J, rv, q⟩ := hs
    exact ⟨v, H', J.os, J.bare, J.base, J.hok, rv, q⟩
  | next =>
    obtain ⟨σ', H', J, q⟩ := hs
    exact ⟨V.non, H', J.os, J.bare, J.base, J.hok, rfl, q⟩
  | brk => exact hs.elim fun _ h => h.elim fun _ h => h.2.elim
  | cont => exact hs.elim fun _ h => h.elim fun _ h => h.2.elim
section
variable {X : Cx} {CX : CXT} {k : Nat} {f : Addr} {fd : FuncData} {ps : List Str} {sp : Sp} {E : St → XK} {x : Str} {q pos : Pos} {e : Expr} {es : List Expr} {t : TA} {p : Addr × Obj}
end
structure DefB (P : Program) (w : World) (K : Fg) (mg : Str → Option Value) (base : Heap) (p : Addr × Obj) (k : Nat) (x : Str) (dd : Addr) (m : List D → Ec dd → Res (Ec dd) D) : Prop where
  ex : ∃ (fd : FuncData) (ps : List Str), FnB P w K mg base (L2.CX P w) p k (He.ga K x) fd ps (spF 1 K m) ∧ mg x = some (.ref (He.ga K x)) ∧ PySem.W.keepIn K (.ref (He.ga K x)) = true ∧ Binds K fd ps []
theorem DefB.mk' {P : Program} {w : World} {K : Fg} {mg : Str → Option Value} {base : Heap} {p : Addr × Obj} {dd : Addr} {x : Str} {params : Arguments} {body : List Stmt} {scope : Scope} {fd : FuncData} {N ps : List Str} {k : Nat}
    (F : FunD K x x params body scope [] [] (He.ga K x) fd) (g : mg x = some (.ref (He.ga K x))) (S : FnScope N ps scope) (hps : ps.length = 1) (hb : Binds K fd ps []) (mb : MS (Ec dd))
    (hbd : ∀ (cdv : Value) (A : Around) (outer : List Env) (s : Shared) (H : Hp) (E : XK), RoomH k (A.deeper (envOfC x scope s.heap.objs.size (He.ga K x) cdv)) →
      PSs (cxH (L2.CX P w) P w K mg base N x scope (He.ga K x) cdv A outer s H E p) body (tS K (fun cls d _ H => E cls d H) mb)) : DefB P w K mg base p (k + 1) x dd (runB N.length mb) := by
  have hpl : ps.length ≤ N.length := by have := congrArg List.length S.pre; rw [List.length_take] at this; omega
  refine ⟨fd, ps, fnB_of F S (fun vs H Q E ⟨C, ds, t, _, _, r, hl, _⟩ => r.length.trans (hl.trans hps.symm)) fun cdv A outer s H vs Q E hr ⟨C, ds, t, okC, iv, r, hl, p⟩ => ⟨_, hbd cdv A outer s H E hr, C, _, t, At.start okC iv r (by rw [hl, ← hps]; exact hpl), ?_⟩, g, F.kp, hb⟩
  unfold runB at p
  cases e : mb (ds.map Slot.val ++ List.replicate (N.length - ds.length) .no) t with
  | nx ρ' t' =>
    rw [e] at p
    exact fun σ' H' s' A' => p .non H' (fun b o n e => s'.keep b o (fun z => n (FoStart z)) e) (C.less A'.st fun _ => .inl) .non
  | rt d t' =>
    rw [e] at p
    exact fun v H' s' i r => p v H' (fun b o n e => s' b o (fun z => n (FoStart z)) e) i r
  | ex n fs ρ' t' =>
    rw [e] at p
    exact fun cls dd σ' H' s' A' x => p cls dd H' (fun b o n e => s'.keep b o (fun z => n (FoStart z)) e) (C.less A'.st fun _ => .inl) (x.anti fun _ => .inl)
  | bk ρ' t' => rw [e] at p; exact p.elim
  | ct ρ' t' => rw [e] at p; exact p.elim
  | bad => rw [e] at p; exact p.elim
section
variable {X : Cx} {W : WX} {a dd : Addr} {oe : Obj}
end
section
variable {X : Cx} {W : WX} {τ : Type} [Sto τ] {K : Fg}
end
section
variable {τ : Type} {Q : D → τ → Prop} {X : Str → Fds → τ → Prop} {ρ : Rho} {t : τ}
end
end MM

namespace MM
open PySem PySem.Spec PyProof.Rows L2
open L2H (RoomH PinOk cxH inv_startH roomH_of)
abbrev FX := Fds → Option D
def TeOk (K : Fg) (n0 : Str) (i : Nat) (hf : FX) (te : Addr → Value → Option Addr → TE) : Prop :=
  ∀ {a : Addr} {cls : Value} {dd : Option Addr} {fs : Fds} {F : Fp} {σ : St} {H : Hp} {d : D} {Q : VK}, σ[i]? = some (some (.ref a)) → XRep K F H n0 fs cls dd → hf fs = some d → Dom F H → (∀ v H', Same H H' → Rep K F H' v d → Q v H') → te a cls dd σ H Q
def SuS (X : Cx) (n0 : Str) (i : Nat) (b : Stmt) (j : Nat) (hf : FX) : Prop := ∃ te : Addr → Value → Option Addr → TE,
  (∀ (a : Addr) (oe : Obj) (cls : Value) (d : Option Addr) (pn : List (Addr × Obj)), Zc cls d oe → (∃ vs, oe.data = .fields vs) → PS (X.suite a ((a, oe) :: pn)) b (tAsg (te a cls d) (gName j))) ∧ TeOk X.K n0 i hf te
theorem SuS.mk {X : Cx} {n0 : Str} {i j : Nat} {b : Stmt} {hf : FX} {te : Addr → Value → Option Addr → TE}
    (h1 : ∀ (a : Addr) (oe : Obj) (cls : Value) (d : Option Addr) (pn : List (Addr × Obj)), Zc cls d oe → (∃ vs, oe.data = .fields vs) → PS (X.suite a ((a, oe) :: pn)) b (tAsg (te a cls d) (gName j)))
    (h2 : ∀ {a : Addr} {cls : Value} {dd : Option Addr} {fs : Fds} {F : Fp} {σ : St} {H : Hp} {d : D} {Q : VK}, σ[i]? = some (some (.ref a)) → XRep X.K F H n0 fs cls dd → hf fs = some d → Dom F H → (∀ v H', Same H H' → Rep X.K F H' v d → Q v H') → te a cls dd σ H Q) : SuS X n0 i b j hf := ⟨te, h1, h2⟩
inductive SuSs (X : Cx) (n0 : Str) (i : Nat) : List Stmt → List (Nat × FX) → Prop
  | nil : SuSs X n0 i [] []
  | cons {b : Stmt} {bs : List Stmt} {j : Nat} {hf : FX} {l : List (Nat × FX)} : j ≠ i → SuS X n0 i b j hf → SuSs X n0 i bs l → SuSs X n0 i (b :: bs) ((j, hf) :: l)
def appU (fs : Fds) : List (Nat × FX) → Rho → Option Rho
  | [], ρ => some ρ
  | (j, hf) :: l, ρ => match hf fs with
    | some d => appU fs l (ρ.set j (.val d))
    | none => none
section
variable {X : Cx} {W : WX} {τ : Type} [Sto τ] {n0 : Str} {i : Nat}
structure SuI (K : Fg) (n0 : Str) (i : Nat) (C : SC τ) (ρ : Rho) (t : τ) (σ : St) (H : Hp) (a : Addr) (cls : Value) (d : Option Addr) (fs : Fds) : Prop where
  at_ : At K C ρ t σ H
  no : ρ[i]? = some .no
  s : σ[i]? = some (some (.ref a))
  x : XRep K (Fo C.F ρ σ) H n0 fs cls d
def tU (K : Fg) (n0 : Str) (i : Nat) (τ : Type) [Sto τ] (l : List (Nat × FX)) (a : Addr) (cls : Value) (d : Option Addr) : TS := fun E σ H => ∃ (C : SC τ) (ρ : Rho) (t : τ) (fs : Fds), SuI K n0 i C ρ t σ H a cls d fs ∧
  ∃ ρ', appU fs l ρ = some ρ' ∧ ∀ σ' H', Stp (Fo C.F ρ σ) H (Fo C.F ρ' σ') H' → SuI K n0 i C ρ' t σ' H' a cls d fs → E.nx σ' H'
theorem XRep.step {K : Fg} {F F' : Fp} {H H' : Hp} {n : Str} {fs : Fds} {cls : Value} {dd : Option Addr} (x : XRep K F H n fs cls dd) (s : Same H H') (h : ∀ b, F' b → F b) : XRep K F' H' n fs cls dd := by
  obtain ⟨e, x⟩ := x
  refine ⟨e, ?_⟩
  cases fs with
  | none => exact x
  | some p =>
    obtain ⟨ns, ds⟩ := p
    obtain ⟨a, vs, h1, h2, h3, h4⟩ := x
    exact ⟨a, vs, h1, s a _ h2, h3, (h4.same (fun b o _ e => s b o e)).anti h⟩
theorem SuSs.run {bs : List Stmt} {l : List (Nat × FX)} (h : SuSs X n0 i bs l) {a : Addr} {oe : Obj} {cls : Value} {d : Option Addr} {pn : List (Addr × Obj)} (hz : Zc cls d oe) (hv : ∃ vs, oe.data = .fields vs) : PSs (X.suite a ((a, oe) :: pn)) bs (tU X.K n0 i τ l a cls d) := by
  induction h with
  | nil => exact PSs.imp pss_nil fun E σ H ⟨C, ρ, t, fs, S, ρ', e, q⟩ => by cases e; exact q σ H (Stp.less fun _ z => z) S
  | @cons b bs j hf l ij hb _ ih =>
    obtain ⟨te, hp, ht⟩ := hb
    refine PSs.imp (pss_cons (hp a oe cls d pn hz hv) ih) fun E σ H ⟨C, ρ, t, fs, S, ρ', e, q⟩ => ?_
    unfold appU at e
    cases eh : hf fs with
    | none => rw [eh] at e; cases e
    | some dv =>
      rw [eh] at e
      refine ht S.s S.x eh S.at_.dom fun v H1 sm r => ?_
      have smC : Sm C.F H H1 := fun b o _ e => sm b o e
      have A2 := S.at_.next smC (C.stay S.at_.st sm)
      have A3 := A2.setVal (i := j) (v := v) (d := dv) r
      have S3 : SuI X.K n0 i C (ρ.set j (.val dv)) t (σ.set j (some v)) H1 a cls d fs := ⟨A3, by rw [List.getElem?_set_ne ij]; exact S.no, by rw [List.getElem?_set_ne ij]; exact S.s, S.x.step sm fun b h => Fo.setVal h⟩
      refine ⟨C, _, t, fs, S3, ρ', e, fun σ' H' s' S' => q σ' H' (Stp.trans ⟨fun b o n e => sm b o e, fun b h => .inl (Fo.setVal h)⟩ s') S'⟩
end
theorem _root_.L2H.RoomH.units {k : Nat} {A : Around} (r : RoomH k A) : A.units + 64 < cLine := by have := r.un; omega
section
variable {τ : Type} {P : Pt τ} {ρ : Rho} {t : τ}
end
end MM

namespace MM
open PySem PySem.Spec PyProof.Rows L2
section
variable {X : Cx} {W : WX} {τ : Type} [Sto τ] {K : Fg}
end
section
variable {τ : Type} {Q : D → τ → Prop} {X : Str → Fds → τ → Prop} {ρ : Rho} {t : τ}
end
end MM

namespace MM
open PySem PySem.Spec PyProof.Rows L2
theorem nsEq_ok : ∀ {a b : List Nat}, nsEq a b = true → a = b
  | [], [], _ => rfl
  | a :: x, b :: y, h => by
    obtain ⟨h1, h2⟩ := Bool.and_eq_true_iff.mp h
    rw [Nat.eq_of_beq_eq_true h1, nsEq_ok h2]
  | [], _ :: _, h => by cases h
  | _ :: _, [], h => by cases h
theorem sEqL_ok {a b : Str} (h : sEqL a b = true) : a = b := by
  obtain ⟨⟨a⟩⟩ := a
  obtain ⟨⟨b⟩⟩ := b
  have := nsEq_ok h
  simp at this
  rw [this]
theorem linKeys_ok {own : List Str} : ∀ {ks xs : List Str}, linKeys own ks xs = true → ∀ k ∈ ks, startupNames.contains k = true ∨ own.contains k = true ∨ k ∈ xs
  | [], _, _, k, hk => by cases hk
  | k :: ks, [], h, k', hk => by
    obtain ⟨h1, h2⟩ := Bool.and_eq_true_iff.mp h
    rcases List.mem_cons.mp hk with rfl | hk
    · rcases Bool.or_eq_true_iff.mp h1 with z | z
      · exact .inl z
      · exact .inr (.inl z)
    · exact linKeys_ok h2 k' hk
  | k :: ks, x :: xs, h, k', hk => by
    rw [linKeys] at h
    cases e : sEqL k x with
    | true =>
      rw [e] at h
      rcases List.mem_cons.mp hk with rfl | hk
      · exact .inr (.inr (by rw [sEqL_ok e]; exact List.mem_cons_self))
      · rcases linKeys_ok h k' hk with z | z | z
        · exact .inl z
        · exact .inr (.inl z)
        · exact .inr (.inr (List.mem_cons_of_mem _ z))
    | false =>
      rw [e] at h
      obtain ⟨h1, h2⟩ := Bool.and_eq_true_iff.mp h
      rcases List.mem_cons.mp hk with rfl | hk
      · rcases Bool.or_eq_true_iff.mp h1 with z | z
        · exact .inl z
        · exact .inr (.inl z)
      · exact linKeys_ok h2 k' hk
theorem seenL_ok {q : Program} {loose mods : List Str} {Xt : Shared → Bool} {s : Shared} (hq : ∀ L, clssOf q L = [] ∧ dclssOf q L = [] ∧ PySem.W.wclssOf q L = []) (h : seenL q loose mods Xt s = PySem.W.openGood q []) :
    PySem.W.openSeen q loose mods Xt true s = PySem.W.openGood q loose := by
  have ek : ∀ {a}, (linKeys ((recsOf q).map (·.name)) (s.heap.nsKeys mainGlobals) loose && a) = true → ∀ c1 c2, (s.heap.keysOk (PySem.W.looseW q loose) ((recsOf q).map (·.name)) c1 c2 && a) = true := by
    intro a z c1 c2
    obtain ⟨z1, z2⟩ := Bool.and_eq_true_iff.mp z
    refine Bool.and_eq_true_iff.mpr ⟨?_, z2⟩
    unfold Heap.keysOk
    rw [List.all_eq_true]
    intro k hk
    rcases linKeys_ok z1 k hk with y | y | y
    · simp only [y, Bool.true_or]
    · simp only [y, Bool.true_or, Bool.or_true]
    · have : (PySem.W.looseW q loose).contains k = true := by
        rw [List.contains_iff_mem]
        unfold PySem.W.looseW looseD PySem.W.heldW
        simp only [List.mem_append]
        exact .inl (.inl (.inl y))
      simp only [this, Bool.true_or, Bool.or_true]
  unfold seenL at h
  rw [← HandSHeadRun.seenQ_eq] at h
  unfold PySem.W.openSeen PySem.W.openGood plainSeenE plainGoodE plainSeenD plainGoodD PySem.W.clsSeenW PySem.W.clsGoodW plainsOf at h ⊢
  simp only [(hq _).1, (hq _).2.1, (hq _).2.2, Prod.mk.injEq, if_true] at h ⊢
  obtain ⟨h1, h2, h3, h4⟩ := h
  refine ⟨h1, h2, ?_, h4⟩
  simp only [Bool.and_assoc] at h3 ⊢
  exact ek h3 _ _
open PySem.W PySem.Calls in
theorem head_anyL {r : OpenRow} {q : Program} {H : Hook} {ob : SharedT → H.α} {M : Nat} {loose : List PySem.Str} {d : DefRec} {kwd : List (PySem.Str × PySem.Expr)} (ho : ∀ s : SharedT, ob s = H.obs s.abs)
    (e : opening r.prog = plainProg r.prog.main.scope.names) (f : ∀ s, fenceModules? r.prog s = some s) (run : ∀ w, RunEqL r q H ob M loose w)
    (hq : ∀ L, clssOf q L = [] ∧ dclssOf q L = [] ∧ PySem.W.wclssOf q L = [])
    (hdef : defOf q r.name = some (d, kwd)) (hp : r.prog.theDef r.name = some (d.params, d.body, d.scope)) (hk : kwWritten? d.params.kwonlyargs d.params.kw_defaults = some kwd)
    (hwr : (!r.writes || r.records.isEmpty) = true) (k1 : r.wellSaid = true) (ok : (chainsOk q && opensWell r.prog && (frees r.toRowW && r.within.isEmpty)) = true) (hb : r.prog.bare) (hw : r.toRowW.promised)
    (call : WalkO q loose (XL q []) H.says r.toRowW d kwd fun f vs => PySem.call f vs) : r.Holds := by
  have left : LeftO r.prog q loose (fun s => xlAt q [] s && recOk r.toRowW.records s) H.obs H.val (M + 600) true :=
    HandSHeadRun.left_one (M := M) e (Nat.ble_eq_true_of_le (by omega)) f (Nat.ble_eq_true_of_le (by omega)) fun w os => by
      have z := run w os
      have eo : ob = fun s => H.obs s.abs := funext ho
      rw [eo] at z
      rw [HandSHeadRun.endQ_eq]
      obtain ⟨s, hs, hv⟩ := Option.map_eq_some_iff.mp z
      obtain ⟨l1, l2, l3⟩ : _ ∧ _ ∧ _ := by simpa only [Prod.mk.injEq] using hv
      rw [hs]
      exact congrArg some (Prod.ext l1 (Prod.ext (seenL_ok hq l2) l3))
  exact holds_open (r := r) (q := q) (loose := loose) (XP := XL q []) (YP := H.says) (d := d) (kwd := kwd) left H.of H.keeps (fun s z => xl_of s (Bool.and_eq_true_iff.mp z).1) XL.keeps hdef hp hk (fun s z => recFacts_of (Bool.and_eq_true_iff.mp z).2) hwr k1 ok hb hw call
end MM

namespace MM
open PySem PySem.Spec PyProof.Rows L2
section
variable {X : Cx} {W : WX} {τ : Type} [Sto τ] {K : Fg}
end
end MM

namespace MM
open PySem PySem.Spec PyProof.Rows L2
section
variable {X : Cx} {W : WX} {τ : Type} [Sto τ] {K : Fg}
end
structure FnG (P : Program) (w : World) (K : Fg) (mg : Str → Option Value) (base : Heap) (CX : CXT) (k : Nat) (f : Addr) (fd : FuncData) (ps : List Str) (sp : Sp) : Prop where
  len : ∀ vs H Q E, sp vs H Q E → vs.length = ps.length
  run : ∀ (A : Around) (outer : List Env) (s : Shared) (H : Hp) (args : Args) (us : List Value) (vs : List V) (Q : VK) (E : XK), Room k A → A.guards = some [] → Env0 P w K mg base A outer s H → BindsTo s fd args (ps.zip us) → Vals vs us → sp vs H Q E →
    codeAny (model P w) A (.call (.ref f) args) (CR CX outer P w H s Q E) s
theorem FnG.mono {P : Program} {w : World} {K : Fg} {mg : Str → Option Value} {base : Heap} {CX : CXT} {j k : Nat} {f : Addr} {fd : FuncData} {ps : List Str} {sp : Sp} (F : FnG P w K mg base CX j f fd ps sp) (h : j ≤ k) : FnG P w K mg base CX k f fd ps sp :=
  ⟨F.len, fun A outer s H args us vs Q E r => F.run A outer s H args us vs Q E (r.mono h)⟩
theorem fnG_of {P : Program} {w : World} {K : Fg} {mg : Str → Option Value} {base : Heap} {CX : CXT} {x qual : Str} {params : Arguments} {body : List Stmt} {scope : Scope} {dvs : List V} {kws : List (Str × V)} {f : Addr} {fd : FuncData} {N ps : List Str} {k : Nat} {sp : Sp}
    (F : FunD K x qual params body scope dvs kws f fd) (S : FnScope N ps scope) (len : ∀ vs H Q E, sp vs H Q E → vs.length = ps.length)
    (hbody : ∀ (cdv : Value) (A : Around) (outer : List Env) (s : Shared) (H : Hp) (vs : List V) (Q : VK) (E : XK), Room k (A.deeper (envOfC qual scope s.heap.objs.size f cdv)) → (A.deeper (envOfC qual scope s.heap.objs.size f cdv)).guards = some [] → sp vs H Q E →
      ∃ t, PSs (cxOf CX P w K mg base N qual scope f cdv A outer s H E) body t ∧ t { nx := fun _ H' => Q .non H', rt := Q } (L2.start N vs) H) : FnG P w K mg base CX (k + 1) f fd ps sp := by
  obtain ⟨oc, od, dV, kV, doc, pm, an, cdv, ct, osl, rfl, lk, hcd, _, _⟩ := F.ex
  refine ⟨len, fun A outer s H args us vs Q E hr hgd e0 hb r hsp => ?_⟩
  have up : ∀ b o, base.get? b = some o → s.heap.get? b = some o := fun b o e => (e0.bs b o e).1
  have KX : K.In s.heap := e0.mod.kin.keeps up
  refine codeAny_call_function hr.depth (KX _ _ lk) rfl S.co S.gen rfl (PySem.W.codeRec_of KX hcd) (hb _ _ _ _ ?_)
  refine wpAny_newFunctionEnv_cells S.kind (fun ⟨n, v⟩ hy => ?_) fun env he s1 xx => ?_
  · rcases S.par n (List.of_mem_zip hy).1 with q | q
    · exact .inl q
    · exact .inr ⟨q, PySem.W.cellsFrom_some _ _ _ (.inl q)⟩
  subst he
  refine ⟨(e0.mod.nolimit.keeps up).keeps xx.toInCall.keep, codeAny_func ?_⟩
  obtain ⟨t, ht, hq⟩ := hbody cdv A outer s H vs Q E (hr.deeper _) hgd hsp
  have I := inv_start (CX := CX) (E := E) S hr.hd e0 (len _ _ _ _ hsp) r xx
  refine wpAny_mono (ht.run [] s1 (L2.start N vs) H _ I hq) (fun fl s' hs => ?_) fun e s' hs => hs
  cases fl with
  | ret u =>
    obtain ⟨v, σ', H', J, rv, q⟩ := hs
    exact ⟨v, H', J.os, J.bare, J.base, J.hok, rv, q⟩
  | next =>
    obtain ⟨σ', H', J, q⟩ := hs
    exact ⟨V.non, H', J.os, J.bare, J.base, J.hok, rfl, q⟩
  | brk => exact hs.elim fun _ h => h.elim fun _ h => h.2.elim
  | cont => exact hs.elim fun _ h => h.elim fun _ h => h.2.elim
section
variable {X : Cx} {CX : CXT} {k : Nat} {f : Addr} {fd : FuncData} {ps : List Str} {sp : Sp} {dvs : List V} {ds : List Value} {E : St → XK} {x : Str} {q pos : Pos} {e : Expr} {es : List Expr} {t : TA}
end
structure DefG {τ : Type} [Sto τ] (P : Program) (w : World) (K : Fg) (mg : Str → Option Value) (base : Heap) (k : Nat) (x : Str) (np : Nat) (df : List D) (m : List D → τ → Res τ D) : Prop where
  ex : ∃ (fd : FuncData) (ps : List Str) (ds : List Value) (dvs : List V), FnG P w K mg base (L2.CX P w) k (He.ga K x) fd ps (spF np K m) ∧ mg x = some (.ref (He.ga K x)) ∧ PySem.W.keepIn K (.ref (He.ga K x)) = true ∧ Binds K fd ps ds ∧ Vals dvs ds ∧ (∀ F H, Reps K F H dvs df)
theorem DefG.mono {τ : Type} [Sto τ] {P : Program} {w : World} {K : Fg} {mg : Str → Option Value} {base : Heap} {j k : Nat} {x : Str} {np : Nat} {df : List D} {m : List D → τ → Res τ D} (F : DefG P w K mg base j x np df m) (h : j ≤ k) : DefG P w K mg base k x np df m := by
  obtain ⟨fd, ps, ds, dv, F, r⟩ := F.ex
  exact ⟨fd, ps, ds, dv, F.mono h, r⟩
theorem DefG.mk' {τ : Type} [Sto τ] {P : Program} {w : World} {K : Fg} {mg : Str → Option Value} {base : Heap} {x qual : Str} {params : Arguments} {body : List Stmt} {scope : Scope} {dvs : List V} {kws : List (Str × V)} {fd : FuncData} {N ps : List Str} {k : Nat} {df : List D}
    (F : FunD K x qual params body scope dvs kws (He.ga K x) fd) (hm : mg x = some (.ref (He.ga K x))) (S : FnScope N ps scope) (mb : MS τ) (hb : ∃ ds dv, Vals dv ds ∧ Binds K fd ps ds ∧ ∀ F H, Reps K F H dv df)
    (hbody : ∀ (cdv : Value) (A : Around) (outer : List Env) (s : Shared) (H : Hp) (E : XK), Room k (A.deeper (envOfC qual scope s.heap.objs.size (He.ga K x) cdv)) → (A.deeper (envOfC qual scope s.heap.objs.size (He.ga K x) cdv)).guards = some [] →
      PSs (cxOf (L2.CX P w) P w K mg base N qual scope (He.ga K x) cdv A outer s H E) body (tS K (fun cls d _ H => E cls d H) mb)) : DefG P w K mg base (k + 1) x ps.length df (runB N.length mb) := by
  obtain ⟨ds, dv, h1, h2, h3⟩ := hb
  have hpl : ps.length ≤ N.length := by have := congrArg List.length S.pre; rw [List.length_take] at this; omega
  refine ⟨fd, ps, ds, dv, fnG_of F S (fun vs H Q E ⟨C, ds, t, _, _, r, hl, _⟩ => r.length.trans hl) fun cdv A outer s H vs Q E hr hgd ⟨C, ds, t, okC, iv, r, hl, p⟩ => ⟨_, hbody cdv A outer s H E hr hgd, C, _, t, At.start okC iv r (by rw [hl]; exact hpl), ?_⟩, hm, F.kp, h2, h1, h3⟩
  unfold runB at p
  cases e : mb (ds.map Slot.val ++ List.replicate (N.length - ds.length) .no) t with
  | nx ρ' t' =>
    rw [e] at p
    exact fun σ' H' s' A' => p .non H' (fun b o n e => s'.keep b o (fun z => n (FoStart z)) e) (C.less A'.st fun _ => .inl) .non
  | rt d t' =>
    rw [e] at p
    exact fun v H' s' i r => p v H' (fun b o n e => s' b o (fun z => n (FoStart z)) e) i r
  | ex n fs ρ' t' =>
    rw [e] at p
    exact fun cls dd σ' H' s' A' x => p cls dd H' (fun b o n e => s'.keep b o (fun z => n (FoStart z)) e) (C.less A'.st fun _ => .inl) (x.anti fun _ => .inl)
  | bk ρ' t' => rw [e] at p; exact p.elim
  | ct ρ' t' => rw [e] at p; exact p.elim
  | bad => rw [e] at p; exact p.elim
section
variable {X : Cx} {W : WX} {τ : Type} [Sto τ]
end
section
variable {P : Program} {w : World} {K : Fg} {mg : Str → Option Value} {base : Heap}
end
section
variable {τ : Type} {Q : D → Prop} {d : D}
end
end MM

namespace MM
open PySem PySem.Spec PyProof.Rows L2
section
variable {X : Cx} {W : WX} {τ : Type} [Sto τ] {K : Fg}
theorem op_eq_ss : OpR X (compareOp .Eq) (fun x y H Q => ∃ i j, x = .str i ∧ y = .str j ∧ Q (.bl (i.cps.toList == j.cps.toList)) H) := by
  intro pins s σ H x y v u Q I rx ry h
  obtain ⟨i, j, rfl, rfl, q⟩ := h
  obtain ⟨t, rfl⟩ := rx
  obtain ⟨t', rfl⟩ := ry
  exact PySem.P.eq_str ⟨.bl _, H, I, rfl, q⟩
def dEqSS (d e : D) : Option D := match d, e with
  | .str x, .str y => some (.bl (x.cps.toList == y.cps.toList))
  | _, _ => none
theorem o_eqSS : DOp2 K (fun x y H Q => ∃ i j, x = .str i ∧ y = .str j ∧ Q (.bl (i.cps.toList == j.cps.toList)) H) dEqSS := fun F0 F H x y d e z Q dm rx ry q k => by
  cases d <;> try cases q
  cases e <;> try cases q
  exact ⟨_, _, rx.strOf, ry.strOf, k _ H (Same.refl H) (.bl _)⟩
@[simp] theorem dEqSS_self {x : Str} : dEqSS (.str x) (.str x) = some (.bl true) := by simp [dEqSS]
end
end MM

namespace MM
open PySem PySem.Spec PyProof.Rows L2
section
variable {X : Cx}
end
section
variable {X : Cx} {W : WX} {τ : Type} [Sto τ]
end
section
variable {τ : Type} {P : Pt τ} {ρ : Rho} {t : τ}
end
end MM

namespace MM
open PySem PySem.Spec PyProof.Rows L2
section
variable {X : Cx} {W : WX} {τ : Type} [Sto τ] {K : Fg}
end

section
variable {X : Cx} {K : Fg}
def KnT (H : Hp) (p : Addr) (xs : List V) : Prop := ∃ o, H p = some (.frz o (.tup xs)) ∧ o.dict = none
theorem KnT.sq {H : Hp} {p : Addr} {xs : List V} (h : KnT H p xs) : SqT K H p xs := let ⟨o, e, _⟩ := h; .inl (.inr ⟨o, e⟩)
theorem KnT.rd {H : Hp} {p : Addr} {xs : List V} (h : KnT H p xs) : Rd H p (.tup xs) := let ⟨o, e, _⟩ := h; .inr ⟨o, e⟩
end
end MM

namespace MM
open PySem PySem.Spec PyProof.Rows L2
theorem KnT.same {H H' : Hp} {p : Addr} {xs : List V} (h : KnT H p xs) (s : Same H H') : KnT H' p xs := let ⟨o, e, d⟩ := h; ⟨o, s _ _ e, d⟩
section
variable {X : Cx} {W : WX} {τ : Type} [Sto τ]
end
section
variable {τ : Type} {P : Pt τ} {ρ : Rho} {t : τ}
end
end MM

namespace MM
open PySem PySem.Spec PyProof.Rows L2
section
variable {X : Cx} {W : WX} {τ : Type} [Sto τ] {K : Fg}
end
end MM

namespace MM
open PySem PySem.Spec PyProof.Rows L2
open L2H (RoomH PinOk cxH inv_startH roomH_of)
section
variable {X : Cx} {body : List Stmt} {h₀ : ExceptHandler} {hds : List ExceptHandler} {l : List (Value × Nat × (Addr → Value → Option Addr → TS))} {pos : Pos} {tb : WX → TS} {Wout : WX}
end
section
variable {X : Cx} {W : WX} {τ : Type} [Sto τ]
end
section
variable {τ : Type} {P : Pt τ} {ρ : Rho} {t : τ}
end
structure HX (X : Cx) (n0 : Str) (i : Nat) (e : Expr) (hf : FX) (te : Addr → Value → Option Addr → TE) : Prop where
  pe : ∀ (a : Addr) (oe : Obj) (cls : Value) (d : Option Addr) (pn : List (Addr × Obj)), Zc cls d oe → (∃ vs, oe.data = .fields vs) → PE (X.suite a ((a, oe) :: pn)) e (te a cls d)
  ok : TeOk X.K n0 i hf te
abbrev FXs := Fds → Option (List D)
def TasOk (K : Fg) (n0 : Str) (i : Nat) (hf : FXs) (ta : Addr → Value → Option Addr → TA) : Prop :=
  ∀ {a : Addr} {cls : Value} {dd : Option Addr} {fs : Fds} {F : Fp} {σ : L2.St} {H : Hp} {ds : List D} {Q : List V → Hp → Prop}, σ[i]? = some (some (.ref a)) → XRep K F H n0 fs cls dd → hf fs = some ds → Dom F H → (∀ vs H', Same H H' → Reps K F H' vs ds → Q vs H') → ta a cls dd σ H Q
structure HXs (X : Cx) (n0 : Str) (i : Nat) (es : List Expr) (hf : FXs) (ta : Addr → Value → Option Addr → TA) : Prop where
  pa : ∀ (a : Addr) (oe : Obj) (cls : Value) (d : Option Addr) (pn : List (Addr × Obj)), Zc cls d oe → (∃ vs, oe.data = .fields vs) → PA (X.suite a ((a, oe) :: pn)) es (ta a cls d)
  ok : TasOk X.K n0 i hf ta
section
variable {X : Cx} {n0 : Str} {i : Nat}
theorem SuS.hx {e : Expr} {hf : FX} {te : Addr → Value → Option Addr → TE} {b : Stmt} {j : Nat} (h : HX X n0 i e hf te) (hp : ∀ (a : Addr) (oe : Obj) (pn : List (Addr × Obj)) (t : TE), PE (X.suite a ((a, oe) :: pn)) e t → PS (X.suite a ((a, oe) :: pn)) b (tAsg t (gName j))) : SuS X n0 i b j hf :=
  ⟨te, fun a oe cls d pn hz hv => hp a oe pn _ (h.pe a oe cls d pn hz hv), h.ok⟩
theorem hx_f {f : Str} {fs : List Str} {y : Str} {p p2 : Pos} (ox : OexX X.K X.mg n0 fs) (hf : f ∈ fs) (h : ∀ (a : Addr) (oe : Obj) (pn : List (Addr × Obj)), PE (X.suite a ((a, oe) :: pn)) (.Name y p2) (tVar i)) : HX X n0 i (.Attribute (.Name y p2) f p) (fXf f) (fun a cls d => tXf a cls d (He.ga X.K n0) f (tVar i)) :=
  ⟨fun a oe cls d pn hz hv => pe_xf ox.x (ox.n f hf) hz hv (h a oe pn), fun hs x e _ q => xf_ok hs x e fun v r => q v _ (Same.refl _) r⟩
theorem hxs_nil : HXs X n0 i [] (fun _ => some []) (fun _ _ _ => tNil) := ⟨fun _ _ _ _ _ _ _ => pa_nil, fun _ _ e _ q => by cases e; exact q _ _ (Same.refl _) .nil⟩
def fxCons (f : FX) (g : FXs) : FXs := fun fs => (f fs).bind fun d => (g fs).map fun ds => d :: ds
theorem dom_same {F : Fp} {H H' : Hp} (dm : Dom F H) (s : Same H H') : Dom F H' := fun b h => by
  cases e : H b with
  | none => exact absurd e (dm b h)
  | some o => rw [s b o e]; intro z; cases z
theorem hxs_cons {e : Expr} {es : List Expr} {f : FX} {g : FXs} {te : Addr → Value → Option Addr → TE} {ta : Addr → Value → Option Addr → TA} (h : HX X n0 i e f te) (hs : HXs X n0 i es g ta)
    (st : ∀ (a : Addr) (p : Addr × Obj) (pn : List (Addr × Obj)), starEach (e :: es) (X.suite a (p :: pn)).env = (false, eval e (X.suite a (p :: pn)).env) :: starEach es (X.suite a (p :: pn)).env := by intro _ _ _; rfl) : HXs X n0 i (e :: es) (fxCons f g) (fun a cls d => tCons (te a cls d) (ta a cls d)) :=
  ⟨fun a oe cls d pn hz hv => pa_cons (h.pe a oe cls d pn hz hv) (hs.pa a oe cls d pn hz hv) (st a _ pn), fun hσ x e dm q => by
    unfold fxCons at e
    obtain ⟨d1, h1, e⟩ := Option.bind_eq_some_iff.mp e
    obtain ⟨ds, h2, e⟩ := Option.map_eq_some_iff.mp e
    subst e
    refine h.ok hσ x h1 dm fun v H1 s1 r1 => ?_
    refine hs.ok hσ (x.step s1 fun _ z => z) h2 (dom_same dm s1) fun vs H2 s2 r2 => ?_
    exact q _ _ (fun b o e => s2 b o (s1 b o e)) (.cons (r1.same (Sm.of_same s2)) r2)⟩
def fxLim (k : List D → D) (g : FXs) : FX := fun fs => (g fs).bind fun ds => if ds.length ≤ 100 then some (k ds) else none
theorem hx_lst {es : List Expr} {g : FXs} {ta : Addr → Value → Option Addr → TA} {p : Pos} (hs : HXs X n0 i es g ta) : HX X n0 i (.List es p) (fxLim .lst g) (fun a cls d => tLst (ta a cls d)) :=
  ⟨fun a oe cls d pn hz hv => pe_lst (hs.pa a oe cls d pn hz hv), fun {a cls dd fs F σ H dv Q} hσ x e dm q => by
    unfold fxLim at e
    obtain ⟨ds, h1, e⟩ := Option.bind_eq_some_iff.mp e
    split at e
    · rename_i hl
      cases e
      refine hs.ok hσ x h1 dm fun vs H1 s1 r1 => ?_
      refine ⟨by rw [r1.length, sizeLine_eq]; omega, fun p np => ?_⟩
      refine q _ _ (fun b o e => same_upd np b o (s1 b o e)) (.lst ⟨fun z => dom_same dm s1 p z np, .inl upd_same⟩ ?_)
      exact r1.same (Sm.of_same (same_upd np))
    · cases e⟩
end
structure DefT (τ : Type) [Sto τ] (P : Program) (w : World) (K : Fg) (mg : Str → Option Value) (base : Heap) (p : Addr × Obj) (k : Nat) (x : Str) (np : Nat) (m : List D → τ → Res τ D) : Prop where
  ex : ∃ (fd : FuncData) (ps : List Str), FnB P w K mg base (L2.CX P w) p k (He.ga K x) fd ps (spF np K m) ∧ mg x = some (.ref (He.ga K x)) ∧ PySem.W.keepIn K (.ref (He.ga K x)) = true ∧ Binds K fd ps []
theorem DefT.mk' {τ : Type} [Sto τ] {P : Program} {w : World} {K : Fg} {mg : Str → Option Value} {base : Heap} {p : Addr × Obj} {x : Str} {params : Arguments} {body : List Stmt} {scope : Scope} {fd : FuncData} {N ps : List Str} {k : Nat}
    (F : FunD K x x params body scope [] [] (He.ga K x) fd) (g : mg x = some (.ref (He.ga K x))) (S : FnScope N ps scope) (hb : Binds K fd ps []) (mb : MS τ)
    (hbd : ∀ (cdv : Value) (A : Around) (outer : List Env) (s : Shared) (H : Hp) (E : XK), RoomH k (A.deeper (envOfC x scope s.heap.objs.size (He.ga K x) cdv)) →
      PSs (cxH (L2.CX P w) P w K mg base N x scope (He.ga K x) cdv A outer s H E p) body (tS K (fun cls d _ H => E cls d H) mb)) : DefT τ P w K mg base p (k + 1) x ps.length (runB N.length mb) := by
  have hpl : ps.length ≤ N.length := by have := congrArg List.length S.pre; rw [List.length_take] at this; omega
  refine ⟨fd, ps, fnB_of F S (fun vs H Q E ⟨C, ds, t, _, _, r, hl, _⟩ => r.length.trans hl) fun cdv A outer s H vs Q E hr ⟨C, ds, t, okC, iv, r, hl, p⟩ => ⟨_, hbd cdv A outer s H E hr, C, _, t, At.start okC iv r (by rw [hl]; exact hpl), ?_⟩, g, F.kp, hb⟩
  unfold runB at p
  cases e : mb (ds.map Slot.val ++ List.replicate (N.length - ds.length) .no) t with
  | nx ρ' t' =>
    rw [e] at p
    exact fun σ' H' s' A' => p .non H' (fun b o n e => s'.keep b o (fun z => n (FoStart z)) e) (C.less A'.st fun _ => .inl) .non
  | rt d t' =>
    rw [e] at p
    exact fun v H' s' i r => p v H' (fun b o n e => s' b o (fun z => n (FoStart z)) e) i r
  | ex n fs ρ' t' =>
    rw [e] at p
    exact fun cls dd σ' H' s' A' x => p cls dd H' (fun b o n e => s'.keep b o (fun z => n (FoStart z)) e) (C.less A'.st fun _ => .inl) (x.anti fun _ => .inl)
  | bk ρ' t' => rw [e] at p; exact p.elim
  | ct ρ' t' => rw [e] at p; exact p.elim
  | bad => rw [e] at p; exact p.elim
section
variable {X : Cx} {W : WX} {τ : Type} [Sto τ] {a dd : Addr} {oe : Obj}
theorem DefT.mono {P : Program} {w : World} {K : Fg} {mg : Str → Option Value} {base : Heap} {p : Addr × Obj} {j k : Nat} {x : Str} {np : Nat} {m : List D → τ → Res τ D} (F : DefT τ P w K mg base p j x np m) (h : j ≤ k) : DefT τ P w K mg base p k x np m := by
  obtain ⟨fd, ps, ⟨F1, F2⟩, r⟩ := F.ex
  exact ⟨fd, ps, ⟨F1, fun A outer s H args us vs Q E hr hp e0 b r' hs => F2 A outer s H args us vs Q E (hr.mono h) hp e0 b r' hs⟩, r⟩
end
section
variable {X : Cx} {n0 : Str} {i : Nat}
end
section
variable {X : Cx} {W : WX} {K : Fg} {a D0 : Addr} {oe : Obj}
end
section
variable {a : Addr} {i : Nat} {b : Bool} {ρ : Rho} {t : Unit} {Q : D → Unit → Prop} {X : Str → Fds → Unit → Prop}
end
end MM

namespace MM
open PySem PySem.Spec PyProof.Rows L2
section
variable {X : Cx} {W : WX} {τ : Type} [Sto τ] {K : Fg}
def dInS : D → D → Option D
  | .str i, .str j => some (.bl (!(Builtin.Str.occurrences j i 0 j.length 1).isEmpty))
  | _, _ => none
def dNotInS : D → D → Option D
  | .str i, .str j => some (.bl (!(!(Builtin.Str.occurrences j i 0 j.length 1).isEmpty)))
  | _, _ => none
theorem o_inS : DOp2 K (fun x y H Q => ∃ i j, x = .str i ∧ y = .str j ∧ Q (.bl (!(Builtin.Str.occurrences j i 0 j.length 1).isEmpty)) H) dInS := fun F0 F H x y d e z Q dm rx ry q k => by
  unfold dInS at q
  split at q
  · cases q
    exact ⟨_, _, rx.strOf, ry.strOf, k _ H (Same.refl H) (.bl _)⟩
  · cases q
theorem o_notinS : DOp2 K (fun x y H Q => ∃ i j, x = .str i ∧ y = .str j ∧ Q (.bl (!(!(Builtin.Str.occurrences j i 0 j.length 1).isEmpty))) H) dNotInS := fun F0 F H x y d e z Q dm rx ry q k => by
  unfold dNotInS at q
  split at q
  · cases q
    exact ⟨_, _, rx.strOf, ry.strOf, k _ H (Same.refl H) (.bl _)⟩
  · cases q
def sgnD (c : Nat) : D := .str ⟨#[c]⟩
def itS : D → Option (List D)
  | .str z => some (z.cps.toList.map sgnD)
  | _ => none
theorem rIt_str {I : Fp → Hp → Prop} {F0 F : Fp} {H H' : Hp} {z : Str} : rIt K I F0 F H H' (Its z) (z.cps.toList.map sgnD) := by
  have w : Walk (Its z) (z.cps.toList.map sgnD).length (fun _ => True) (fun i H v H' => H' = H ∧ ∃ c, z.cps[i]? = some c ∧ v = .str ⟨#[c]⟩) := by
    rw [List.length_map, Array.length_toList]; exact walk_str
  refine ⟨_, _, w, fun _ _ => trivial, fun Fc i H2 x H3 hi s dm y => ?_⟩
  obtain ⟨rfl, c, hc, rfl⟩ := y
  refine ⟨fun _ _ e => e, sgnD c, ?_, .str _⟩
  rw [List.getElem?_map, Array.getElem?_toList, hc]
  rfl
theorem mi_str {tg l : Expr} {m : ME τ D} (h : PE X l (tE X.K W m)) : PI X tg l (tI X.K W (e1 itS m)) := PI.imp (pi_str h) fun σ H R ⟨C, ρ, t, A, p⟩ => by
  refine use okI A p fun d t1 v H1 e1 s1 A1 r1 p1 => ?_
  cases d with
  | str z =>
    cases r1
    exact ⟨z, rfl, p1 _ H1 (Sm.refl _ _) A1.st rIt_str⟩
  | _ => exact p1.elim
end
section
variable {τ : Type} {Q : D → τ → Prop} {X : Str → Fds → τ → Prop} {ρ : Rho} {t : τ}
end
abbrev FW := Rho → FX
def SuW (X : Cx) (n0 : Str) (i : Nat) (τ : Type) [Sto τ] (b : Stmt) (j : Nat) (hw : FW) : Prop := ∃ te : Addr → Value → Option Addr → TE,
  (∀ (a : Addr) (oe : Obj) (cls : Value) (d : Option Addr) (pn : List (Addr × Obj)), Zc cls d oe → (∃ vs, oe.data = .fields vs) → PS (X.suite a ((a, oe) :: pn)) b (tAsg (te a cls d) (gName j))) ∧
  ∀ {C : SC τ} {ρ : Rho} {t : τ} {σ : L2.St} {H : Hp} {a : Addr} {cls : Value} {dd : Option Addr} {fs : Fds} {d : D} {Q : VK}, SuI X.K n0 i C ρ t σ H a cls dd fs → hw ρ fs = some d → (∀ v H', Same H H' → Rep X.K (Fo C.F ρ σ) H' v d → Q v H') → te a cls dd σ H Q
inductive SuWs (X : Cx) (n0 : Str) (i : Nat) (τ : Type) [Sto τ] : List Stmt → List (Nat × FW) → Prop
  | nil : SuWs X n0 i τ [] []
  | cons {b : Stmt} {bs : List Stmt} {j : Nat} {hw : FW} {l : List (Nat × FW)} : j ≠ i → SuW X n0 i τ b j hw → SuWs X n0 i τ bs l → SuWs X n0 i τ (b :: bs) ((j, hw) :: l)
def appW (fs : Fds) : List (Nat × FW) → Rho → Option Rho
  | [], ρ => some ρ
  | (j, hw) :: l, ρ => match hw ρ fs with
    | some d => appW fs l (ρ.set j (.val d))
    | none => none
section
variable {X : Cx} {W : WX} {τ : Type} [Sto τ] {n0 : Str} {i : Nat}
theorem SuW.hx {e : Expr} {hf : FX} {te : Addr → Value → Option Addr → TE} {b : Stmt} {j : Nat} (h : HX X n0 i e hf te) (hp : ∀ (a : Addr) (oe : Obj) (pn : List (Addr × Obj)) (t : TE), PE (X.suite a ((a, oe) :: pn)) e t → PS (X.suite a ((a, oe) :: pn)) b (tAsg t (gName j))) : SuW X n0 i τ b j (fun _ => hf) :=
  ⟨te, fun a oe cls d pn hz hv => hp a oe pn _ (h.pe a oe cls d pn hz hv), fun S e q => h.ok S.s S.x e S.at_.dom q⟩
def fwAdd (k : Nat) (hf : FX) : FW := fun ρ fs => match ρ[k]? with
  | some (.val d) => (hf fs).bind fun e => dAdd d e
  | _ => none
theorem SuW.add {e1 e2 : Expr} {hf : FX} {te : Addr → Value → Option Addr → TE} {b : Stmt} {j k : Nat} {p : Pos} (h1 : ∀ (a : Addr) (oe : Obj) (pn : List (Addr × Obj)), PE (X.suite a ((a, oe) :: pn)) e1 (tVar k)) (h : HX X n0 i e2 hf te)
    (hp : ∀ (a : Addr) (oe : Obj) (pn : List (Addr × Obj)) (t : TE), PE (X.suite a ((a, oe) :: pn)) (.BinOp e1 .Add e2 p) t → PS (X.suite a ((a, oe) :: pn)) b (tAsg t (gName j))) : SuW X n0 i τ b j (fwAdd k hf) :=
  ⟨fun a cls d => tOp (rAdd4 X.K) (tVar k) (te a cls d), fun a oe cls d pn hz hv => hp a oe pn _ (pe_op op_add4 (h1 a oe pn) (h.pe a oe cls d pn hz hv)), fun {C ρ t σ H a cls dd fs d Q} S e q => by
    unfold fwAdd at e
    split at e
    · rename_i dk ek
      obtain ⟨d2, h2, h3⟩ := Option.bind_eq_some_iff.mp e
      obtain ⟨v, hv, rv⟩ := S.at_.val k dk ek
      refine ⟨v, hv, ?_⟩
      refine h.ok S.s S.x h2 S.at_.dom fun v2 H2 s2 r2 => ?_
      exact o_add (Fo C.F ρ σ) (Fo C.F ρ σ) H2 v v2 dk d2 d Q (dom_same S.at_.dom s2) (.of (rv.same (Sm.of_same s2))) (.of r2) h3 fun v' H' sm rr => q v' H' (fun b o e => sm b o (s2 b o e)) rr
    · cases e⟩
def tW2 (K : Fg) (n0 : Str) (i : Nat) (τ : Type) [Sto τ] (l : List (Nat × FW)) (a : Addr) (cls : Value) (d : Option Addr) : TS := fun E σ H => ∃ (C : SC τ) (ρ : Rho) (t : τ) (fs : Fds), SuI K n0 i C ρ t σ H a cls d fs ∧
  ∃ ρ', appW fs l ρ = some ρ' ∧ ∀ σ' H', Stp (Fo C.F ρ σ) H (Fo C.F ρ' σ') H' → SuI K n0 i C ρ' t σ' H' a cls d fs → E.nx σ' H'
theorem SuWs.run {bs : List Stmt} {l : List (Nat × FW)} (h : SuWs X n0 i τ bs l) {a : Addr} {oe : Obj} {cls : Value} {d : Option Addr} {pn : List (Addr × Obj)} (hz : Zc cls d oe) (hv : ∃ vs, oe.data = .fields vs) : PSs (X.suite a ((a, oe) :: pn)) bs (tW2 X.K n0 i τ l a cls d) := by
  induction h with
  | nil => exact PSs.imp pss_nil fun E σ H ⟨C, ρ, t, fs, S, ρ', e, q⟩ => by cases e; exact q σ H (Stp.less fun _ z => z) S
  | @cons b bs j hw l ij hb _ ih =>
    obtain ⟨te, hp, ht⟩ := hb
    refine PSs.imp (pss_cons (hp a oe cls d pn hz hv) ih) fun E σ H ⟨C, ρ, t, fs, S, ρ', e, q⟩ => ?_
    unfold appW at e
    cases eh : hw ρ fs with
    | none => rw [eh] at e; cases e
    | some dv =>
      rw [eh] at e
      refine ht S eh fun v H1 sm r => ?_
      have smC : Sm C.F H H1 := fun b o _ e => sm b o e
      have A2 := S.at_.next smC (C.stay S.at_.st sm)
      have A3 := A2.setVal (i := j) (v := v) (d := dv) r
      have S3 : SuI X.K n0 i C (ρ.set j (.val dv)) t (σ.set j (some v)) H1 a cls d fs := ⟨A3, by rw [List.getElem?_set_ne ij]; exact S.no, by rw [List.getElem?_set_ne ij]; exact S.s, S.x.step sm fun b h => Fo.setVal h⟩
      refine ⟨C, _, t, fs, S3, ρ', e, fun σ' H' s' S' => q σ' H' (Stp.trans ⟨fun b o n e => sm b o e, fun b h => .inl (Fo.setVal h)⟩ s') S'⟩
def sTryW (mb : MS τ) (n0 : Str) (i : Nat) (l : List (Nat × FW)) : MS τ := fun ρ t => match mb ρ t with
  | .ex n fs ρ' t' => if n = n0 ∧ i < ρ'.length then (match appW fs l (ρ'.set i .no) with
    | some ρ1 => .nx (ρ1.set i .no) t'
    | none => .bad) else .bad
  | r => r
theorem ms_tryW {x n : Str} {c : Value} {i : Nat} {body : List Stmt} {b0 : Stmt} {bs : List Stmt} {np pos pos' : Pos} {mb : MS τ} {n0 : Str} {l : List (Nat × FW)} (hs : X.stack = X.env :: X.outer) (hfr : X.env.frame = some X.env.locals) (hN : X.N.Nodup) (hi : X.N[i]? = some n) (hln : X.env.kindOf n = some .local) (hc : Names X x c)
    (tk : Takes X W) (hex : PySem.W.exmOne X.K (.ref (He.ga X.K n0)) c = some true)
    (hb : ∀ (W : WX) (pn : List (Addr × Obj)) (xe : Value → Shared → Prop), Takes (X.tr pn xe) W → PassesOwn (model X.prog X.w) X.A X.env xe → PSs (X.tr pn xe) body (tS X.K W mb))
    (hsu : SuWs X n0 i τ (b0 :: bs) l) :
    PS X (.Try body [.ExceptHandler (some (.Name x np)) (some n) (b0 :: bs) pos'] [] [] pos) (tS X.K W (sTryW mb n0 i l)) := by
  refine PS.imp (ps_try_as (tb := fun W => tS X.K W mb) (ts := fun a cls d E σ H => tW2 X.K n0 i τ l a cls d E σ H) hs hfr hN hi hln hc tk hb fun a oe cls d pn hz hv => hsu.run hz hv) fun E σ H ⟨C, ρ, t, A, p⟩ => ?_
  refine ⟨C, ρ, t, A, ?_⟩
  unfold sTryW at p
  cases e : mb ρ t with
  | ex m fs ρ' t' =>
    rw [e] at p
    dsimp only at p
    split at p
    · rename_i em
      obtain ⟨em, il⟩ := em
      subst em
      cases eh : appW fs l (ρ'.set i .no) with
      | none => rw [eh] at p; exact p.elim
      | some ρ1 =>
        rw [eh] at p
        intro cls dd σ' H' s' A' x
        obtain ⟨ec, ed⟩ := id x
        subst ec
        refine ⟨true, hex, fun _ a na => ?_, fun z => by cases z⟩
        have hσ : (σ'.set i (some (V.ref a)))[i]? = some (some (.ref a)) := List.getElem?_set_self (by rw [A'.len]; exact il)
        have A1 := A'.clear i (some (V.ref a))
        have x1 := x.anti (F' := Fo C.F (ρ'.set i .no) (σ'.set i (some (V.ref a)))) fun b h => Fo.setNo h
        refine ⟨C, _, t', fs, ⟨A1, List.getElem?_set_self il, hσ, x1⟩, ρ1, eh, fun σ2 H2 s2 S2 => ?_⟩
        have A4 := S2.at_.clear i none
        refine p _ _ ?_ A4
        refine s'.trans (Stp.trans ⟨fun b o n e => e, fun b h => .inl (Fo.setNo h)⟩ (s2.trans ⟨fun b o n e => e, fun b h => .inl (Fo.setNo h)⟩))
    · exact p.elim
  | nx ρ' t' => rw [e] at p; exact p
  | rt d t' => rw [e] at p; exact p
  | bk ρ' t' => rw [e] at p; exact p
  | ct ρ' t' => rw [e] at p; exact p
  | bad => rw [e] at p; exact p
theorem hx_is {b : Bool} {c : V} {cv : Value} {p pos : Pos} {e1 e2 : Expr} (EC : ExcC X.K (He.ga X.K n0)) (hg : ∀ (a : Addr) (pn : List (Addr × Obj)), Gl (X.suite a pn) "isinstance") (hm : X.mg "isinstance" = none)
    (h1 : ∀ (a : Addr) (oe : Obj) (pn : List (Addr × Obj)), PE (X.suite a ((a, oe) :: pn)) e1 (tVar i)) (h2 : ∀ (a : Addr) (oe : Obj) (pn : List (Addr × Obj)), PE (X.suite a ((a, oe) :: pn)) e2 (tC c)) (hc : ∀ u, RelV c u → u = cv) (hk : PySem.W.kitOne X.K (.ref (He.ga X.K n0)) cv = some b)
    (hst : ∀ (a : Addr) (pn : List (Addr × Obj)), starEach [e1, e2] (X.suite a pn).env = (false, eval e1 (X.suite a pn).env) :: starEach [e2] (X.suite a pn).env := by intro _ _; rfl) (hst2 : ∀ (a : Addr) (pn : List (Addr × Obj)), starEach [e2] (X.suite a pn).env = (false, eval e2 (X.suite a pn).env) :: starEach [] (X.suite a pn).env := by intro _ _; rfl)
    (hpl : ∀ (a : Addr) (pn : List (Addr × Obj)), (backTo pos (starEach [e2] (X.suite a pn).env)).any (·.1) = false := by intro _ _; rfl) :
    HX X n0 i (.Call (.Name "isinstance" p) [e1, e2] [] pos) (fXb b) (fun a cls d σ H Q => σ[i]? = some (some (.ref a)) ∧ IsX a cls d (He.ga X.K n0) H ∧ Q (.bl b) H) :=
  ⟨fun a oe cls d pn hz hv => isx_one EC hz hv (hg a _) hm (h1 a oe pn) (h2 a oe pn) hc hk (hst a _) (hst2 a _) (hpl a _), fun {a cls dd fs F σ H dv Q} hσ x e dm q => by
    obtain ⟨ec, x⟩ := x
    cases fs with
    | none => cases e
    | some pr =>
      cases e
      obtain ⟨ns, ds⟩ := pr
      obtain ⟨ad, vs, h1, h2, h3, h4⟩ := x
      exact ⟨hσ, ⟨ec, ad, _, h1, h2⟩, q _ H (Same.refl H) (.bl _)⟩⟩
end
section
variable {τ : Type} {P : Pt τ} {ρ : Rho} {t : τ}
@[simp] theorem oS_tryW {mb : MS τ} {n : Str} {i : Nat} {l : List (Nat × FW)} : oS (sTryW mb n i l ρ t) P = oS (mb ρ t) { P with ex := fun m fs ρ t => (m = n ∧ i < ρ.length) ∧ ∃ ρ1, appW fs l (ρ.set i .no) = some ρ1 ∧ P.nx (ρ1.set i .no) t } := by
  unfold sTryW
  cases mb ρ t with
  | ex m fs ρ' t' =>
    dsimp only
    by_cases q : m = n ∧ i < ρ'.length
    · rw [if_pos q]
      cases e : appW fs l (ρ'.set i .no) with
      | none =>
        show False = (_ ∧ ∃ d, appW fs l (ρ'.set i .no) = some d ∧ _)
        rw [e]
        exact propext ⟨fun z => z.elim, fun ⟨_, d, z, _⟩ => by cases z⟩
      | some d =>
        show P.nx _ _ = (_ ∧ ∃ d, appW fs l (ρ'.set i .no) = some d ∧ _)
        rw [e]
        exact propext ⟨fun z => ⟨q, d, rfl, z⟩, fun ⟨_, d', z, k⟩ => by cases z; exact k⟩
    · rw [if_neg q]
      exact propext ⟨fun z => False.elim z, fun z => (q z.1).elim⟩
  | _ => rfl
end
end MM

namespace MM
open PySem PySem.Spec PyProof.Rows L2
section
variable {X : Cx} {W : WX} {τ : Type} [Sto τ] {K : Fg}
end
section
variable {τ : Type} {ρ : Rho} {t : τ}
end
end MM

namespace MM
open PySem PySem.Spec PyProof.Rows L2
section
variable {X : Cx} {W : WX} {τ : Type} [Sto τ] {K : Fg}
end
section
variable {τ : Type} {ρ : Rho} {t : τ}
end
end MM

namespace MM
open PySem PySem.Spec PyProof.Rows L2
section
variable {X : Cx} {W : WX} {τ : Type} [Sto τ] {K : Fg}
end
end MM

namespace MM
open PySem PySem.Spec PyProof.Rows L2
theorem gone_inv {X : Cx} {pins : List (Addr × Obj)} {σ : L2.St} {H : Hp} {s : Shared} {i : Nat} {n : Str} {v : Option Value} {h' : Heap} {t' : Nat} {m : Str → Option Value} (I : Inv X pins σ H s) (hN : X.N.Nodup) (hi : X.N[i]? = some n)
    (hlk : ∀ (j : Nat) (y : Str) (v' : V), X.N[j]? = some y → σ[j]? = some (some v') → Vis X.env.scope y → ∃ u, RelV v' u ∧ Look X.env s.heap m y u) (hn' : h'.Ns X.env.locals (fun x => if x = n then v else m x)) (hs : Heap.SameBut X.env.locals s.heap h') :
    Inv X pins (σ.set i none) H { s with heap := h', toks := t' } := by
  have neL : ∀ b o, X.s_0.heap.get? b = some o → b ≠ X.env.locals := fun b o e => Nat.ne_of_lt (Nat.lt_of_lt_of_le (Heap.lt_size e) I.ok.above)
  refine ⟨I.ok, I.os, I.bare, ⟨fun b o e n hb hx => ?_, fun b o e n hb hx => ?_, I.base.free, fun b o e hx => ?_, I.base.tups, I.base.frzs, I.base.tbls⟩, ⟨_, hn', fun j y v' e1 e2 e3 => ?_⟩, fun y c e => ?_, I.free, I.freeC, fun p hp => ?_, fun b ob e => ?_, by simpa using I.len⟩
  · exact (hs.2 b (neL b o e)).trans (I.base.keep b o e n hb hx)
  · obtain ⟨sl, e1⟩ := I.base.slot b o e n hb hx
    exact ⟨sl, (hs.2 b (neL b o e)).trans e1⟩
  · obtain ⟨o', e1⟩ := I.base.there b o e hx
    exact ⟨o', (hs.2 b (neL b o e)).trans e1⟩
  · by_cases hj : j = i
    · subst hj
      by_cases hlt : j < σ.length
      · rw [List.getElem?_set_self hlt] at e2; cases e2
      · rw [List.getElem?_eq_none (by simpa using hlt)] at e2; cases e2
    · rw [List.getElem?_set_ne (Ne.symm hj)] at e2
      obtain ⟨u', r', q⟩ := hlk j y v' e1 e2 e3
      refine ⟨u', r', ?_⟩
      rcases q with ⟨k, e⟩ | ⟨k, c, e, z⟩
      · have ny : y ≠ n := fun e => hj (nodup_ix hN e1 (e ▸ hi))
        exact .inl ⟨k, (if_neg ny).trans e⟩
      · exact .inr ⟨k, c, e, z.sameBut hs (I.cne y c e)⟩
  · obtain ⟨w', z⟩ := I.cell y c e
    exact ⟨w', z.sameBut hs (I.cne y c e)⟩
  · obtain ⟨e, n, ne, nf, d⟩ := I.pin p hp
    exact ⟨(hs.2 p.1 ne).trans e, n, ne, nf, d⟩
  · refine (I.hok b ob e).stay (fun c w' hc q => (hs.2 c ?_).trans q) (fun _ q => q) fun _ _ q => q
    intro z
    subst z
    rcases hc with hc | hc
    · rw [← hc, I.free] at e; cases e
    · rw [I.free] at hc; cases hc
theorem funFrames_but {h h' base : Heap} {a : Addr} {o4 : Obj} (hs : Heap.SameBut a h h') (ha : h'.get? a = some o4) (hnf : ∀ vs, o4.data ≠ .fields vs) : ∀ {l : List Env}, h.FunFrames base l → h'.FunFrames base l
  | [], _ => trivial
  | env :: rest, ⟨hk, ⟨L, o, hf, hn, ho, hd⟩, hr⟩ => by
    refine ⟨hk, ?_, funFrames_but hs ha hnf hr⟩
    by_cases e : L = a
    · subst e
      exact ⟨L, o4, hf, hn, ha, hnf⟩
    · exact ⟨L, o, hf, hn, (hs.2 L e).trans ho, hd⟩
abbrev suiteF (X : Cx) (a : Addr) (pn : List (Addr × Obj)) (xe : Value → Shared → Prop) : Cx := { X with A := X.A.mark (some (.ref a)), calm := false, pn := pn, xe := xe }
section
variable {X : Cx} {pins : List (Addr × Obj)} {σ : L2.St} {H : Hp} {s : Shared} {xe : Value → Shared → Prop}
theorem suiteF_of {a : Addr} {pn pn' : List (Addr × Obj)} (I : Inv (X.suite a pn) pn' σ H s) : Inv (suiteF X a pn xe) pn' σ H s := Inv.unwish (X := suiteF X a pn xe) (E := fun _ _ => False) I
theorem unsuiteF {a : Addr} {q : Addr × Obj} {pn' : List (Addr × Obj)} (I : Inv (suiteF X a (q :: (X.pn ++ pins)) xe) pn' σ H s) (ok : X.Ok) : Inv X pins σ H s :=
  Inv.unsuite (X := X) (a := a) (q := q) (pn' := pn') (show Inv (X.suite a (q :: (X.pn ++ pins))) pn' σ H s from I.wish fun _ _ => False) ok
end
theorem gone_flies {X : Cx} {Wout : WX} {pins : List (Addr × Obj)} {a : Addr} {q : Addr × Obj} {xe : Value → Shared → Prop} {i : Nat} {n : Str} {pos : Pos} {N : Value → Shared → Prop} {u : Value} {s' : Shared} (hs : X.stack = X.env :: X.outer) (hf : X.env.frame = some X.env.locals)
    (hN : X.N.Nodup) (hi : X.N[i]? = some n) (hln : X.env.kindOf n = some .local) (tk : Takes X Wout) (ok : X.Ok) (hNo : ∀ e s, X.xe e s → N e s) (x : XE (suiteF X a (q :: (X.pn ++ pins)) xe) (fun cls d σ H => Wout cls d (σ.set i none) H) u s') :
    wpAny (model X.prog X.w) (X.A.mark (some (.ref a))) (noteFrame u X.env) (fun _ s₃ => wpAny (model X.prog X.w) (X.A.mark (some (.ref a))) (do bindName X.env n .none; unbindBehindTheSuite X.env n pos)
      (fun _ s₄ => wpAny (model X.prog X.w) (X.A.mark (some (.ref a))) (PySem.passOn "try.except-as" u X.env : Sem Flow) (fun _ _ => False) N s₄)
      (fun y s₄ => wpAny (model X.prog X.w) (X.A.mark (some (.ref a))) (setFlight u none) (fun _ s₅ => N y s₅) N s₄) s₃) N s' := by
  obtain ⟨a2, B, sI, pins2, σ2, H2, cls2, d2, rfl, I2, nb, up, sky, na, os, ag, w⟩ := x
  have hfr : (X.A.mark (some (.ref a))).frames = some (X.env :: X.outer) := by
    show X.A.frames = _
    rw [ok.frames, hs]
  have I2' : Inv X pins σ2 H2 sI := unsuiteF I2 ok
  have sky' : Sky B (X.env :: X.outer) a2 (Zc cls2 d2) X.env.locals s'.heap := by rw [← hs]; exact sky
  have note : ∀ {Q : Unit → Shared → Prop} {E : Value → Shared → Prop}, (∀ h', HandSPX.HeldZ B (X.env :: X.outer) a2 (Zc cls2 d2) X.env.locals h' → s'.heap.UpToSlots h' → Q () { s' with heap := h' }) → wpAny (model X.prog X.w) (X.A.mark (some (.ref a))) (noteFrame (.ref a2) X.env) Q E s' := by
    intro Q E hQ
    rcases sky' with ⟨hB, hn, hl, oe, vs, he, hz, hd, h1⟩ | fl | hh
    · exact HandSPX.look_newZ Zc.steady hfr hl hf he hB hn hd h1 hz hQ
    · exact HandSPX.looks_onZ Zc.steady hfr hf fl hQ
    · exact HandSPX.againZ hf hh.2.2.2 (hQ s'.heap hh (Heap.UpToSlots.refl _))
  refine note fun h3 hh up3 => ?_
  have hL : X.env.locals ∈ frs X.stack := by
    rw [hs]
    exact List.mem_filterMap.mpr ⟨X.env, List.mem_cons_self, hf⟩
  obtain ⟨G, g1, g2⟩ := restrict h3 fun b => (B.get? b).isSome || decide (b ∈ frs X.stack)
  have gF : ∀ b, b ∈ frs X.stack → G.get? b = h3.get? b := fun b hb => g1 b (by simp [hb])
  have gB : ∀ b o, B.get? b = some o → G.get? b = some o := fun b o e => by
    rw [g1 b (by simp [e])]
    exact hh.1 b o e
  have og : ∀ b o, G.get? b = some o → h3.get? b = some o ∧ ((B.get? b).isSome = true ∨ b ∈ frs X.stack) := fun b o e => by
    cases z : ((B.get? b).isSome || decide (b ∈ frs X.stack)) with
    | false => rw [g2 b z] at e; cases e
    | true =>
      rw [g1 b z] at e
      exact ⟨e, by simpa [Bool.or_eq_true] using z⟩
  have I3 : Inv X pins σ2 H2 { s' with heap := G } := I2'.landed (s' := { s' with heap := G }) nb gB (fun b o e hnf => by
    by_cases hb : b ∈ frs X.stack
    · obtain ⟨sl, z⟩ := (up.trans up3) b o e hnf
      exact ⟨sl, (gF b hb).trans z⟩
    · exact ⟨o.slots, gB b o (nb b o e hb)⟩) os ag
  obtain ⟨m, hn, hlk⟩ := id I3.loc
  obtain ⟨oL, esL, epL, hoL, hdL, hkL, hmL⟩ := id hn
  have hn3 : h3.Ns X.env.locals m := ⟨oL, esL, epL, (gF _ hL).symm.trans hoL, hdL, hkL, hmL⟩
  have hcls : (X.env.scope.kind == .class || (X.env.scope.kind == .module && X.env.locals != X.env.globals)) = false := by rw [ok.kind]; rfl
  refine wpAny_nameGoes_keeps (s := { s' with heap := h3 }) hln hn3 hcls fun h4 v hn4 hs4 => ?_
  obtain ⟨o4, es4, ep4, ho4, hd4, hk4, hm4⟩ := id hn4
  have nf4 : ∀ vs, o4.data ≠ .fields vs := fun vs z => by rw [hd4] at z; cases z
  have gL : (G.update X.env.locals fun _ => o4).get? X.env.locals = some o4 := Heap.get?_update_self (fun _ => o4) hoL (Heap.get?_some_iff.mp ho4).2
  have sb : Heap.SameBut X.env.locals G (G.update X.env.locals fun _ => o4) := Heap.SameBut.update ..
  have I4 : Inv X pins (σ2.set i none) H2 { s' with heap := G.update X.env.locals fun _ => o4, toks := s'.toks + 1 } := gone_inv (s := { s' with heap := G }) I3 hN hi hlk ⟨o4, es4, ep4, gL, hd4, hk4, hm4⟩ sb
  obtain ⟨hk1, hk2, hk3, oe, vs, T, oT, ts, he, hz, hd, h1, hnT, hTe, hT, hdT, ht3⟩ := id hh
  have fl := hk3.mem (b := X.env.locals) (by rw [← hs]; exact hL)
  have BL : B.get? X.env.locals = none := fl.1
  obtain ⟨oL3, hL3, nfL3⟩ := fl.2
  have ne2 : a2 ≠ X.env.locals := fun z => by
    rw [z, hL3] at he
    cases he
    exact nfL3 _ hd
  have neT : T ≠ X.env.locals := fun z => by
    rw [z, hL3] at hT
    cases hT
    exact nfL3 _ hdT
  have he4 : h4.get? a2 = some oe := (hs4.2 a2 ne2).trans he
  have st4 : B.StaysIn h4 := fun b o e => (hs4.2 b fun z => by rw [z, BL] at e; cases e).trans (hk1 b o e)
  have ff4 : h4.FunFrames B (X.env :: X.outer) := funFrames_but hs4 ho4 nf4 hk3
  have tr4 : HandSPX.TracedZ h4 B a2 (Zc cls2 d2) (rawInt X.env.locals) := ⟨oe, vs, T, oT, ts, he4, hz, hd, h1, hnT, hTe, (hs4.2 T neT).trans hT, hdT, ht3⟩
  unfold PySem.passOn
  refine wpAny_bind (wpAny_field (s := { s' with heap := h4, toks := s'.toks + 1 }) he4 hd h1 ?_)
  rw [if_neg (show ¬ ((Value.ref T == Value.none) = true) from by simp)]
  have fin : wpAny (model X.prog X.w) (X.A.mark (some (.ref a))) (setFlight (.ref a2) X.env.frame) (fun _ s5 => wpAny (model X.prog X.w) (X.A.mark (some (.ref a))) (throw (.ref a2) : Sem Flow) (fun _ _ => False) N s5) N { s' with heap := h4, toks := s'.toks + 1 } := by
    rw [hf]
    refine HandSPX.setFlight_anyZ (s := { s' with heap := h4, toks := s'.toks + 1 }) st4 ff4 tr4 fun h5 k1 k2 k3 k4 => wpAny_throw (hNo _ _ (tk _ _ ?_))
    refine ⟨a2, B, { s' with heap := G.update X.env.locals fun _ => o4, toks := s'.toks + 1 }, pins, σ2.set i none, H2, cls2, d2, rfl, I4, fun b o e hb => ?_, fun b o e hnf => ?_, .inr (.inr ?_), na, rfl, ag, w⟩
    · have nb2 : b ≠ X.env.locals := fun z => hb (z ▸ hL)
      obtain ⟨e2, r⟩ := og b o ((sb.2 b nb2).symm.trans e)
      rcases r with r | r
      · obtain ⟨o', z⟩ := Option.isSome_iff_exists.mp r
        have z2 := hk1 b o' z
        rw [e2] at z2
        cases z2
        exact z
      · exact absurd r hb
    · by_cases nb2 : b = X.env.locals
      · subst nb2
        have e' := gL.symm.trans e
        cases e'
        exact k4 _ _ ho4 hnf
      · obtain ⟨e2, _⟩ := og b o ((sb.2 b nb2).symm.trans e)
        exact k4 _ _ ((hs4.2 b nb2).trans e2) hnf
    · rw [hs]
      exact ⟨k1, hk2, k2, k3⟩
  first
    | exact wpAny_bind (wpAny_pure (wpAny_bind fin))
    | exact wpAny_bind fin

abbrev deadE : Ends := { nx := fun _ _ => False, rt := fun _ _ => False }
def wFrom (K : Fg) (c : Value) (i : Nat) (ts : Addr → Value → Option Addr → TS) (Wout : WX) : WX := fun cls d σ H =>
  ∃ b, PySem.W.exmOne K cls c = some b ∧ (b = true → ∀ a, H a = none → ts a cls d deadE (σ.set i (some (.ref a))) H) ∧ (b = false → Wout cls d σ H)
section
variable {X : Cx} {x n : Str} {c : Value} {i : Nat} {body suite : List Stmt} {b₀ : Stmt} {np pos pos' : Pos} {tb : WX → TS} {ts : Addr → Value → Option Addr → TS} {Wout : WX}
theorem ps_try_from (hs : X.stack = X.env :: X.outer) (hf : X.env.frame = some X.env.locals) (hN : X.N.Nodup) (hi : X.N[i]? = some n) (hln : X.env.kindOf n = some .local) (hc : Names X x c) (hpa : ∀ hd : Option Value, PassesOwnAt (model X.prog X.w) (X.A.mark hd) X.A X.env X.xe) (tk : Takes X Wout)
    (hb : ∀ (W : WX) (pn : List (Addr × Obj)) (xe : Value → Shared → Prop), L2N.Takes (X.tr pn xe) W → PassesOwn (model X.prog X.w) X.A X.env xe → PSs (X.tr pn xe) body (tb W))
    (hsu : ∀ (a : Addr) (oe : Obj) (cls : Value) (d : Option Addr) (pn : List (Addr × Obj)) (xe : Value → Shared → Prop), L2N.Zn cls d oe → (∃ vs, oe.data = .fields vs) → Takes (suiteF X a ((a, oe) :: pn) xe) (fun cls d σ H => Wout cls d (σ.set i none) H) → L2H.HotC (suiteF X a ((a, oe) :: pn) xe) →
      PSs (suiteF X a ((a, oe) :: pn) xe) (b₀ :: suite) (ts a cls d)) :
    PS X (.Try body [.ExceptHandler (some (.Name x np)) (some n) (b₀ :: suite) pos'] [] [] pos) (fun D σ H => tb (wFrom X.K c i ts Wout) D σ H) := by
  refine ⟨fun pins s σ H D I h => ?_⟩
  have ok := I.ok
  have hfr : X.A.frames = some (X.env :: X.outer) := by rw [ok.frames, hs]
  have hloc : Loc X.env.scope n := .inl hln
  refine wpAny_Try_except ?_
  refine wpAny_mono ((hb (wFrom X.K c i ts Wout) (X.pn ++ pins) (fun e s₁ => wpAny (model X.prog X.w) X.A (noteFrame e X.env) (fun _ s₂ => wpAny (model X.prog X.w) X.A (setFlight e none) (fun _ s₃ =>
    wpAny (model X.prog X.w) X.A (handleBy e X.env [.ExceptHandler (some (.Name x np)) (some n) (b₀ :: suite) pos']) (SP X pins D) X.xe s₃) X.xe s₂) X.xe s₁) (fun u s' xx => ?_) PassesOwn.looking).run [] s σ H D (I.toTry _) h) (fun f s1 hsp => ?_) (fun e s1 he => he)
  · obtain ⟨a, B, sI, pins', σ', H', cls, d, rfl, J', nb, up, sky, na, os, ag, b, hb1, hyes, hno⟩ := xx
    have J : Inv X pins σ' H' sI := J'.ofTry ok
    have sky' : Sky B (X.env :: X.outer) a (L2N.Zn cls d) X.env.locals s'.heap := by rw [← hs]; exact sky
    show wpAny (model X.prog X.w) X.A (noteFrame (.ref a) X.env) _ _ _
    refine L2N.Sky.land L2N.Zn.steady hfr hf sky' fun h3 fl3 up3 => ?_
    have J3 : Inv X pins σ' H' { s' with heap := h3 } := J.landed nb fl3.1 (up.trans up3) os ag
    obtain ⟨oe3, vs3, he3, hz3, hd3⟩ := fl3.there
    have notFr : ∀ {h : Heap} {o : Obj} {vs : Array Value}, h.FunFrames B (X.env :: X.outer) → h.get? a = some o → o.data = .fields vs → a ∉ frs (X.env :: X.outer) := fun {h o vs} ff e dd hm => by
      obtain ⟨_, o', e', hnf⟩ := ff.mem hm
      rw [e] at e'; cases e'
      exact hnf _ dd
    have nfr := notFr fl3.2.2.1 he3 hd3
    have nL : a ≠ X.env.locals := fun z => nfr (List.mem_filterMap.mpr ⟨X.env, List.mem_cons_self, by rw [hf, z]⟩)
    have nF : a ∉ X.fs := fun hm => by
      obtain ⟨e, he, q⟩ := List.mem_filterMap.mp hm
      exact nfr (List.mem_filterMap.mpr ⟨e, List.mem_cons_of_mem _ he, q⟩)
    have S3 := J3.suite he3 hd3 na nL nF
    refine wpAny_handleBy_cons (codeAny_handlers_test ?_) (by intro q; cases q)
    have LT : PySem.W.Looks (model X.prog X.w) h3 (typeOf (.ref a)) cls := fun A Q E s k q => wpAny_typeOf_ref (k _ _ he3) (by rw [hz3.1]; exact q)
    have LM := PySem.W.exm_one (M := model X.prog X.w) (J3.kIn) LT hb1
    have test : ∀ {Q : Value → Shared → Prop} {E : Value → Shared → Prop}, Q c { s' with heap := h3 } → wpAny (model X.prog X.w) (X.A.mark (some (.ref a))) (eval (.Name x np) X.env) Q E { s' with heap := h3 } := fun {Q E} q => by
      obtain ⟨hg, hdbg, hm | ⟨hm, hv, hnn⟩⟩ := hc
      · exact ld_glob (X := X.suite a ((a, oe3) :: (X.pn ++ pins))) S3 hg hm q hdbg
      · exact ld_blt (X := X.suite a ((a, oe3) :: (X.pn ++ pins))) S3 hg hm hv q hnn hdbg
    refine test (LM.here ?_)
    cases b with
    | true =>
      refine codeAny_handlers_suite_as ?_
      refine HandSPX.lands_againZ fl3 fun h4 fl4 up4 => ?_
      have J4 : Inv X pins σ' H' { s' with heap := h4 } := J.landed nb fl4.1 ((up.trans up3).trans up4) os ag
      obtain ⟨oe4, vs4, he4, hz4, hd4⟩ := fl4.there
      have S4 := J4.suite he4 hd4 na nL nF
      refine store_ok (X := X.suite a ((a, oe4) :: (X.pn ++ pins))) (v := .ref a) S4 hN hi hloc rfl (fun s5 S5 => ?_) (.inr hln)
      refine wpAny_mono ((hsu a oe4 cls d (X.pn ++ pins) _ hz4 ⟨_, hd4⟩ (fun u2 s2 x2 => ?_) ⟨(a, oe4), ⟨rfl, vs4, hd4, hz4.2.2 vs4 hd4⟩, List.mem_cons_self⟩).run [] s5 _ H' _ (suiteF_of S5) (hyes rfl a na)) (fun f s6 hsp => ?_) (fun e6 s6 z => z)
      · exact gone_flies hs hf hN hi hln tk ok (fun e s z => hpa (some (.ref a)) e s z) x2
      · cases f with
        | next => obtain ⟨_, _, _, z⟩ := hsp; exact z.elim
        | brk => obtain ⟨_, _, _, z⟩ := hsp; exact z.elim
        | cont => obtain ⟨_, _, _, z⟩ := hsp; exact z.elim
        | ret u => obtain ⟨_, _, _, _, _, z⟩ := hsp; exact z.elim
    | false =>
      show wpAny _ X.A (handleBy (.ref a) X.env []) _ _ _
      refine wpAny_handleBy_nil ?_
      have fl3' := L2H.flyingZ_imp (fun o z => z.zc) fl3
      obtain ⟨k1, k2, k3, oe, vs, T, oT, ts', he, hz, hd, h1, hr⟩ := id fl3
      unfold PySem.passOn
      refine wpAny_bind (wpAny_field he hd h1 ?_)
      rw [if_neg (show ¬ ((Value.ref T == Value.none) = true) from by simp)]
      have fin : wpAny (model X.prog X.w) X.A (setFlight (.ref a) X.env.frame) (fun _ s4 => wpAny (model X.prog X.w) X.A (throw (.ref a) : Sem Flow) (SP X pins D) X.xe s4) X.xe { s' with heap := h3 } := by
        rw [hf]
        refine HandSPX.setFlight_upZ fl3' fun h4 hh4 up4 => wpAny_throw (tk _ _ ?_)
        exact ⟨a, B, sI, pins, σ', H', cls, d, rfl, J, nb, (up.trans up3).trans up4, .inr (.inr (by rw [hs]; exact hh4)), na, os, ag, hno rfl⟩
      first
        | exact wpAny_bind (wpAny_pure (wpAny_bind fin))
        | exact wpAny_bind fin
  · cases f with
    | next =>
      obtain ⟨σ', H', J', q⟩ := hsp
      exact wpAny_execs_nil ⟨σ', H', J'.ofTry ok, q⟩
    | brk =>
      obtain ⟨σ', H', J', q⟩ := hsp
      exact ⟨σ', H', J'.ofTry ok, q⟩
    | cont =>
      obtain ⟨σ', H', J', q⟩ := hsp
      exact ⟨σ', H', J'.ofTry ok, q⟩
    | ret u =>
      obtain ⟨v, σ', H', J', r, q⟩ := hsp
      exact ⟨v, σ', H', J'.ofTry ok, r, q⟩
end
def causeFrom (h : Heap) (a c : Addr) : Heap := (h.update a (Obj.mapFields (·.setIfInBounds 3 (.ref c)))).update a (Obj.mapFields (·.setIfInBounds 4 (.bool true)))
theorem causeFrom_at {h : Heap} {a c : Addr} {oe : Obj} {vs : Array Value} (ha : h.get? a = some oe) (hd : oe.data = .fields vs) :
    (causeFrom h a c).get? a = some ((oe.mapFields (·.setIfInBounds 3 (.ref c))).mapFields (·.setIfInBounds 4 (.bool true))) ∧ ((oe.mapFields (·.setIfInBounds 3 (.ref c))).mapFields (·.setIfInBounds 4 (.bool true))).data = .fields ((vs.setIfInBounds 3 (.ref c)).setIfInBounds 4 (.bool true)) := by
  have hd3 := Obj.data_mapFields hd (·.setIfInBounds 3 (.ref c))
  have ha3 := Heap.get?_update_self (Obj.mapFields (·.setIfInBounds 3 (.ref c))) ha (Obj.isFreed_of_fields hd3)
  have hd4 := Obj.data_mapFields hd3 (·.setIfInBounds 4 (.bool true))
  exact ⟨Heap.get?_update_self (Obj.mapFields (·.setIfInBounds 4 (.bool true))) ha3 (Obj.isFreed_of_fields hd4), hd4⟩
theorem causeFrom_other {h : Heap} {a b c : Addr} (hne : a ≠ b) : (causeFrom h a c).get? b = h.get? b := by
  unfold causeFrom
  rw [Heap.get?_update_other _ _ hne, Heap.get?_update_other _ _ hne]
open HotX in
theorem raise_made_hotC {prog : Program} {w : World} {A : Around} {E : Value → Shared → Prop} {env : Env} {s : Shared} {x c : Sem Value} {Q : Flow → Shared → Prop} {x1 : Addr}
    (h : wpAny (model prog w) A x (fun v s₁ => ∃ a oe vs cls o1 vs1 cls1, v = .ref a ∧ s₁.heap.get? a = some oe ∧ oe.cls = cls ∧ oe.data = .fields vs ∧ vs[1]? = some .none ∧ 4 < vs.size ∧ x1 ≠ a ∧ HotAt A x1 s₁.heap ∧
      (∀ Q' : Value → Shared → Prop, Q' (.ref x1) s₁ → wpAny (model prog w) A c Q' E s₁) ∧ s₁.heap.get? x1 = some o1 ∧ o1.data = .fields vs1 ∧ o1.cls = cls1 ∧ PySem.W.Looks (model prog w) s₁.heap (isSubtype cls1 (.type "BaseException")) true ∧
      PySem.W.Looks (model prog w) s₁.heap (isSubtype cls (.type "BaseException")) true ∧ PySem.W.Looks (model prog w) (causeFrom s₁.heap a x1) (typeOf cls) (.type "type") ∧
      E (.ref a) { s₁ with heap := (causeFrom s₁.heap a x1).update a (Obj.mapFields (·.setIfInBounds 2 (.ref x1))) }) E s) :
    wpAny (model prog w) A (raiseStmt env (some x) (some c)) Q E s := by
  unfold raiseStmt
  dsimp only
  refine wpAny_bind (wpAny_mono h (fun v s₁ h₁ => ?_) fun _ _ x => x)
  obtain ⟨a, oe, vs, cls, o1, vs1, cls1, rfl, ha, hcls, hd, h1, hi, hne, hot, hcs, hx1, hdx1, hcx1, L0, L1, L3, hE⟩ := h₁
  have LT : PySem.W.Looks (model prog w) s₁.heap (typeOf (.ref a)) cls := fun A Q E s k q => wpAny_typeOf_ref (k _ _ ha) (by rw [hcls]; exact q)
  have LI : PySem.W.Looks (model prog w) s₁.heap (isInstance (.ref a) (.type "BaseException")) true := LT.andThen L1
  have LT0 : PySem.W.Looks (model prog w) s₁.heap (typeOf (.ref x1)) cls1 := fun A Q E s k q => wpAny_typeOf_ref (k _ _ hx1) (by rw [hcx1]; exact q)
  have LI0 : PySem.W.Looks (model prog w) s₁.heap (isInstance (.ref x1) (.type "BaseException")) true := LT0.andThen L0
  have hnt : ∀ {Q' : Bool → Shared → Prop}, Q' false s₁ → wpAny (model prog w) A (isType (.ref a)) Q' E s₁ := by
    intro Q' hq
    simp only [isType, loadHead]
    refine wpAny_bind (wpAny_loadPart ha ?_)
    rw [hd]; exact wpAny_pure hq
  have hnt0 : ∀ {Q' : Bool → Shared → Prop}, Q' false s₁ → wpAny (model prog w) A (isType (.ref x1)) Q' E s₁ := by
    intro Q' hq
    simp only [isType, loadHead]
    refine wpAny_bind (wpAny_loadPart hx1 ?_)
    rw [hdx1]; exact wpAny_pure hq
  have hd3 := Obj.data_mapFields hd (·.setIfInBounds 3 (.ref x1))
  have ha3 := Heap.get?_update_self (Obj.mapFields (·.setIfInBounds 3 (.ref x1))) ha (Obj.isFreed_of_fields hd3)
  obtain ⟨ha4, hd4⟩ := causeFrom_at (c := x1) ha hd
  have s3 : 3 < vs.size := by omega
  have s4 : 4 < (vs.setIfInBounds 3 (Value.ref x1)).size := by rw [set_size]; exact hi
  have s2 : 2 < ((vs.setIfInBounds 3 (Value.ref x1)).setIfInBounds 4 (Value.bool true)).size := by rw [set_size, set_size]; omega
  have h14 : ((vs.setIfInBounds 3 (Value.ref x1)).setIfInBounds 4 (Value.bool true))[1]? = some Value.none := set_other (by decide) (set_other (by decide) h1)
  have hcls4 : ((oe.mapFields (·.setIfInBounds 3 (.ref x1))).mapFields (·.setIfInBounds 4 (.bool true))).cls = cls := by rw [Obj.cls_mapFields, Obj.cls_mapFields]; exact hcls
  have LT4 : PySem.W.Looks (model prog w) (causeFrom s₁.heap a x1) (typeOf (.ref a)) cls := fun A Q E s k q => wpAny_typeOf_ref (k _ _ ha4) (by rw [hcls4]; exact q)
  have hnt4 : ∀ {Q' : Bool → Shared → Prop}, Q' false { s₁ with heap := causeFrom s₁.heap a x1 } → wpAny (model prog w) A (isType (.ref a)) Q' E { s₁ with heap := causeFrom s₁.heap a x1 } := by
    intro Q' hq
    simp only [isType, loadHead]
    refine wpAny_bind (wpAny_loadPart ha4 ?_)
    rw [hd4]; exact wpAny_pure hq
  have hot4 : HotAt A x1 (causeFrom s₁.heap a x1) := by
    obtain ⟨q1, o, vs', q2, q3, q4⟩ := hot
    exact ⟨q1, o, vs', by rw [causeFrom_other (Ne.symm hne)]; exact q2, q3, q4⟩
  have rest : wpAny (model prog w) A (do
      let b ← isType (.ref a)
      if b = true then do
        let e ← holding [.ref a] (raisedFor (.ref a) (.ref a))
        setFlight e none
        raiseNew e
      else do
        let e ← raisedInstance (.ref a)
        setFlight e none
        raiseNew e : Sem Flow) Q E { s₁ with heap := causeFrom s₁.heap a x1 } := by
    refine wpAny_bind (hnt4 ?_)
    simp only [Bool.false_eq_true, if_false]
    unfold raisedInstance
    refine wpAny_bind (wpAny_bind (LT4.here (wpAny_bind (L3.here ?_))))
    rw [if_pos (beq_self_eq_true _)]
    refine wpAny_pure ?_
    unfold setFlight
    refine wpAny_bind (wpAny_bind (wpAny_field ha4 hd4 h14 ?_))
    rw [if_neg (by decide)]
    refine wpAny_pure ?_
    exact raiseNew_hot hot4 hne ha4 hd4 s2 hE
  refine wpAny_bind (wpAny_holding (hcs _ (wpAny_bind (wpAny_pure ?_))))
  dsimp only
  refine wpAny_bind (wpAny_holding ?_)
  unfold excFromValue isExcClass
  refine wpAny_bind (wpAny_bind (hnt ?_))
  simp only [Bool.false_eq_true, if_false]
  refine wpAny_pure ?_
  simp only [Bool.false_eq_true, if_false]
  refine wpAny_bind (LI.here ?_)
  simp only [if_true]
  refine wpAny_pure ?_
  rw [if_neg (show ¬ ((Value.ref x1 == Value.none) = true) from by simp)]
  have cause : ∀ {Q' : Value → Shared → Prop}, Q' (.ref x1) s₁ → wpAny (model prog w) A (holding [Value.ref a] (excFromValue (.ref x1) "exception causes must derive from BaseException")) Q' E s₁ := by
    intro Q' hq
    refine wpAny_holding ?_
    unfold excFromValue isExcClass
    refine wpAny_bind (wpAny_bind (hnt0 ?_))
    simp only [Bool.false_eq_true, if_false]
    refine wpAny_pure ?_
    simp only [Bool.false_eq_true, if_false]
    refine wpAny_bind (LI0.here ?_)
    simp only [if_true]
    exact wpAny_pure hq
  exact wpAny_bind (cause (wpAny_bind (wpAny_setField ha hd s3 (wpAny_bind (wpAny_setField ha3 hd3 s4 rest)))))
open HotX L2H in
theorem ps_raiseC {X : Cx} {W : WX} {e : Expr} {n : Str} {t : L2.St → Hp → XK → Prop} {i : Nat} {cpos pos : Pos} {a0 : Addr} {oe0 : Obj} {cls0 : Value} {d0 : Option Addr} (hp : (a0, oe0) ∈ X.pn) (hh : X.A.handled = some (.ref a0)) (hz0 : L2N.Zn cls0 d0 oe0) (hv0 : ∃ vs, oe0.data = .fields vs) (hr0 : Raises X cls0)
    (hN : X.N[i]? = some n) (hln : X.env.kindOf n = some .local) (tk : Takes X W) (he : PMk5 X e t) (hdb : (n == ("__debug__" : Str)) = false := by decide) :
    PS X (.Raise (some e) (some (.Name n cpos)) pos) (fun _ σ H => σ[i]? = some (some (.ref a0)) ∧ t σ H fun cls d H' => W cls d σ H') := by
  refine ⟨fun pins s σ H D I ⟨hσ, h⟩ => ?_⟩
  obtain ⟨v1, e1⟩ := hv0
  have c1 : v1[2]? = some .none := hz0.2.2 v1 e1
  show wpAny _ _ (do standAt pos; raiseStmt X.env (some (do let v ← eval e X.env; standAt pos; pure v)) (some (do let v ← eval (.Name n cpos) X.env; standAt pos; pure v))) _ _ _
  refine wpAny_bind (wpAny_standAt (raise_made_hotC (x1 := a0) (wpAny_bind (wpAny_mono (he pins s σ H _ I h) (fun u s1 hu => wpAny_bind (wpAny_standAt (wpAny_pure ?_))) fun _ _ x => x))))
  obtain ⟨⟨a, oe, vs, sI, H', cls, d, rfl, J, k, hne, ha, hz, hd, h1, na, os, ag, r, q⟩, h5⟩ := hu
  have hi : 4 < vs.size := h5 a oe vs rfl ha hd
  have k4 : ∀ b u, sI.heap.get? b = some u → (causeFrom s1.heap a a0).get? b = some u := fun b u z => by
    have nab : a ≠ b := fun y => by
      rw [← y, hne] at z
      cases z
    rw [causeFrom_other nab]
    exact k b u z
  obtain ⟨r1, _⟩ := r (model X.prog X.w) s1.heap (J.kIn.keeps k)
  obtain ⟨_, r2⟩ := r (model X.prog X.w) (causeFrom s1.heap a a0) (J.kIn.keeps k4)
  obtain ⟨r0, _⟩ := hr0 (model X.prog X.w) s1.heap (J.kIn.keeps k)
  have P1 := (J.pin (a0, oe0) (List.mem_append_left _ hp)).1
  have nap : a0 ≠ a := fun z => by
    rw [z, hne] at P1
    cases P1
  obtain ⟨ha4, hd4⟩ := causeFrom_at (c := a0) ha hd
  have h12 : (((vs.setIfInBounds 3 (Value.ref a0)).setIfInBounds 4 (Value.bool true)).setIfInBounds 2 (Value.ref a0))[1]? = some Value.none := set_other (by decide) (set_other (by decide) (set_other (by decide) h1))
  obtain ⟨m, hn, hl⟩ := id J.loc
  obtain ⟨u0, ru, lk⟩ := hl i n _ hN hσ (.inl hln)
  obtain rfl : u0 = Value.ref a0 := ru
  have hm : m n = some (.ref a0) := by
    rcases lk with ⟨_, hm⟩ | ⟨hk, _⟩
    · exact hm
    · rw [hln] at hk
      rcases hk with hk | hk <;> cases hk
  have nm : ∀ Q' : Value → Shared → Prop, Q' (.ref a0) s1 → wpAny (model X.prog X.w) X.A (do let v ← eval (.Name n cpos) X.env; standAt pos; pure v) Q' X.xe s1 := fun Q' hq =>
    wpAny_bind (wpAny_Name (wpAny_loadName_local J.ok.kind hln (hn.keeps k) hm (wpAny_bind (wpAny_standAt (wpAny_pure hq)))) hdb)
  refine ⟨a, oe, vs, cls, oe0, v1, cls0, rfl, ha, hz.1, hd, h1, hi, nap, ⟨hh, oe0, v1, k _ _ P1, e1, c1⟩, nm, k _ _ P1, e1, hz0.1, r0, r1, r2, tk _ _ (XE.new J (fun b u z => ?_) hne (Heap.get?_update_self _ ha4 (Obj.isFreed_of_fields (Obj.data_mapFields hd4 _)))
    ⟨by rw [Obj.cls_mapFields, Obj.cls_mapFields, Obj.cls_mapFields]; exact hz.1, by rw [HandSPX.dict_mapFields, HandSPX.dict_mapFields, HandSPX.dict_mapFields]; exact hz.2.1⟩ (Obj.data_mapFields hd4 _) h12 na os ag q)⟩
  have nab : a ≠ b := fun y => by
    rw [← y, hne] at z
    cases z
  show ((causeFrom s1.heap a a0).update a (Obj.mapFields (·.setIfInBounds 2 (.ref a0)))).get? b = some u
  rw [Heap.get?_update_other _ _ nab]
  exact k4 b u z
theorem fnH_of {P : Program} {w : World} {K : Fg} {mg : Str → Option Value} {base : Heap} {CX : CXT} {x qual : Str} {params : Arguments} {body : List Stmt} {scope : Scope} {dvs : List V} {kws : List (Str × V)} {f : Addr} {fd : FuncData} {N ps : List Str} {k : Nat} {sp : Sp}
    (F : FunD K x qual params body scope dvs kws f fd) (S : FnScope N ps scope) (len : ∀ vs H Q E, sp vs H Q E → vs.length = ps.length)
    (hbody : ∀ (cdv : Value) (A : Around) (outer : List Env) (s : Shared) (H : Hp) (vs : List V) (Q : VK) (E : XK) (p : Addr × Obj), L2H.RoomH k (A.deeper (envOfC qual scope s.heap.objs.size f cdv)) → sp vs H Q E →
      ∃ t, PSs (L2H.cxH CX P w K mg base N qual scope f cdv A outer s H E p) body t ∧ t { nx := fun _ H' => Q .non H', rt := Q } (L2.start N vs) H) : L2H.FnH P w K mg base CX (k + 1) f fd ps sp := by
  obtain ⟨oc, od, dV, kV, doc, pm, an, cdv, ct, osl, rfl, lk, hcd, _, _⟩ := F.ex
  exact L2H.fn_ofH lk hcd S len fun A outer s H vs Q E p _ hr hsp => hbody cdv A outer s H vs Q E p hr hsp
structure ExDH (P : Program) (w : World) (K : Fg) (mg : Str → Option Value) (base : Heap) (C : Str) (fs : List Str) (ok : List V → Prop) : Prop where
  f : OexX K mg C fs
  ex : ∃ fd ps, L2H.FnH P w K mg base (L2.CX P w) 1 (He.ma K (He.ga K C) "__init__") fd ps (spX (He.ga K C) fs ok) ∧ Binds K fd ps []
theorem exd_oneH {P : Program} {w : World} {K : Fg} {mg : Str → Option Value} {base : Heap} {C qual f1 : Str} {params : Arguments} {body : List Stmt} {scope : Scope} {fd : FuncData} {N ps : List Str} {ok : List V → Prop} {ta : TA}
    (f : OexX K mg C [f1]) (F : FunD K "__init__" qual params body scope [] [] (He.ma K (He.ga K C) "__init__") fd) (S : FnScope N ps scope) (hps : ps.length = 2) (hN : N.length = 2) (hbi : Binds K fd ps [])
    (hta : ∀ a x H Q, ok [x] → (∀ z, Q [.ref a, .str z] H) → ta [some (.ref a), some x] H Q)
    (hb : ∀ (cdv : Value) (A : Around) (outer : List Env) (s : Shared) (H : Hp) (E : XK) (p : Addr × Obj), L2H.RoomH 0 (A.deeper (envOfC qual scope s.heap.objs.size (He.ma K (He.ga K C) "__init__") cdv)) →
      PSs (L2H.cxH (L2.CX P w) P w K mg base N qual scope (He.ma K (He.ga K C) "__init__") cdv A outer s H E p) body (tSeq (tDrop (tVeI K ta)) (tOst K f1 (tVar 0) (tVar 1)))) : ExDH P w K mg base C [f1] ok := by
  refine ⟨f, fd, ps, fnH_of F S (fun vs H Q E ⟨a, xs, e, h, _⟩ => by rw [e, List.length_cons, h, hps]; rfl) fun cdv A outer s H vs Q E p hr ⟨a, xs, e, h1, h2, h3, h4⟩ => ⟨_, hb cdv A outer s H E p hr, ?_⟩, hbi⟩
  match xs, h1 with
  | [x], _ =>
    subst e
    have st : L2.start N [.ref a, x] = [some (.ref a), some x] := by unfold L2.start; rw [hN]; rfl
    rw [st]
    show ta _ _ _
    refine hta a x H _ h2 fun z => ⟨a, He.ga K C, [.str z], rfl, by simp, f.o, h3, ?_⟩
    refine ⟨x, rfl, .ref a, rfl, a, He.ga K C, rfl, f.o, f.n f1 (by simp), .inl ⟨h3, fun dx n ne => ?_⟩⟩
    exact h4 dx n ne
def okS1 : List D → Bool
  | [.str u] => decide (u.length ≤ 1000)
  | _ => false
def okS1v (vs : List V) : Prop := ∃ u : Str, vs = [.str u] ∧ u.length ≤ 1000
theorem okS1_ok {K : Fg} {F : Fp} {H : Hp} {vs : List V} {ds : List D} (r : Reps K F H vs ds) (h : okS1 ds = true) : okS1v vs := by
  unfold okS1 at h
  split at h
  · cases r with
    | cons r1 r2 =>
      cases r2
      cases r1
      exact ⟨_, rfl, of_decide_eq_true h⟩
  · cases h
theorem hta_cat1 {K : Fg} {a : Addr} {x : V} {H : Hp} {Q : List V → Hp → Prop} {s1 : Str} (l1 : s1.length ≤ 100) (h : okS1v [x]) (q : ∀ z, Q [.ref a, .str z] H) :
    tCons (tVar 0) (tCons (tOp (rAdd4 K) (tC (.str s1)) (tVar 1)) tNil) [some (.ref a), some x] H Q := by
  obtain ⟨u, e, h1⟩ := h
  injection e with e1 e
  subst e1
  exact ⟨_, rfl, _, rfl, cat_str (by omega) (q _)⟩
theorem raiseX_run {X : Cx} {W : WX} {τ : Type} [Sto τ] {C : Str} {fs : List Str} {okv : List V → Prop} {ok : List D → Bool} {ma : ME τ (List D)} {C0 : SC τ} {ρ : Rho} {t : τ} {σ : L2.St} {H : Hp} {En : Ends}
    (hok : ∀ {F : Fp} {H : Hp} {vs : List V} {ds : List D}, Reps X.K F H vs ds → ok ds = true → okv vs) (A : At X.K C0 ρ t σ H) (q : SPost X.K W C0 (Fo C0.F ρ σ) H (sRaiseX C fs ok ma ρ t) En) :
    L2.tMkO (He.ga X.K C) (spX (He.ga X.K C) fs okv) [] (tA X.K W ma) σ H fun cls d H' => W cls d σ H' := by
  refine useS A q fun ds t1 vs H1 e1 s1 A1 r1 q1 => ?_
  split at q1
  · rename_i hk
    obtain ⟨h1, h2, h3⟩ := hk
    have hv := r1.length
    refine ⟨by omega, fun a na => ?_⟩
    rw [List.append_nil]
    refine ⟨a, vs, rfl, by omega, hok r1 h3, upd_same, fun d hd ne => ⟨rfl, d, (fs.zip vs).reverse, upd_same, ?_, ?_, ?_⟩⟩
    · rw [upd_ne ne, upd_same]
    · rw [upd_ne ne] at hd; exact hd
    · have hd1 : H1 d = none := by rw [upd_ne ne] at hd; exact hd
      rw [upd_made na]
      have sm : ∀ F : Fp, Sm F H1 (upd H1 d (.xd (fs.zip vs).reverse)) := fun F b o _ e => by rw [upd_ne (fun z => by rw [z, hd1] at e; cases e)]; exact e
      have A2 := A1.next (sm _) (C0.stay A1.st (fun b o e => sm (fun _ => False) b o (fun z => z) e))
      refine q1 _ _ σ _ ⟨fun b o n e => sm (fun _ => False) b o (fun z => z) e, fun b h => .inl h⟩ A2 ⟨rfl, d, vs.reverse, rfl, ?_, ?_, ?_⟩
      · rw [upd_same]
        rw [zip_rev (by omega)]
      · rw [List.length_reverse, List.length_reverse]; omega
      · exact (Reps.rev r1).step ⟨sm _, fun b h => .inl h⟩
  · exact q1.elim
section
variable {X : Cx} {W : WX} {τ : Type} [Sto τ] {K : Fg}
def sTryC (mb : MS τ) (n0 : Str) (i : Nat) (C : Str) (fs : List Str) (ok : List D → Bool) (ma : ME τ (List D)) : MS τ := fun ρ t => match mb ρ t with
  | .ex n _ ρ' t' => if n = n0 ∧ i < ρ'.length then (match sRaiseX C fs ok ma (ρ'.set i .no) t' with
    | .ex n2 f2 ρ2 t2 => .ex n2 f2 (ρ2.set i .no) t2
    | _ => .bad) else .bad
  | r => r
theorem ms_tryC {x n C : Str} {c : Value} {i : Nat} {fs : List Str} {okv : List V → Prop} {ok : List D → Bool} {e : Expr} {es : List Expr} {body : List Stmt} {np cpos rpos p p2 pos pos' : Pos} {mb : MS τ} {n0 : Str} {ma : ME τ (List D)} (hs : X.stack = X.env :: X.outer) (hfr : X.env.frame = some X.env.locals) (hN : X.N.Nodup) (hi : X.N[i]? = some n) (hln : X.env.kindOf n = some .local) (hc : Names X x c)
    (hpa : ∀ hd : Option Value, PassesOwnAt (model X.prog X.w) (X.A.mark hd) X.A X.env X.xe) (tk : Takes X W) (hex : PySem.W.exmOne X.K (.ref (He.ga X.K n0)) c = some true)
    (h0b : PySem.W.subIn X.K (.ref (He.ga X.K n0)) (.type "BaseException") = some true) (h0t : PySem.W.typeIn X.K (.ref (He.ga X.K n0)) = some (.type "type"))
    (E : ExDH X.prog X.w X.K X.mg X.base C fs okv) (hr : Room 2 X.A) (hg : Gl X C)
    (hb : ∀ (W : WX) (pn : List (Addr × Obj)) (xe : Value → Shared → Prop), L2N.Takes (X.tr pn xe) W → PassesOwn (model X.prog X.w) X.A X.env xe → PSs (X.tr pn xe) body (tS X.K W mb))
    (ha : ∀ (a : Addr) (pn : List (Addr × Obj)) (xe : Value → Shared → Prop) (W : WX), Takes (suiteF X a pn xe) W → PA (suiteF X a pn xe) (e :: es) (tA X.K W ma))
    (hok : ∀ {F : Fp} {H : Hp} {vs : List V} {ds : List D}, Reps X.K F H vs ds → ok ds = true → okv vs) (hdb : (C == ("__debug__" : Str)) = false := by decide) (hdn : (n == ("__debug__" : Str)) = false := by decide)
    (he : starEach (e :: es) X.env = (false, eval e X.env) :: starEach es X.env := by rfl) (hpl : (backTo p2 (starEach es X.env)).any (·.1) = false := by rfl) :
    PS X (.Try body [.ExceptHandler (some (.Name x np)) (some n) [.Raise (some (.Call (.Name C p) (e :: es) [] p2)) (some (.Name n cpos)) rpos] pos'] [] [] pos) (tS X.K W (sTryC mb n0 i C fs ok ma)) := by
  obtain ⟨fd, ps, F1, hbi⟩ := E.ex
  refine PS.imp (ps_try_from (tb := fun W => tS X.K W mb)
    (ts := fun a cls d _ σ H => cls = .ref (He.ga X.K n0) ∧ (σ[i]? = some (some (.ref a)) ∧ L2.tMkO (He.ga X.K C) (spX (He.ga X.K C) fs okv) [] (tA X.K (fun cls d σ H => W cls d (σ.set i none) H) ma) σ H fun cls d H' => W cls d (σ.set i none) H')) hs hfr hN hi hln hc hpa tk hb
    fun a oe cls d pn xe hz hv tkS hot => PSs.pure fun ec => by
      subst ec
      exact pss_one (ps_raiseC (X := suiteF X a ((a, oe) :: pn) xe) (W := fun cls d σ H => W cls d (σ.set i none) H) List.mem_cons_self rfl hz hv (raises_own h0b h0t) hi hln tkS
        (L2H.pmk5_oexH (X := suiteF X a ((a, oe) :: pn) xe) (p := p) E.f.o E.f.i E.f.t F1 (L2H.roomH_mark hr _) hot hbi (passes_call (E := fun _ _ _ => False) tkS fun _ _ _ _ h => h.elim) hg E.f.g (ha a _ xe _ tkS) hdb he hpl) hdn)) fun En σ H ⟨C0, ρ, t, A, q⟩ => ?_
  refine ⟨C0, ρ, t, A, ?_⟩
  unfold sTryC at q
  cases eb : mb ρ t with
  | ex m f ρ' t' =>
    rw [eb] at q
    dsimp only at q
    split at q
    · rename_i em
      obtain ⟨em, il⟩ := em
      subst em
      intro cls dd σ' H' s' A' xr
      obtain ⟨ec, ed⟩ := id xr
      subst ec
      refine ⟨true, hex, fun _ a na => ⟨rfl, List.getElem?_set_self (by rw [A'.len]; exact il), ?_⟩, fun z => by cases z⟩
      have A1 := A'.clear i (some (V.ref a))
      have q' : SPost X.K (fun cls d σ H => W cls d (σ.set i none) H) C0 (Fo C0.F (ρ'.set i .no) (σ'.set i (some (V.ref a)))) H' (sRaiseX C fs ok ma (ρ'.set i .no) t') deadE := by
        cases er : sRaiseX C fs ok ma (ρ'.set i .no) t' with
        | ex n2 f2 ρ2 t2 =>
          rw [er] at q
          intro cls dd σ2 H2 s2 A2 x2
          have st : Stp (Fo C0.F ρ σ) H (Fo C0.F (ρ2.set i .no) (σ2.set i none)) H2 := s'.trans (Stp.trans ⟨fun b o n e => e, fun b h => .inl (Fo.setNo h)⟩ (s2.trans ⟨fun b o n e => e, fun b h => .inl (Fo.setNo h)⟩))
          exact q cls dd (σ2.set i none) H2 st (A2.clear i none) (x2.anti fun b h => Fo.setNo h)
        | nx ρ2 t2 => rw [er] at q; exact q.elim
        | rt d2 t2 => rw [er] at q; exact q.elim
        | bk ρ2 t2 => rw [er] at q; exact q.elim
        | ct ρ2 t2 => rw [er] at q; exact q.elim
        | bad => rw [er] at q; exact q.elim
      exact raiseX_run hok A1 q'
    · exact q.elim
  | nx ρ' t' => rw [eb] at q; exact q
  | rt d t' => rw [eb] at q; exact q
  | bk ρ' t' => rw [eb] at q; exact q
  | ct ρ' t' => rw [eb] at q; exact q
  | bad => rw [eb] at q; exact q
end
section
variable {τ : Type} {P : Pt τ} {ρ : Rho} {t : τ}
@[simp] theorem oS_tryC {mb : MS τ} {n : Str} {i : Nat} {C : Str} {fs : List Str} {ok : List D → Bool} {ma : ME τ (List D)} : oS (sTryC mb n i C fs ok ma ρ t) P = oS (mb ρ t) { P with ex := fun m _ ρ t => (m = n ∧ i < ρ.length) ∧ oE (ma (ρ.set i .no) t) (fun ds t => (ds.length = fs.length ∧ fs.length ≤ 9 ∧ ok ds = true) ∧ P.ex C (some (fs.reverse, ds.reverse)) ((ρ.set i .no).set i .no) t) (fun n f t => P.ex n f ((ρ.set i .no).set i .no) t) } := by
  unfold sTryC
  cases mb ρ t with
  | ex m f ρ' t' =>
    dsimp only
    by_cases q : m = n ∧ i < ρ'.length
    · rw [if_pos q]
      show oS (match sRaiseX C fs ok ma (ρ'.set i .no) t' with
        | .ex n2 f2 ρ2 t2 => .ex n2 f2 (ρ2.set i .no) t2
        | _ => .bad) P = ((m = n ∧ i < ρ'.length) ∧ _)
      unfold sRaiseX sDo
      cases ma (ρ'.set i .no) t' with
      | ok ds t1 =>
        dsimp only
        by_cases h : ds.length = fs.length ∧ fs.length ≤ 9 ∧ ok ds = true
        · rw [if_pos h]
          exact propext ⟨fun z => ⟨q, h, z⟩, fun z => z.2.2⟩
        · rw [if_neg h]
          exact propext ⟨fun z => z.elim, fun z => h z.2.1⟩
      | ex n2 f2 t1 => exact propext ⟨fun z => ⟨q, z⟩, fun z => z.2⟩
      | bad => exact propext ⟨fun z => z.elim, fun z => z.2.elim⟩
    · rw [if_neg q]
      exact propext ⟨fun z => z.elim, fun z => q z.1⟩
  | nx ρ' t' => rfl
  | rt d t' => rfl
  | bk ρ' t' => rfl
  | ct ρ' t' => rfl
  | bad => rfl
end
def TkC (X : Cx) (W : WX) : Prop := ∀ σ, PassesAt (L2N.CX X.prog X.w) X σ (WE W σ)
theorem tkC {X : Cx} {W : WX} (tk : L2N.Takes X W) : TkC X W := fun _ _ _ _ e s' I c => tk e s' (L2N.XE.of_call I (fun _ _ _ h => h) c)
theorem tk_cxN {P : Program} {w : World} {K : Fg} {mg : Str → Option Value} {base : Heap} {N : List Str} {qual : Str} {scope : Scope} {f : Addr} {cd : Value} {A : Around} {outer : List Env} {s : Shared} {H : Hp} {E : XK} :
    L2N.Takes (cxOf (L2N.CX P w) P w K mg base N qual scope f cd A outer s H E) (fun cls d _ H => E cls d H) := L2N.takes_of rfl rfl rfl rfl
theorem po_cxN {P : Program} {w : World} {K : Fg} {mg : Str → Option Value} {base : Heap} {N : List Str} {qual : Str} {scope : Scope} {f : Addr} {cd : Value} {A : Around} {outer : List Env} {s : Shared} {H : Hp} {E : XK} :
    PassesOwn (model (cxOf (L2N.CX P w) P w K mg base N qual scope f cd A outer s H E).prog (cxOf (L2N.CX P w) P w K mg base N qual scope f cd A outer s H E).w) (cxOf (L2N.CX P w) P w K mg base N qual scope f cd A outer s H E).A (cxOf (L2N.CX P w) P w K mg base N qual scope f cd A outer s H E).env (cxOf (L2N.CX P w) P w K mg base N qual scope f cd A outer s H E).xe := PassesOwn.leaving
theorem pa_cx {P : Program} {w : World} {K : Fg} {mg : Str → Option Value} {base : Heap} {N : List Str} {qual : Str} {scope : Scope} {f : Addr} {cd : Value} {A : Around} {outer : List Env} {s : Shared} {H : Hp} {E : XK} (hd : Option Value) :
    PassesOwnAt (model (cxOf (L2.CX P w) P w K mg base N qual scope f cd A outer s H E).prog (cxOf (L2.CX P w) P w K mg base N qual scope f cd A outer s H E).w) ((cxOf (L2.CX P w) P w K mg base N qual scope f cd A outer s H E).A.mark hd) (cxOf (L2.CX P w) P w K mg base N qual scope f cd A outer s H E).A (cxOf (L2.CX P w) P w K mg base N qual scope f cd A outer s H E).env (cxOf (L2.CX P w) P w K mg base N qual scope f cd A outer s H E).xe := L2H.passesAt_of rfl hd
theorem fn_mkN {τ : Type} [Sto τ] {P : Program} {w : World} {K : Fg} {mg : Str → Option Value} {base : Heap} {x qual : Str} {params : Arguments} {body : List Stmt} {scope : Scope} {dvs : List V} {kws : List (Str × V)} {f : Addr} {fd : FuncData} {N ps : List Str} {k : Nat}
    (F : FunD K x qual params body scope dvs kws f fd) (S : FnScope N ps scope) (mb : MS τ)
    (hb : ∀ (cdv : Value) (A : Around) (outer : List Env) (s : Shared) (H : Hp) (E : XK), Room k (A.deeper (envOfC qual scope s.heap.objs.size f cdv)) →
      PSs (cxOf (L2N.CX P w) P w K mg base N qual scope f cdv A outer s H E) body (tS K (fun cls d _ H => E cls d H) mb)) : FnOk P w K mg base (L2N.CX P w) (k + 1) f fd ps (spF ps.length K (runB N.length mb)) := by
  have hpl : ps.length ≤ N.length := by have := congrArg List.length S.pre; rw [List.length_take] at this; omega
  refine F.ok S (fun vs H Q E ⟨C, ds, t, _, _, r, hl, _⟩ => r.length.trans hl) fun cdv A outer s H vs Q E hr ⟨C, ds, t, okC, iv, r, hl, p⟩ => ⟨_, hb cdv A outer s H E hr, C, _, t, At.start okC iv r (by rw [hl]; exact hpl), ?_⟩
  unfold runB at p
  cases e : mb (ds.map Slot.val ++ List.replicate (N.length - ds.length) .no) t with
  | nx ρ' t' =>
    rw [e] at p
    exact fun σ' H' s' A' => p .non H' (fun b o n e => s'.keep b o (fun z => n (FoStart z)) e) (C.less A'.st fun _ => .inl) .non
  | rt d t' =>
    rw [e] at p
    exact fun v H' s' i r => p v H' (fun b o n e => s' b o (fun z => n (FoStart z)) e) i r
  | ex n fs ρ' t' =>
    rw [e] at p
    exact fun cls dd σ' H' s' A' x => p cls dd H' (fun b o n e => s'.keep b o (fun z => n (FoStart z)) e) (C.less A'.st fun _ => .inl) (x.anti fun _ => .inl)
  | bk ρ' t' => rw [e] at p; exact p.elim
  | ct ρ' t' => rw [e] at p; exact p.elim
  | bad => rw [e] at p; exact p.elim
structure DefN {τ : Type} [Sto τ] (P : Program) (w : World) (K : Fg) (mg : Str → Option Value) (base : Heap) (k : Nat) (x : Str) (np : Nat) (df : List D) (m : List D → τ → Res τ D) : Prop where
  ex : ∃ (fd : FuncData) (ps : List Str) (ds : List Value) (dvs : List V), FnOk P w K mg base (L2N.CX P w) k (He.ga K x) fd ps (spF np K m) ∧ mg x = some (.ref (He.ga K x)) ∧ PySem.W.keepIn K (.ref (He.ga K x)) = true ∧ Binds K fd ps ds ∧ Vals dvs ds ∧ (∀ F H, Reps K F H dvs df)
theorem DefN.mk' {τ : Type} [Sto τ] {P : Program} {w : World} {K : Fg} {mg : Str → Option Value} {base : Heap} {x qual : Str} {params : Arguments} {body : List Stmt} {scope : Scope} {dvs : List V} {kws : List (Str × V)} {fd : FuncData} {N ps : List Str} {k : Nat} {df : List D}
    (F : FunD K x qual params body scope dvs kws (He.ga K x) fd) (hm : mg x = some (.ref (He.ga K x))) (S : FnScope N ps scope) (mb : MS τ) (hb : ∃ ds dv, Vals dv ds ∧ Binds K fd ps ds ∧ ∀ F H, Reps K F H dv df)
    (hbody : ∀ (cdv : Value) (A : Around) (outer : List Env) (s : Shared) (H : Hp) (E : XK), Room k (A.deeper (envOfC qual scope s.heap.objs.size (He.ga K x) cdv)) →
      PSs (cxOf (L2N.CX P w) P w K mg base N qual scope (He.ga K x) cdv A outer s H E) body (tS K (fun cls d _ H => E cls d H) mb)) : DefN P w K mg base (k + 1) x ps.length df (runB N.length mb) := by
  obtain ⟨ds, dv, h1, h2, h3⟩ := hb
  exact ⟨fd, ps, ds, dv, fn_mkN F S mb hbody, hm, F.kp, h2, h1, h3⟩
theorem DefN.mono {τ : Type} [Sto τ] {P : Program} {w : World} {K : Fg} {mg : Str → Option Value} {base : Heap} {j k : Nat} {x : Str} {np : Nat} {df : List D} {m : List D → τ → Res τ D} (F : DefN P w K mg base j x np df m) (h : j ≤ k) : DefN P w K mg base k x np df m := by
  obtain ⟨fd, ps, ds, dv, F, r⟩ := F.ex
  exact ⟨fd, ps, ds, dv, F.mono h, r⟩
section
variable {X : Cx} {W : WX} {τ : Type} [Sto τ]
theorem me_callN {k np j : Nat} {x : Str} {df : List D} {m : List D → Unit → Res Unit D} {e : Expr} {es : List Expr} {p pos : Pos} {a : ME τ (List D)} (Df : DefN X.prog X.w X.K X.mg X.base k x np df m) (hr : Room k X.A) (tk : TkC X W) (hg : Gl X x) (hn : ALen a j)
    (ha : PA X (e :: es) (tA X.K W a)) (hdb : (x == ("__debug__" : Str)) = false := by decide) (hj : j + df.length = np := by rfl) (he : starEach (e :: es) X.env = (false, eval e X.env) :: starEach es X.env := by rfl) (hpl : (backTo pos (starEach es X.env)).any (·.1) = false := by rfl) :
    PE X (.Call (.Name x p) (e :: es) [] pos) (tE X.K W (eCall m df a)) := by
  obtain ⟨fd, ps, ds, dvs, F, hm, hk, hb, hd, hdf⟩ := Df.ex
  exact PE.imp (pe_callSD F hr hg hm hk hb hd tk ha hdb he hpl) fun _ _ _ p => call_red hdf hn hj p
def noEx1 (m : List D → Unit → Res Unit D) : List D → Unit → Res Unit D := fun ds u => match m ds u with
  | .ex .. => .bad
  | r => r
theorem callQ_red {np j : Nat} {K : Fg} {m : List D → Unit → Res Unit D} {df : List D} {dvs : List V} {a : ME τ (List D)} {σ : L2.St} {H : Hp} {Q : VK} (hd : ∀ F H, Reps K F H dvs df) (hn : ALen a j) (hj : j + df.length = np) (p : tE K W (eCall (noEx1 m) df a) σ H Q) :
    tCallSD (spF np K m) dvs (fun _ _ _ _ => False) (tA K W a) σ H Q := by
  obtain ⟨C, ρ, t, A, p⟩ := p
  refine use okE A p fun ds t1 vs H1 e1 s1 A1 r1 p1 => ?_
  refine ⟨SC.pure (Fo C.F ρ σ) H1 A1.dom, ds ++ df, (), trivial, ⟨Stp.refl _ _, fun _ _ _ e => e⟩, Reps.append r1 (hd _ _), by rw [List.length_append, hn _ _ _ _ e1, hj], ?_⟩
  unfold noEx1 at p1
  cases e : m (ds ++ df) () with
  | ok d u =>
    rw [e] at p1
    exact fun v H' s i r => p1 v H' (Sm.of_same (SC.pure_same i)) (C.stay A1.st (SC.pure_same i)) r
  | ex n fs u =>
    rw [e] at p1
    exact p1.elim
  | bad =>
    rw [e] at p1
    exact p1.elim
theorem me_callQ {k np j : Nat} {x : Str} {df : List D} {m : List D → Unit → Res Unit D} {e : Expr} {es : List Expr} {p pos : Pos} {a : ME τ (List D)} (Df : Def X.prog X.w X.K X.mg X.base k x np df m) (hr : Room k X.A) (hg : Gl X x) (hn : ALen a j)
    (ha : PA X (e :: es) (tA X.K W a)) (hdb : (x == ("__debug__" : Str)) = false := by decide) (hj : j + df.length = np := by rfl) (he : starEach (e :: es) X.env = (false, eval e X.env) :: starEach es X.env := by rfl) (hpl : (backTo pos (starEach es X.env)).any (·.1) = false := by rfl) :
    PE X (.Call (.Name x p) (e :: es) [] pos) (tE X.K W (eCall (noEx1 m) df a)) := by
  obtain ⟨fd, ps, ds, dvs, F, hm, hk, hb, hd, hdf⟩ := Df.ex
  exact PE.imp (pe_callSD F hr hg hm hk hb hd (E := fun _ _ _ _ => False) (fun _ _ _ _ _ _ _ c => by obtain ⟨_, _, _, _, _, _, _, _, _, _, _, _, z⟩ := c; exact z.elim) ha hdb he hpl) fun _ _ _ p => callQ_red hdf hn hj p
theorem ms_raiseN {e : Expr} {n : Str} {pos : Pos} (hc : X.calm = true) (tk : L2N.Takes X W) (h : L2N.PMk X e (fun _ H Q => Q (.ref (He.ga X.K n)) none H)) : PS X (.Raise (some e) none pos) (tS X.K W (sRaise (τ := τ) n)) := PS.imp (L2N.ps_raise hc tk h) fun E σ H ⟨C, ρ, t, A, p⟩ =>
  p _ _ σ H (Stp.refl _ _) A ⟨rfl, rfl⟩
theorem pmk_ownN {C : Addr} {bmB : List Value} {B newId initId : String} {x m : Str} {j : Nat} {p p2 pos : Pos} (F : ExcBaseFacts B newId initId bmB) (q : PySem.W.excIn X.K C bmB newId = true) (gC : X.mg x = some (.ref C)) (kC : PySem.W.keepIn X.K (.ref C) = true) (r : Raises X (.ref C)) (hg : Gl X x)
    (hdb : (x == ("__debug__" : Str)) = false := by decide) : L2N.PMk X (.Call (.Name x p) [.Constant (.str m) j p2] [] pos) (fun _ H Q => Q (.ref C) none H) := by
  intro pins s σ H Q I h
  refine wpAny_Call_Name_kw (ld_glob I hg gC ?_ hdb)
  have ha : PA X [.Constant (.str m) j p2] (tCons (tC (.str m)) tNil) := pa_cons pe_str pa_nil
  refine PySem.W.callWith_K (h₀ := X.base) I.ok.mod.kin kC (thn (ha.run pos pins s σ H (fun vs H1 => vs = [V.str m] ∧ H = H1) I ⟨rfl, rfl⟩) fun us s1 hh => ?_)
  obtain ⟨vs, H1, I1, r1, ev, eH⟩ := hh
  subst ev
  rw [← eH] at I1
  refine ⟨I1.kIn, ?_⟩
  cases r1 with
  | cons ru rn =>
    rename_i u us'
    cases rn
    show wpAny _ _ (call (.ref C) [u]) _ _ _
    obtain ⟨bm, N, nm, qn, bs, hdct, sn, sub, ab, col, dd, k0, k1, k2, k3, k5, mN, hC, hN, hni, T⟩ := exc_obj I1.kIn q
    refine wpAny_call_exc_subT F T hC hN hni (fun h' e hm => ?_) (by show 1 ≤ sizeLine; rw [sizeLine_eq]; omega)
    exact L2N.mk_of I1 hm r h (I1.hok.gone hm.new)
end
section
variable {τ : Type} {ρ : Rho} {t : τ} {X : Str → Fds → τ → Prop}
@[simp] theorem oE_noEx1 {m : List D → Unit → Res Unit D} {ds : List D} {u : Unit} {Q : D → Unit → Prop} {X : Str → Fds → Unit → Prop} : oE (noEx1 m ds u) Q X = oE (m ds u) Q (fun _ _ _ => False) := by
  unfold noEx1
  cases m ds u <;> rfl
end
end MM

namespace MM
open PySem PySem.Spec PyProof.Rows L2
theorem noteFrame_eq {u : Value} {env env' : Env} (h : env'.frame = env.frame) : noteFrame u env' = noteFrame u env := by
  unfold noteFrame PySem.frameOf
  rw [h]
def compPostX (M : Model) (A : Around) (E : Value → Shared → Prop) (use : Option (Value → Sem Unit)) (Q : Value → Shared → Prop) (acc : Value) (cenv : Env) (r : Result) (s' : Shared) : Prop :=
  match r, use with
  | .ok _, none => ∃ m, s'.heap.Ns cenv.locals m ∧ ∀ h', Heap.SameBut cenv.locals s'.heap h' → Q acc { s' with heap := h' }
  | .ok _, some u => wpAny M A (u acc) (fun _ s'' => ∃ m, s''.heap.Ns cenv.locals m ∧ ∀ h', Heap.SameBut cenv.locals s''.heap h' → Q .none { s'' with heap := h' }) E s'
  | .error x, _ => ∃ m, s'.heap.Ns cenv.locals m ∧ ∀ h', Heap.SameBut cenv.locals s'.heap h' → wpAny M A (PySem.passOn "comprehension.variables-let-go" x cenv : Sem Value) (fun _ _ => False) E { s' with heap := h' }
theorem wpAny_comprehension_X {M : Model} {A : Around} {E : Value → Shared → Prop} {s : Shared} {env : Env} {e : Expr} {scope : Scope} {pos : Pos} {newAcc first : Sem Value} {g : Comprehension} {gs : List Comprehension} {cl : List (Str × Addr)} {use : Option (Value → Sem Unit)}
    {Q : Value → Shared → Prop}
    (hcl : clausesOf e = g :: gs) (hs : ∀ x, foldedSetIterable g.iter env x = pure x) (hclos : closureFor scope env = pure cl)
    (hkind : scope.kind = .function) (hnames : ∀ x ∈ scope.names, x.2 = .local → scope.names.lookup x.1 = some .local)
    (h : wpAny M A first (fun x s₁ => wpAny M A (pyIter x) (fun it s₂ => wpAny M A newAcc (fun acc s₃ =>
      wpAny M A (newFunctionEnv scope env.globals cl [] env.qual none .none (some env)) (fun cenv s₄ =>
        codeAny M A (.compStart e 0 it acc { cenv with scope := relabel scope env }) (compPostX M A E use Q acc { cenv with scope := relabel scope env }) s₄) E s₃) E s₂) E s₁) E s) :
    wpAny M A (comprehension e scope env pos newAcc false first use) Q E s := by
  unfold comprehension
  rw [hclos, hcl]
  refine wpAny_bind (wpAny_mono h (fun x s₁ h₁ => wpAny_bind (wpAny_standAt (wpAny_bind (wpAny_of_eq (hs x) (wpAny_bind (wpAny_holding (wpAny_mono h₁ (fun it s₂ h₂ =>
    wpAny_standIf (wpAny_bind (wpAny_mono h₂ (fun acc s₃ h₃ => wpAny_bind (wpAny_pure (wpAny_bind (wpAny_mono h₃ (fun cenv s₄ h₄ => ?_) fun _ _ h' => h')))) fun _ _ h' => h')))
      fun _ _ h' => h'))))))) fun _ _ h' => h')
  dsimp only
  have hv : ∀ x ∈ (scope.names.filter fun x => (x.2 == .local || x.2 == .cell) && x.1 != (".0" : Str)).reverse, x.2 = .local →
      Env.kindOf { cenv with scope := relabel scope env } x.1 = some .local := fun x hx hl => lookup_relabel_local (hnames x (List.mem_filter.mp (List.mem_reverse.mp hx)).1 hl)
  have hv' : ∀ x ∈ (scope.names.filter fun x => (x.2 == .local || x.2 == .cell) && x.1 != (".0" : Str)).reverse.drop 1 ++ (scope.names.filter fun x => (x.2 == .local || x.2 == .cell) && x.1 != (".0" : Str)).reverse.take 1,
      x.2 = .local → Env.kindOf { cenv with scope := relabel scope env } x.1 = some .local := fun x hx hl => by
    rcases List.mem_append.mp hx with h1 | h1
    · exact hv x (List.mem_of_mem_drop h1) hl
    · exact hv x (List.mem_of_mem_take h1) hl
  refine wpAny_holding (wpAny_bind (wpAny_attempt (wpAny_holding (wpAny_run (codeAny_mono h₄ fun r s' hr => ?_)))))
  cases r with
  | ok f =>
    cases use with
    | none =>
      obtain ⟨m, hn, hr⟩ := hr
      exact wpAny_bind (wpAny_holding (wpAny_comp_letGo (cenv := { cenv with scope := relabel scope env }) hkind _ s' m hv hn fun h' m' _ hs' => wpAny_pure (hr h' hs')))
    | some u =>
      refine wpAny_bind (wpAny_rule (wpAny_bind (wpAny_holding (wpAny_mono hr (fun _ s'' hr' => ?_) fun _ _ h' => h'))))
      obtain ⟨m, hn, hr'⟩ := hr'
      exact wpAny_bind (wpAny_comp_letGo (cenv := { cenv with scope := relabel scope env }) hkind _ s'' m hv' hn fun h' m' _ hs' => wpAny_pure (hr' h' hs'))
  | error x =>
    have hr' : ∃ m, s'.heap.Ns cenv.locals m ∧ ∀ h', Heap.SameBut cenv.locals s'.heap h' → wpAny M A (PySem.passOn "comprehension.variables-let-go" x { cenv with scope := relabel scope env } : Sem Value) (fun _ _ => False) E { s' with heap := h' } := by cases use <;> exact hr
    obtain ⟨m, hn, hr⟩ := hr'
    exact wpAny_bind (wpAny_holding (wpAny_comp_letGo (cenv := { cenv with scope := relabel scope env }) hkind _ s' m hv hn fun h' m' _ hs' => wpAny_mono (hr h' hs') (fun _ _ f => f.elim) fun _ _ y => y))
def XEf (X : Cx) (W : WX) (u : Value) (s' : Shared) : Prop :=
  ∃ (a : Addr) (B : Heap) (sI : Shared) (pins : List (Addr × Obj)) (σ : L2.St) (H : Hp) (cls : Value) (d : Option Addr),
    u = .ref a ∧ Inv X pins σ H sI ∧ (∀ b o, sI.heap.get? b = some o → b ∉ frs X.stack → B.get? b = some o) ∧ sI.heap.UpToSlots s'.heap ∧
      HandSPX.FlyingZ B X.stack a (L2N.Zn cls d) s'.heap ∧ H a = none ∧ s'.os = sI.os ∧ AllBare s'.gens ∧ W cls d σ H
theorem XEf.of_call {X : Cx} {pins : List (Addr × Obj)} {σ : L2.St} {H : Hp} {s s' : Shared} {W : WX} {u : Value} (I : Inv X pins σ H s) (c : L2N.CX X.prog X.w X.stack H s (WE W σ) u s') : XEf X W u s' := by
  obtain ⟨a, B, H', cls, d, rfl, fl, hok, ub, na, os, ag, hE⟩ := c
  obtain ⟨G, g1, g2⟩ := restrict s'.heap fun b => (B.get? b).isSome || decide (b ∈ frs X.stack)
  have st : B.StaysIn s'.heap := fl.1
  have gB : ∀ b o, B.get? b = some o → G.get? b = some o := fun b o e => by
    rw [g1 b (by simp [e])]
    exact st b o e
  have gF : ∀ b, b ∈ frs X.stack → G.get? b = s'.heap.get? b := fun b hb => g1 b (by simp [hb])
  have og : ∀ b o, G.get? b = some o → s'.heap.get? b = some o ∧ ((B.get? b).isSome = true ∨ b ∈ frs X.stack) := fun b o e => by
    cases q : ((B.get? b).isSome || decide (b ∈ frs X.stack)) with
    | false => rw [g2 b q] at e; cases e
    | true =>
      rw [g1 b q] at e
      exact ⟨e, by simpa [Bool.or_eq_true] using q⟩
  refine ⟨a, B, { s with heap := G, gens := s'.gens, drawn := s'.drawn, toks := s'.toks }, pins, σ, H', cls, d, rfl, ?_, fun b o e hb => ?_, Heap.UpToSlots.of_keeps fun b o e => (og b o e).1, fl, na, os, ag, hE⟩
  · refine I.call (ch := []) ⟨fun b o e n hb _ => gB b o (ub.keep b o e n hb), fun b o e n hb _ => ?_, fun b o e n _ => ub.free b o e n, fun b o e _ => ?_, ub.tups, ub.frzs, ub.tbls⟩ (hok.kept gB) ag (fun _ z => nomatch z)
    · obtain ⟨sl, q⟩ := ub.slot b o e hb
      exact ⟨sl, by rw [gF b hb]; exact q⟩
    · by_cases hb : b ∈ frs X.stack
      · obtain ⟨sl, q⟩ := ub.slot b o e hb
        exact ⟨_, by rw [gF b hb]; exact q⟩
      · obtain ⟨o', q⟩ := ub.there b o e hb
        exact ⟨o', gB b o' q⟩
  · obtain ⟨e', h⟩ := og b o e
    rcases h with h | h
    · obtain ⟨o', q⟩ := Option.isSome_iff_exists.mp h
      have z := st b o' q
      rw [e'] at z; cases z
      exact q
    · exact absurd h hb
theorem funFrames_less {h h' B B' : Heap} (hB : ∀ b, B.get? b = none → B'.get? b = none) : ∀ {l : List Env}, (∀ b ∈ l.filterMap (·.frame), h'.get? b = h.get? b) → h.FunFrames B l → h'.FunFrames B' l
  | [], _, _ => trivial
  | env :: rest, k, ⟨hk, ⟨L, o, hf, hn, ho, hd⟩, hr⟩ => by
    have k' : ∀ b ∈ L :: rest.filterMap (·.frame), h'.get? b = h.get? b := fun b hb => k b (by rw [List.filterMap_cons, hf]; exact hb)
    exact ⟨hk, ⟨L, o, hf, hB L hn, (k' L List.mem_cons_self).trans ho, hd⟩, funFrames_less hB (fun b hb => k' b (List.mem_cons_of_mem _ hb)) hr⟩
abbrev blkX (X : Cx) (s : Shared) (H : Hp) (scope : Scope) (cenv : Env) (fp : List Addr) (xe : Value → Shared → Prop) : Cx := { X.blk s H scope cenv fp with xe := xe }
theorem comp_flies {X : Cx} {W : WX} {pins : List (Addr × Obj)} {σ : L2.St} {H3 : Hp} {s3 s' : Shared} {scope : Scope} {ce : Env} {fp : List Addr} {use : Option (Value → Sem Unit)} {Qf : Value → Shared → Prop} {E₁ : Value → Shared → Prop} {acc u : Value} (hst : X.stack = X.env :: X.outer) (hf : X.env.frame = some X.env.locals) (tk : L2N.Takes X W)
    (I3 : Inv X pins σ H3 s3) (cF : ce.frame = X.env.frame) (cL : ce.locals = s3.heap.objs.size) (f3 : ∀ b ∈ fp, FpOk X pins H3 b ∧ b < s3.heap.objs.size) (x : XEf (X.blk s3 H3 scope ce fp) (fun cls d _ H' => W cls d σ H') u s') :
    wpAny (model X.prog X.w) X.A (noteFrame u ce) (fun _ s'' => compPostX (model X.prog X.w) X.A X.xe use Qf acc ce (.error u) s'') E₁ s' := by
  obtain ⟨a, B, sI, pinsB, σB, HB, cls, d, rfl, IY, nb, up, fl, na, os, ag, w⟩ := x
  rw [noteFrame_eq cF]
  have fl' : HandSPX.FlyingZ B (X.env :: X.outer) a (L2N.Zn cls d) s'.heap := by rw [← hst]; exact fl
  have hfrA : X.A.frames = some (X.env :: X.outer) := by rw [I3.ok.frames, hst]
  refine PXN.looks_onZ L2N.Zn.steady hfrA hf fl' fun h3 hh up3 => ?_
  have IX : Inv X pins σ HB sI := I3.call' (ch := fp) IY.os IY.base IY.hok IY.bare fun b hb => ⟨(f3 b hb).1.2.2.2.1, (f3 b hb).1.2.1, (f3 b hb).1.2.2.2.2.1, (f3 b hb).1.2.2.2.2.2⟩
  have nC : HB ce.locals = none := IY.free
  obtain ⟨m, hn, _⟩ := id IY.loc
  have hn : sI.heap.Ns ce.locals m := hn
  have hn3 : h3.Ns ce.locals m := (up.trans up3).ns hn
  have fC : FpOk X pins HB ce.locals := I3.fpOk (Nat.le_of_eq cL.symm) nC
  have hCf : ce.locals ∉ frs X.stack := fun hm => (List.mem_cons.mp (I3.stkSub _ hm)).elim fC.2.1 fC.2.2.1
  have fin0 : ∀ {P : Prop}, P → (compPostX (model X.prog X.w) X.A X.xe use Qf acc ce (.error (.ref a)) { s' with heap := h3 } ↔ P) → compPostX (model X.prog X.w) X.A X.xe use Qf acc ce (.error (.ref a)) { s' with heap := h3 } := fun p e => e.mpr p
  refine fin0 ?_ (by cases use <;> exact Iff.rfl)
  refine ⟨m, hn3, fun h4 hs4 => ?_⟩
  obtain ⟨G, g1, g2⟩ := restrict sI.heap fun b => !decide (b = ce.locals)
  obtain ⟨B', b1, b2⟩ := restrict B fun b => !decide (b = ce.locals)
  have g1' : ∀ b, b ≠ ce.locals → G.get? b = sI.heap.get? b := fun b hb => g1 b (by simp [hb])
  have b1' : ∀ b, b ≠ ce.locals → B'.get? b = B.get? b := fun b hb => b1 b (by simp [hb])
  have gne : ∀ b o, G.get? b = some o → b ≠ ce.locals := fun b o e z => by rw [g2 b (by simp [z])] at e; cases e
  have bne : ∀ b o, B'.get? b = some o → b ≠ ce.locals := fun b o e z => by rw [b2 b (by simp [z])] at e; cases e
  have bnn : ∀ b, B.get? b = none → B'.get? b = none := fun b e => by
    by_cases hb : b = ce.locals
    · exact b2 b (by simp [hb])
    · exact (b1' b hb).trans e
  obtain ⟨f0, f1, f2, f3', f4, f5⟩ := fC
  have I4 : Inv X pins σ HB { sI with heap := G } := IX.turned (t' := sI.toks) (fun b o hb e => (g1' b hb).trans e) f0 f1 f3' f4 f5
  obtain ⟨k1, k2, k3, oe, vs, T, oT, ts, he, hz, hd, h1, hnT, hTe, hT, hdT, ht3⟩ := id hh
  obtain ⟨oC, esC, epC, hoC, hdC, _⟩ := id hn3
  have ne2 : a ≠ ce.locals := fun z => by
    rw [z, hoC] at he
    cases he
    rw [hdC] at hd
    cases hd
  have neT : T ≠ ce.locals := fun z => by
    rw [z, hoC] at hT
    cases hT
    rw [hdC] at hdT
    cases hdT
  have he4 : h4.get? a = some oe := (hs4.2 a ne2).trans he
  have st4 : B'.StaysIn h4 := fun b o e => (hs4.2 b (bne b o e)).trans (k1 b o ((b1' b (bne b o e)).symm.trans e))
  have ff4 : h4.FunFrames B' (X.env :: X.outer) := funFrames_less bnn (fun b hb => hs4.2 b fun z => hCf (by rw [hst, ← z]; exact hb)) k3
  have tr4 : HandSPX.TracedZ h4 B' a (L2N.Zn cls d) (rawInt X.env.locals) := ⟨oe, vs, T, oT, ts, he4, hz, hd, h1, bnn T hnT, hTe, (hs4.2 T neT).trans hT, hdT, ht3⟩
  unfold PySem.passOn
  refine wpAny_bind (wpAny_field (s := { s' with heap := h4 }) he4 hd h1 ?_)
  rw [if_neg (show ¬ ((Value.ref T == Value.none) = true) from by simp)]
  have fin : wpAny (model X.prog X.w) X.A (setFlight (.ref a) ce.frame) (fun _ s5 => wpAny (model X.prog X.w) X.A (throw (.ref a) : Sem Value) (fun _ _ => False) X.xe s5) X.xe { s' with heap := h4 } := by
    rw [cF, hf]
    refine HandSPX.setFlight_anyZ (s := { s' with heap := h4 }) st4 ff4 tr4 fun h5 l1 l2 l3 l4 => wpAny_throw (tk _ _ ?_)
    refine ⟨a, B', { sI with heap := G }, pins, σ, HB, cls, d, rfl, I4, fun b o e hb => ?_, fun b o e hnf => ?_, .inr (.inr ?_), na, os, ag, w⟩
    · exact (b1' b (gne b o e)).trans (nb b o ((g1' b (gne b o e)).symm.trans e) hb)
    · have hb := gne b o e
      obtain ⟨sl, e2⟩ := (up.trans up3) b o ((g1' b hb).symm.trans e) hnf
      obtain ⟨sl2, e3⟩ := l4 b _ ((hs4.2 b hb).trans e2) hnf
      exact ⟨sl2, e3⟩
    · rw [hst]
      exact ⟨l1, bnn a k2, l2, l3⟩
  first
    | exact wpAny_bind (wpAny_pure (wpAny_bind fin))
    | exact wpAny_bind fin
section
variable {X : Cx}
theorem lc_coreX {pins : List (Addr × Obj)} {s : Shared} {σ : L2.St} {H : Hp} {Q : VK} {elt tg iter : Expr} {ifs : List Expr} {scope : Scope} {own : List (Str × Nat)} {pos pos' : Pos} {wi : TI} {g : TG} {tt : TT} {te : WX → TE} {W : WX} {use : Option (Value → Sem Unit)} {Qf : Value → Shared → Prop}
    (hst : X.stack = X.env :: X.outer) (hf : X.env.frame = some X.env.locals) (tk : L2N.Takes X W) (hc : X.calm = true) (hN : X.N.Nodup) (I : Inv X pins σ H s) (hi : PI X tg iter wi) (ok : BlkOk X.N X.env.scope scope own)
    (hg : ∀ (s : Shared) (H : Hp) (C : Addr) (cl : List (Str × Addr)) (fp : List Addr), PG (X.blk s H scope (compEnvC scope cl C X.env) fp) tg g) (ht : ∀ (s : Shared) (H : Hp) (C : Addr) (cl : List (Str × Addr)) (fp : List Addr), PTs (X.blk s H scope (compEnvC scope cl C X.env) fp) ifs tt)
    (he : ∀ (s : Shared) (H : Hp) (C : Addr) (cl : List (Str × Addr)) (fp : List Addr) (xe : Value → Shared → Prop) (W : WX), TkC (blkX X s H scope (compEnvC scope cl C X.env) fp xe) W → PE (blkX X s H scope (compEnvC scope cl C X.env) fp xe) elt (te W)) (hs : ∀ x, foldedSetIterable iter X.env x = pure x)
    (h : tLc wi g tt (te fun cls d _ H' => W cls d σ H') (own.map (·.2)) σ H Q)
    (hRR : ∀ D s' m H' (ce : Env), Inv X pins σ H' s' → Q (.ref D) H' → s'.heap.Ns ce.locals m → FpOk X pins H' ce.locals → compPostX (model X.prog X.w) X.A X.xe use Qf (.ref D) ce (.ok .next) s') :
    wpAny (model X.prog X.w) X.A (comprehension (.ListComp elt [⟨tg, iter, ifs, 0⟩] scope pos) scope X.env pos' (newList []) false (eval iter X.env) use) Qf X.xe s := by
  have hfree : ∀ y ∈ scope.names, y.2 = .free → ∃ c, X.env.cells.lookup y.1 = some c := fun y hy e => by
    rcases ok.free y hy e with k | k
    · exact I.ok.has _ (.inl k)
    · exact I.ok.has _ (.inr k)
  refine wpAny_comprehension_X (use := use) rfl hs (closure_ok hfree) ok.kind (fun y hy e => by rw [ok.uniq y hy, e])
    (thn (hi.run pins s σ H _ I h) fun xv s1 hx => thn hx fun itv s2 h2 => ?_)
  obtain ⟨it, fp, tn, J, H2, e, I2, T, st2, f2, q⟩ := h2
  subst e
  refine wpAny_newObj_type (newEnv_comp ?_) (by show 0 ≤ sizeLine; decide)
  generalize hD : s2.heap.objs.size = D
  have hDn : H2 D = none := I2.hok.fresh (Nat.le_of_eq hD)
  obtain ⟨Wm, ⟨m0, w0⟩, turn⟩ := q D hDn
  -- the new list
  generalize hs3 : ({ s2 with heap := s2.heap.push { cls := .type "list", data := .seq ([] : List Value).toArray } } : Shared) = s3
  have I3 : Inv X pins σ (upd H2 D (.lst [])) s3 := by
    rw [← hs3]
    refine I2.laid (t' := s2.toks) (fun b o e => Heap.get?_push_of_some _ e) (Nat.le_of_eq hD) ⟨Nat.zero_le _, [], 0, .nil, ?_⟩
    rw [← hD]
    exact Heap.get?_push_size _ rfl
  have h3 : s3.heap = s2.heap.push { cls := .type "list", data := .seq ([] : List Value).toArray } := by rw [← hs3]
  have sz : ∀ b ∈ fp, b < s2.heap.objs.size := fun b hb => by
    obtain ⟨o, e, _⟩ := T.obj _ _ st2 b hb
    exact Heap.lt_size e
  have f3 : ∀ b ∈ fp, FpOk X pins (upd H2 D (.lst [])) b ∧ b < s3.heap.objs.size := fun b hb => by
    have hlt := sz b hb
    refine ⟨⟨?_, (f2 b hb).2⟩, by rw [h3, Heap.size_push]; exact Nat.lt_succ_of_lt hlt⟩
    rw [upd_ne (by rw [← hD]; exact Nat.ne_of_lt hlt)]
    exact (f2 b hb).1
  have st3 : tn 0 s3.heap := T.keep _ _ _ st2 fun b _ o e => by rw [h3]; exact Heap.get?_push_of_some _ e
  have I4 := block_start I3 ok hN f3
  have pg := hg s3 (upd H2 D (.lst [])) s3.heap.objs.size (cellsFrom (s3.heap.objs.size + 1) scope.names (cloFrom X.env.cells scope.names [])) fp
  have pt := ht s3 (upd H2 D (.lst [])) s3.heap.objs.size (cellsFrom (s3.heap.objs.size + 1) scope.names (cloFrom X.env.cells scope.names [])) fp
  have pe := fun xe W' => he s3 (upd H2 D (.lst [])) s3.heap.objs.size (cellsFrom (s3.heap.objs.size + 1) scope.names (cloFrom X.env.cells scope.names [])) fp xe W'
  show codeAny _ _ (.compStart (.ListComp elt [⟨tg, iter, ifs, 0⟩] scope pos) 0 (.ref it) (.ref D) (compEnvC scope (cellsFrom (s3.heap.objs.size + 1) scope.names (cloFrom X.env.cells scope.names [])) s3.heap.objs.size X.env)) (compPostX (model X.prog X.w) X.A X.xe use Qf (.ref D) (compEnvC scope (cellsFrom (s3.heap.objs.size + 1) scope.names (cloFrom X.env.cells scope.names [])) s3.heap.objs.size X.env)) { s3 with heap := pushCells (s3.heap.push { cls := .type "dict", data := .dict #[] }) scope.names }
  have nfp : ∀ b ∈ fp, (upd H2 D (.lst [])) b = none := fun b hb => (f3 b hb).1.1
  generalize hce : compEnvC scope (cellsFrom (s3.heap.objs.size + 1) scope.names (cloFrom X.env.cells scope.names [])) s3.heap.objs.size X.env = ce at I4 pg pt pe ⊢
  have cL : ce.locals = s3.heap.objs.size := by subst hce; rfl
  have cF : ce.frame = X.env.frame := by subst hce; rfl
  generalize hH3 : upd H2 D (.lst []) = H3 at I3 I4 pg pt pe w0 nfp f3
  generalize hs4 : ({ s3 with heap := pushCells (s3.heap.push { cls := .type "dict", data := .dict #[] }) scope.names } : Shared) = s4 at I4 ⊢
  have st4 : tn 0 s4.heap := T.keep _ _ _ st3 fun b _ o e => by rw [← hs4]; exact pushCells_keeps _ _ _ _ (Heap.get?_push_of_some _ e)
  have stat : ∀ {σ' : St} {H' : Hp} {s' : Shared}, Inv (X.blk s3 H3 scope ce fp) [] σ' H' s' → (∀ b ∈ fp, H' b = none) → ∀ b ∈ fp, FpOk (X.blk s3 H3 scope ce fp) [] H' b := fun {σ' H' s'} I' hn b hb =>
    ⟨hn b hb, (I'.ok.exf b hb).1, I'.ok.exfs b hb, .inl hb, fun x c e => (I'.ok.exf b hb).2 x c e, fun p hp => absurd (show p ∈ ([] : List (Addr × Obj)) ++ [] from hp) (by simp)⟩
  have loop : codeAny (model X.prog X.w) X.A (.compLoop (.ListComp elt [⟨tg, iter, ifs, 0⟩] scope pos) 0 (.ref it) (.ref D) ce) (compPostX (model X.prog X.w) X.A X.xe use Qf (.ref D) ce) s4 := by
    refine compLoop_any (fun n s' => ∃ i H', Inv (X.blk s3 H3 scope ce fp) [] (wipe σ (own.map (·.2))) H' s' ∧ tn i s'.heap ∧ (∀ b ∈ fp, H' b = none) ∧ Wm i n H') ?_ m0 ⟨0, H3, I4, st4, nfp, w0⟩
    rintro n s5 ⟨i, H5, I5, st5, n5, w5⟩
    rcases turn i n H5 w5 with ⟨stop, qq⟩ | ⟨go, Nx, hNx, step⟩
    · have td := T.done (X.blk s3 H3 scope ce fp) rfl rfl rfl hc i [] s5 _ H5 (fun _ _ => False) I5 (stat I5 n5) st5 stop
      refine thnF td fun r s6 ⟨hr, I6⟩ => ?_
      subst hr
      -- back in the def's context
      have I7 : Inv X pins σ H5 s6 := I3.call' (ch := fp) I6.os I6.base I6.hok I6.bare fun b hb => ⟨(f3 b hb).1.2.2.2.1, (f3 b hb).1.2.1, (f3 b hb).1.2.2.2.2.1, (f3 b hb).1.2.2.2.2.2⟩
      have nC : H5 ce.locals = none := I6.free
      obtain ⟨m, hn, _⟩ := I6.loc
      have hn : s6.heap.Ns ce.locals m := hn
      exact hRR D s6 m H5 ce I7 qq hn (I3.fpOk (Nat.le_of_eq cL.symm) nC)
    · have ti := T.item (X.blk s3 H3 scope ce fp) rfl rfl rfl hc i [] s5 _ H5 (fun _ _ => False) I5 (stat I5 n5) st5 go
      refine thnF ti fun r s6 ⟨u, hr, h6⟩ => ?_
      subst hr
      refine thnF h6 fun _ s7 ⟨x, H7, I7, r7, y7, st7, n7⟩ => ?_
      have I7' := I7.pinned (stat I7 n7) (T.obj _ _ st7)
      refine thnF (pg.run _ s7 _ H7 x u _ I7' r7 (step x H7 y7)) fun _ s8 ⟨σ8, H8, I8, hw8, q8⟩ => ?_
      refine thnF (pt.run _ s8 σ8 H8 _ I8 q8) fun b s9 ⟨H9, I9, q9⟩ => ?_
      -- the turn's end
      have fin : ∀ {s' : Shared} {H' : Hp}, Inv (X.blk s3 H3 scope ce fp) ([] ++ pinsAt fp s7.heap) σ8 H' s' → Nx H' → ∃ m, m < n ∧ ∃ i H', Inv (X.blk s3 H3 scope ce fp) [] (wipe σ (own.map (·.2))) H' s' ∧ tn i s'.heap ∧ (∀ b ∈ fp, H' b = none) ∧ Wm i m H' := fun {s' H'} I' nx => by
        obtain ⟨m', hm, w'⟩ := hNx H' nx
        have pin' : ∀ b ∈ fp, ∀ o, s7.heap.get? b = some o → s'.heap.get? b = some o ∧ H' b = none := fun b hb o e =>
          let z := I'.pin (b, o) (List.mem_append_right _ (List.mem_append_right _ (mem_pinsAt hb e)))
          ⟨z.1, z.2.1⟩
        have hl : (wipe σ (own.map (·.2))).length = σ8.length := by rw [← hw8, wipe_length]
        refine ⟨m', hm, i + 1, H', (I'.unpinned (pins := [])).weak hl (fun j v e => ?_), T.keep _ _ _ st7 fun b hb o e => (pin' b hb o e).1, fun b hb => ?_, w'⟩
        · rw [← hw8] at e
          exact (wipe_some e).1
        · obtain ⟨o, e, _⟩ := T.obj _ _ st7 b hb
          exact (pin' b hb o e).2
      cases b with
      | false =>
        simp only [Bool.false_eq_true, if_false] at q9 ⊢
        exact fin I9 q9
      | true =>
        simp only [if_true] at q9 ⊢
        refine wpAny_mono ((pe (XEf (X.blk s3 H3 scope ce fp) fun cls d _ H' => W cls d σ H') _ fun σ' pins' H' s' e s'' I' c' => XEf.of_call (X := X.blk s3 H3 scope ce fp) (I'.wish fun _ _ => False) c').run _ s9 σ8 H9 _ (I9.wish _) q9) (fun z s10 ⟨yv, H10, I10, r10, acc, hD10, hz10, nx⟩ => ?_)
          fun u s10 xx => comp_flies hst hf tk I3 cF cL f3 xx
        exact wpAny_mono (app_ok (X := X.blk s3 H3 scope ce fp) (E := fun _ _ => False) (I10.wish fun _ _ => False) hD10 hz10 r10 fun s11 I11 => fin I11 nx) (fun _ _ z => z) fun _ _ z => z.elim
  exact codeAny_compStart_list loop (T.self X.A 0 _ _ _ st4 loop)
theorem pe_lcX {elt tg iter : Expr} {ifs : List Expr} {scope : Scope} {own : List (Str × Nat)} {pos : Pos} {wi : TI} {g : TG} {tt : TT} {te : WX → TE} {W : WX} (hst : X.stack = X.env :: X.outer) (hf : X.env.frame = some X.env.locals) (tk : L2N.Takes X W) (hc : X.calm = true) (hN : X.N.Nodup) (hi : PI X tg iter wi) (ok : BlkOk X.N X.env.scope scope own)
    (hg : ∀ (s : Shared) (H : Hp) (C : Addr) (cl : List (Str × Addr)) (fp : List Addr), PG (X.blk s H scope (compEnvC scope cl C X.env) fp) tg g) (ht : ∀ (s : Shared) (H : Hp) (C : Addr) (cl : List (Str × Addr)) (fp : List Addr), PTs (X.blk s H scope (compEnvC scope cl C X.env) fp) ifs tt)
    (he : ∀ (s : Shared) (H : Hp) (C : Addr) (cl : List (Str × Addr)) (fp : List Addr) (xe : Value → Shared → Prop) (W : WX), TkC (blkX X s H scope (compEnvC scope cl C X.env) fp xe) W → PE (blkX X s H scope (compEnvC scope cl C X.env) fp xe) elt (te W)) (hs : ∀ x, foldedSetIterable iter X.env x = pure x := by intro _; rfl) :
    PE X (.ListComp elt [⟨tg, iter, ifs, 0⟩] scope pos) (fun σ H Q => tLc wi g tt (te fun cls d _ H' => W cls d σ H') (own.map (·.2)) σ H Q) := by
  refine ⟨fun pins s σ H Q I h => ?_⟩
  rw [eval_ListComp]
  refine lc_coreX hst hf tk hc hN I hi ok hg ht he hs h fun D s' m H' ce I' q hn f => ⟨m, hn, fun h'' sb => ?_⟩
  obtain ⟨f0, f1, f2, f3, f4, f5⟩ := f
  exact ⟨.ref D, H', I'.turned (t' := s'.toks) (fun b o hb e => (sb.2 b hb).trans e) f0 f1 f3 f4 f5, rfl, q⟩
end
section
variable {τ : Type} [Sto τ] {K : Fg} {W : WX}
def compLX (g : Tgt) (tt : ME τ Bool) (te : ME τ D) (ρ : Rho) : List D → τ → Res τ (List D)
  | [], t => .ok [] t
  | d :: ds, t => match g ρ d with
    | some ρ1 => (noEx (tt ρ1 t)).bind fun b t => if b = true then (te ρ1 t).bind fun y t => (compLX g tt te ρ ds t).bind fun ys t => .ok (y :: ys) t else compLX g tt te ρ ds t
    | none => .bad
def eCompX (mi : ME τ (List D)) (vs : List Nat) (g : Tgt) (tt : ME τ Bool) (te : ME τ D) : ME τ (List D) := fun ρ t => (mi ρ t).bind fun ds t => if ds.length ≤ 16777216 ∧ noOwn ρ vs = true then compLX g tt te (wipeR ρ vs) ds t else .bad
theorem lc_redX {mi : ME τ (List D)} {vs ws : List Nat} {g : Tgt} {tt : ME τ Bool} {te : ME τ D} {σ : L2.St} {H : Hp} {Q : VK} (hv : ∀ j, j ∈ ws → j ∈ vs) (p : tF K W (eCompX mi vs g tt te) σ H Q) : tLc (tIO K W mi) (tTg τ K g ws) (tT K W0 tt) (tE K (fun cls d _ H' => W cls d σ H') te) vs σ H Q := by
  obtain ⟨C, ρ, t0, A0, p⟩ := p
  refine use okF A0 p fun ds t1 J H1 e1 s1 A1 r1 p1 => ?_
  intro D0 nD
  split at p1
  · rename_i hlo
    obtain ⟨hlen, hno⟩ := hlo
    have own_out : ∀ (j : Nat) (x : Slot), (ρ[j]? = some x ∧ x.mine = true) → j ∉ vs := fun j x h hj => noOwn_mine hno h hj
    obtain ⟨G, Y, w, hG, hY⟩ := r1
    have nF0 : ¬ Fo C.F ρ σ D0 := fun z => A1.dom D0 z nD
    have s0 : Sm C.F H1 (upd H1 D0 (.lst [])) := Sm.of_same (same_upd nD)
    have sp0 : Stp (Fo C.F ρ σ) H1 (fun b => Fo C.F ρ σ b ∨ b = D0) (upd H1 D0 (.lst [])) := ⟨fun b o _ e => same_upd nD b o e, fun b h => h.elim .inl fun e => .inr (by rw [e]; exact nD)⟩
    refine lc_it w (fun i H' => ∃ (t : τ) (av : List V) (ad : List D), C.Iv t (fun b => Fo C.F ρ σ b ∨ b = D0) H' ∧ H' D0 = some (.lst av) ∧ Reps K (fun b => Fo C.F ρ σ b ∨ b = D0) H' av ad ∧ av.length ≤ i ∧ Sm C.F H1 H' ∧
        Post rF K W C (Fo C.F ρ σ) σ H1 ((compLX g tt te (wipeR ρ vs) (ds.drop i) t).bind fun ys t => .ok (ad ++ ys) t) Q)
      ⟨t1, [], [], C.step _ _ _ _ _ A1.st (fun b o _ e => same_upd nD b o e) sp0, upd_same, .nil, Nat.le_refl _, s0, ?_⟩ ?_ ?_ ?_
    · rw [List.drop_zero]
      cases q : compLX g tt te (wipeR ρ vs) ds t1 with
      | ok d t => rw [q] at p1; exact p1
      | ex n fs t => rw [q] at p1; exact p1
      | bad => rw [q] at p1; exact p1
    · rintro i H' hi ⟨t, av, ad, iv, hD, ra, hl, sm, q⟩
      exact hG H' sm
    · rintro i x H' H'' hi ⟨t, av, ad, iv, hD, ra, hl, sm, q⟩ y
      obtain ⟨AB, fo⟩ := At.blk (vs := vs) A1 nD sm iv hD
      have sp : Stp (Fo C.F ρ σ) H1 (Fo (C.cmp D0 (.lst av)).F (wipeR ρ vs) (wipe σ vs)) H' := ⟨fun b o n e => sm b o (fun z => n (.inl z)) e, fun b h => (fo b h).elim .inl fun e => .inr (by rw [e]; exact nD)⟩
      obtain ⟨sy, d, ed, r⟩ := hY _ i H' x H'' hi sp AB.dom y
      have AB2 := AB.next (Sm.of_same sy) ((C.cmp D0 (.lst av)).stay AB.st sy)
      have dr : ds.drop i = d :: ds.drop (i + 1) := by
        obtain ⟨hl, e⟩ := List.getElem?_eq_some_iff.mp ed
        rw [List.drop_eq_getElem_cons hl, e]
      rw [dr] at q
      unfold compLX at q
      cases eg : g (wipeR ρ vs) d with
      | none => rw [eg] at q; exact q.elim
      | some ρ1 =>
        rw [eg] at q
        dsimp only at q
        refine ⟨C.cmp D0 (.lst av), wipeR ρ vs, t, d, AB2, r, ρ1, eg, fun σ2 Hg f2 mg s2 A2 => ⟨(wipe_eq (ws := vs) f2.1 (fun j hj => (f2.2 j hj).1) hv).trans (wipe_eq (ws := vs) (vs := vs) (wipe_length σ vs) (fun j hj => wipe_keep hj) fun _ h => h), ?_⟩⟩
        have sy : Same H' Hg := fun b o e => mg b o (sy b o e)
        have sm2 : Sm C.F H1 Hg := sm.trans (Sm.of_same sy)
        have smB : ∀ {H3 : Hp}, Sm (C.cmp D0 (.lst av)).F Hg H3 → Sm C.F H1 H3 := fun {H3} s3 b o n e => s3 b o (fun z => z.elim n fun q => by rw [q, nD] at e; cases e) (sm2 b o n e)
        have big : ∀ b, (Fo C.F ρ σ b ∨ b = D0) → Fo (C.cmp D0 (.lst av)).F ρ1 σ2 b := fun b h => by
          rcases h with (h | ⟨j, xs, h1, h2⟩) | h
          · exact .inl (.inl h)
          · have hj := own_out j xs h1
            have hj2 : j ∉ ws := fun z => hj (hv j z)
            refine .inr ⟨j, xs, ⟨?_, h1.2⟩, ?_⟩
            · rw [(f2.2 j hj2).2]
              have : ∀ us : List Nat, j ∉ us → (wipeR ρ us)[j]? = ρ[j]? := fun us => by
                induction us with
                | nil => intro _; rfl
                | cons u us ih =>
                  intro hu
                  simp only [List.mem_cons, not_or] at hu
                  unfold wipeR
                  rw [List.getElem?_set_ne (fun e => hu.1 e.symm), ih hu.2]
              rw [this vs hj]; exact h1.1
            · rw [(f2.2 j hj2).1, wipe_keep hj, h2]
          · exact .inl (.inr h)
        have raB : ∀ {H3 : Hp}, Sm (C.cmp D0 (.lst av)).F Hg H3 → Reps K (fun b => Fo C.F ρ σ b ∨ b = D0) H3 av ad := fun {H3} s3 => (ra.same (Sm.of_same sy)).same (s3.mono fun b h => h.elim (fun z => .inl (.inl z)) .inr)
        refine ⟨C.cmp D0 (.lst av), ρ1, t, A2, ?_⟩
        unfold noEx at q
        cases et : tt ρ1 t with
        | bad => rw [et] at q; exact q.elim
        | ex n fs t' => rw [et] at q; exact q.elim
        | ok c t3 =>
          rw [et] at q
          intro c' H3 s3 i3 ec
          cases ec
          cases c with
          | false =>
            rw [if_neg Bool.false_ne_true]
            exact ⟨t3, av, ad, C.less i3.1 big, i3.2, raB s3, Nat.le_succ_of_le hl, smB s3, q⟩
          | true =>
            rw [if_pos rfl]
            have A3 := A2.next s3 i3
            refine ⟨C.cmp D0 (.lst av), ρ1, t3, A3, ?_⟩
            simp only [Res.bind_ok, if_true] at q
            cases ee : te ρ1 t3 with
            | bad => rw [ee] at q; exact q.elim
            | ex n fs t' =>
              rw [ee] at q
              intro cls dd H4 s4 i4 x4
              exact q cls dd H4 (smB (s3.trans s4)) (C.less i4.1 fun b h => big b (.inl h)) (x4.anti fun b h => big b (.inl h))
            | ok y t4 =>
              rw [ee] at q
              intro yv H4 s4 i4 ry
              have s34 : Sm (C.cmp D0 (.lst av)).F Hg H4 := s3.trans s4
              have yB : Rep K (fun b => Fo C.F ρ σ b ∨ b = D0) H4 yv y := Rep.anti ry big
              refine ⟨av, i4.2, Nat.lt_of_le_of_lt hl (Nat.lt_of_lt_of_le hi hlen), t4, av ++ [yv], ad ++ [y], ?_, upd_same, ?_, by rw [List.length_append]; exact Nat.succ_le_succ hl, ?_, ?_⟩
              · refine C.step _ _ _ _ _ (C.less i4.1 big) (fun b o h e => ?_) ⟨fun b o n e => by rw [upd_ne (fun z => n (.inr z))]; exact e, fun b h => .inl h⟩
                rw [upd_ne (fun z => nF0 (by rw [← z]; exact .inl h))]
                exact e
              · have sp4 : Stp (fun b => Fo C.F ρ σ b ∨ b = D0) H4 (fun b => Fo C.F ρ σ b ∨ b = D0) (upd H4 D0 (.lst (av ++ [yv]))) := ⟨fun b o n e => by rw [upd_ne (fun z => n (.inr z))]; exact e, fun b h => .inl h⟩
                exact Reps.step sp4 ((raB s34).snoc yB)
              · intro b o n e
                have nb : b ≠ D0 := fun z => by rw [z, nD] at e; cases e
                rw [upd_ne nb]
                exact smB s34 b o n e
              · simp only [Res.bind_ok] at q
                cases ec : compLX g tt te (wipeR ρ vs) (ds.drop (i + 1)) t4 with
                | ok zs t5 => rw [ec] at q; simp only [Res.bind_ok, List.append_assoc, List.singleton_append] at q ⊢; exact q
                | ex n fs t5 => rw [ec] at q; exact q
                | bad => rw [ec] at q; exact q
    · rintro H' ⟨t, av, ad, iv, hD, ra, hl, sm, q⟩
      rw [List.drop_length] at q
      simp only [compLX, Res.bind_ok, List.append_nil] at q
      exact q (.ref D0) H' sm (C.less iv fun _ => .inl) ⟨D0, av, rfl, nF0, nD, hD, ra, iv⟩
  · exact p1.elim
end
section
variable {X : Cx} {W : WX} {τ : Type} [Sto τ]
theorem mf_lcX {elt tg iter : Expr} {ifs : List Expr} {scope : Scope} {own : List (Str × Nat)} {ws : List Nat} {pos : Pos} {mi : ME τ (List D)} {g : Tgt} {tt : ME τ Bool} {te : ME τ D} (hst : X.stack = X.env :: X.outer) (hf : X.env.frame = some X.env.locals) (tk : L2N.Takes X W) (hc : X.calm = true) (hN : X.N.Nodup) (hi : PI X tg iter (tIO X.K W mi)) (ok : BlkOk X.N X.env.scope scope own)
    (hv : ∀ j, j ∈ ws → j ∈ own.map (·.2))
    (hg : ∀ (s : Shared) (H : Hp) (C : Addr) (cl : List (Str × Addr)) (fp : List Addr), PG (X.blk s H scope (compEnvC scope cl C X.env) fp) tg (tTg τ X.K g ws)) (ht : ∀ (s : Shared) (H : Hp) (C : Addr) (cl : List (Str × Addr)) (fp : List Addr), PTs (X.blk s H scope (compEnvC scope cl C X.env) fp) ifs (tT X.K W0 tt))
    (he : ∀ (s : Shared) (H : Hp) (C : Addr) (cl : List (Str × Addr)) (fp : List Addr) (xe : Value → Shared → Prop) (W : WX), TkC (blkX X s H scope (compEnvC scope cl C X.env) fp xe) W → PE (blkX X s H scope (compEnvC scope cl C X.env) fp xe) elt (tE X.K W te)) (hs : ∀ x, foldedSetIterable iter X.env x = pure x := by intro _; rfl) :
    PE X (.ListComp elt [⟨tg, iter, ifs, 0⟩] scope pos) (tF X.K W (eCompX mi (own.map (·.2)) g tt te)) := PE.imp (pe_lcX (te := fun W => tE X.K W te) hst hf tk hc hN hi ok hg ht he hs) fun _ _ _ p => lc_redX hv p
end
section
variable {τ : Type} {Q : List D → τ → Prop} {X : Str → Fds → τ → Prop} {ρ : Rho} {t : τ} {vs : List Nat} {g : Tgt} {tt : ME τ Bool} {mi : ME τ (List D)} {te : ME τ D}
@[simp] theorem oE_compX : oE (eCompX mi vs g tt te ρ t) Q X = oE (mi ρ t) (fun ds t => (ds.length ≤ 16777216 ∧ noOwn ρ vs = true) ∧ oE (compLX g tt te (wipeR ρ vs) ds t) Q X) X := by
  unfold eCompX; rw [oE_bind]; congr; funext ds t
  by_cases h : ds.length ≤ 16777216 ∧ noOwn ρ vs = true
  · rw [if_pos h]; simp only [h, and_self, true_and]
  · rw [if_neg h]; simp only [oE_bad, h, false_and]
theorem compLX_cons {d : D} {ds : List D} {ρ1 : Rho} (hg : g ρ d = some ρ1) (ht : tt ρ1 t = .ok true t) : oE (compLX g tt te ρ (d :: ds) t) Q X = oE (te ρ1 t) (fun y t => oE (compLX g tt te ρ ds t) (fun ys t => Q (y :: ys) t) X) X := by
  show oE (match g ρ d with
    | some ρ1 => (noEx (tt ρ1 t)).bind fun b t => if b = true then (te ρ1 t).bind fun y t => (compLX g tt te ρ ds t).bind fun ys t => .ok (y :: ys) t else compLX g tt te ρ ds t
    | none => .bad) Q X = _
  rw [hg]
  dsimp only
  rw [ht]
  simp only [noEx, Res.bind_ok, if_true, oE_bind, oE_ok]
end
end MM

namespace MM
open PySem PySem.Spec PyProof.Rows L2
section
variable {X : Cx} {K : Fg}
def CPowB (i j : Int) : Prop := 0 ≤ j ∧ (Builtin.Int.intBits i : Int) * j ≤ 2 ^ 27
def powOkB (i j : Int) : Bool := decide (0 ≤ j ∧ (Builtin.Int.intBits i : Int) * j ≤ 2 ^ 27)
theorem op_powB : OpR X (binaryOp .Pow) (rI CPowB fun i j => .int (i ^ j.toNat)) := opI fun _ _ _ _ _ _ _ hc q => pow_int hc.1 hc.2 q
def dPowB : D → D → Option D := fun d e => match d, e with
  | .int i, .int j => if powOkB i j = true then some (.int (i ^ j.toNat)) else none
  | _, _ => none
theorem o_powB : DOp2 K (rI CPowB fun i j => .int (i ^ j.toNat)) dPowB := DOp2.intC (fun i j h => (of_decide_eq_true h : 0 ≤ j ∧ (Builtin.Int.intBits i : Int) * j ≤ 2 ^ 27)) fun _ _ _ _ _ => .int _
end
@[simp] theorem dPowB_some {i j : Int} {z : D} : (dPowB (.int i) (.int j) = some z) = (z = .int (i ^ j.toNat) ∧ powOkB i j = true) := by
  unfold dPowB; by_cases h : powOkB i j = true <;> simp [h, eq_comm]
theorem powOkB_50 : powOkB (10 ^ 50) 8 = true := by decide +kernel
end MM

namespace MM
open PySem PySem.Spec PyProof.Rows L2
section
variable {X : Cx} {W : WX} {τ : Type} [Sto τ] {K : Fg}
end
end MM

namespace MM
open PySem PySem.Spec PyProof.Rows L2
def pickL {α : Type} (ix : List (Bool × Nat)) (a b : List α) : List α := ix.filterMap fun p => if p.1 = true then a[p.2]? else b[p.2]?
section
theorem vals_at {vs : List V} {us : List Value} (r : Vals vs us) : ∀ i : Nat, (vs[i]? = none ∧ us[i]? = none) ∨ ∃ v u, vs[i]? = some v ∧ us[i]? = some u ∧ RelV v u := by
  induction r with
  | nil => intro i; exact .inl ⟨rfl, rfl⟩
  | cons h t ih =>
    intro i
    cases i with
    | zero => exact .inr ⟨_, _, rfl, rfl, h⟩
    | succ i => simpa using ih i
theorem pick_vals {vs zs : List V} {us ws : List Value} (r1 : Vals vs us) (r2 : Vals zs ws) : ∀ ix : List (Bool × Nat), Vals (pickL ix vs zs) (pickL ix us ws)
  | [] => .nil
  | (b, i) :: ix => by
    have ih := pick_vals r1 r2 ix
    unfold pickL at ih ⊢
    rw [List.filterMap_cons, List.filterMap_cons]
    cases b with
    | true =>
      rcases vals_at r1 i with ⟨e1, e2⟩ | ⟨v, u, e1, e2, h⟩
      · simp only [if_true, e1, e2]; exact ih
      · simp only [if_true, e1, e2]; exact .cons h ih
    | false =>
      rcases vals_at r2 i with ⟨e1, e2⟩ | ⟨v, u, e1, e2, h⟩
      · simp only [Bool.false_eq_true, if_false, e1, e2]; exact ih
      · simp only [Bool.false_eq_true, if_false, e1, e2]; exact .cons h ih
theorem reps_at {K : Fg} {F : Fp} {H : Hp} {vs : List V} {ds : List D} (r : Reps K F H vs ds) (i : Nat) : (vs[i]? = none ∧ ds[i]? = none) ∨ ∃ v d, vs[i]? = some v ∧ ds[i]? = some d ∧ Rep K F H v d := by
  cases e : ds[i]? with
  | none =>
    refine .inl ⟨?_, rfl⟩
    rw [List.getElem?_eq_none_iff] at e ⊢
    rw [r.length]; exact e
  | some d =>
    obtain ⟨v, h1, h2⟩ := r.get e
    exact .inr ⟨v, d, h1, rfl, h2⟩
theorem pick_reps {K : Fg} {F : Fp} {H : Hp} {vs zs : List V} {ds es : List D} (r1 : Reps K F H vs ds) (r2 : Reps K F H zs es) : ∀ ix : List (Bool × Nat), Reps K F H (pickL ix vs zs) (pickL ix ds es)
  | [] => .nil
  | (b, i) :: ix => by
    have ih := pick_reps r1 r2 ix
    unfold pickL at ih ⊢
    rw [List.filterMap_cons, List.filterMap_cons]
    cases b with
    | true =>
      rcases reps_at r1 i with ⟨e1, e2⟩ | ⟨v, u, e1, e2, h⟩
      · simp only [if_true, e1, e2]; exact ih
      · simp only [if_true, e1, e2]; exact .cons h ih
    | false =>
      rcases reps_at r2 i with ⟨e1, e2⟩ | ⟨v, u, e1, e2, h⟩
      · simp only [Bool.false_eq_true, if_false, e1, e2]; exact ih
      · simp only [Bool.false_eq_true, if_false, e1, e2]; exact .cons h ih
end
section
variable {K : Fg} {x qual : Str} {params : Arguments} {body : List Stmt} {scope : Scope} {kws : List (Str × V)} {f : Addr} {fd : FuncData} {ps : List Str}
theorem FunD.kbinds0 (F : FunD K x qual params body scope [] kws f fd) (n : Nat) (ks : List Str) (ms : List (Str × V)) (ix : List (Bool × Nat)) (hk : kws ≠ []) (hms : ∀ q ∈ ms, q ∈ kws)
    (h : ∀ (D : Addr) (doc pm : Value) (an : Option Addr) (cdv ct : Value) (us mv ws : List Value), us.length = n → mv.length = ms.length → ws.length = ks.length →
      KwChain D ((ms.map (·.1)).zip mv) (bindArgs (PySem.W.fnOf x qual params body scope .none (.ref D) doc pm an cdv ct) ⟨us, ks.zip ws⟩) (ps.zip (us ++ pickL ix mv ws))) :
    ∃ mv : List Value, KBn K fd ps n ks (fun us ws => us ++ pickL ix mv ws) (fun vs zs => vs ++ pickL ix (ms.map (·.2)) zs) := by
  obtain ⟨oc, od, dV, kV, doc, pm, an, cdv, ct, osl, rfl, lk, hcd, hD, hK⟩ := F.ex
  rcases hD with ⟨_, rfl⟩ | ⟨e, _⟩
  · rcases hK with e | ⟨D, rfl, hq⟩
    · exact absurd e hk
    · obtain ⟨mv, hl, rk, hks⟩ := kwd_vals (ms := ms) fun q hm => hq q (hms q hm)
      refine ⟨mv, ⟨fun s us ws X l1 l2 => ?_, fun r1 r2 => r1.append (pick_vals rk r2 ix)⟩⟩
      exact BindsTo.of_looks fun M => KwChain.looks X hks (h D doc pm an cdv ct us mv ws l1 hl l2)
  · exact absurd rfl e
end
structure DefQ (P : Program) (w : World) (K : Fg) (mg : Str → Option Value) (base : Heap) (k : Nat) (x : Str) (np n : Nat) (ks : List Str) (ix : List (Bool × Nat)) (dms : List D) (m : List D → Unit → Res Unit D) : Prop where
  ex : ∃ (fd : FuncData) (ps : List Str) (g : List Value → List Value → List Value) (dvs : List V), FnOk P w K mg base (L2.CX P w) k (He.ga K x) fd ps (spF np K m) ∧ mg x = some (.ref (He.ga K x)) ∧ PySem.W.keepIn K (.ref (He.ga K x)) = true ∧ KBn K fd ps n ks g (fun vs zs => vs ++ pickL ix dvs zs) ∧ ∀ F H, Reps K F H dvs dms
def eCallQ {τ : Type} (m : List D → Unit → Res Unit D) (ix : List (Bool × Nat)) (dms : List D) (a b : ME τ (List D)) : ME τ D := fun ρ t => (a ρ t).bind fun ds t => (b ρ t).bind fun es t => match m (ds ++ pickL ix dms es) () with
  | .ok d _ => .ok d t
  | .ex n fs _ => .ex n fs t
  | .bad => .bad
section
variable {X : Cx} {CX : CXT} {k n : Nat} {f : Addr} {fd : FuncData} {ps ks : List Str} {sp : Sp} {E : L2.St → XK} {x : Str} {p pos : Pos} {e : Expr} {es : List Expr} {kws : List Keyword} {t tk : TA} {g : List Value → List Value → List Value} {gV : List V → List V → List V}
def tCallNS (n m : Nat) (sp : Sp) (gV : List V → List V → List V) (E : L2.St → XK) (t tk : TA) : TE := fun σ H Q => t σ H fun vs H1 => tk σ H1 fun zs H2 => vs.length = n ∧ zs.length = m ∧ sp (gV vs zs) H2 Q (E σ)
theorem run_fnNS {pins : List (Addr × Obj)} {σ : L2.St} {H : Hp} {s : Shared} {Q : VK} {us ws : List Value} {vs zs : List V} (F : FnOk X.prog X.w X.K X.mg X.base CX k f fd ps sp) (hr : Room k X.A) (hb : KBn X.K fd ps n ks g gV) (hx : PassesAt CX X σ (E σ))
    (I : Inv X pins σ H s) (r : Vals vs us) (rz : Vals zs ws) (l1 : vs.length = n) (l2 : zs.length = ks.length) (h : sp (gV vs zs) H Q (E σ)) : wpAny (model X.prog X.w) X.A (call (.ref f) us (ks.zip ws)) (EP X pins σ Q) X.xe s := by
  have r2 := hb.rel r rz
  refine wpAny_call (codeAny_mono (F.run X.A X.stack s H ⟨us, ks.zip ws⟩ (g us ws) (gV vs zs) Q (E σ) hr I.env0 (hb.to s us ws I.kIn (r.length.symm.trans l1) (rz.length.symm.trans l2)) r2 h) fun r s' hq => ?_)
  cases r with
  | error e => exact hx pins H s e s' I hq
  | ok fl =>
    cases fl with
    | ret u => exact I.after hq
    | next => exact False.elim hq
    | brk => exact False.elim hq
    | cont => exact False.elim hq
theorem pe_callNS (F : FnOk X.prog X.w X.K X.mg X.base CX k f fd ps sp) (hr : Room k X.A) (hg : Gl X x) (hm : X.mg x = some (.ref f)) (hk : PySem.W.keepIn X.K (.ref f) = true) (hb : KBn X.K fd ps n ks g gV) (hx : ∀ σ, PassesAt CX X σ (E σ))
    (ha : PA X (e :: es) t) (hkw : PK X kws tk) (hall : (backToKw pos (keywordEach kws X.env)).all (·.1.isSome) = true := by rfl) (hks : (backToKw pos (keywordEach kws X.env)).filterMap (·.1) = ks := by rfl)
    (hdb : (x == ("__debug__" : Str)) = false := by decide) (he : starEach (e :: es) X.env = (false, eval e X.env) :: starEach es X.env := by rfl)
    (hpl : ((backTo pos (starEach (e :: es) X.env)).any (·.1) || (backToKw pos (keywordEach kws X.env)).any (·.1.isNone)) = false := by rfl) :
    PE X (.Call (.Name x p) (e :: es) kws pos) (tCallNS n ks.length sp gV E t tk) := by
  refine ⟨fun pins s σ H Q I h => ?_⟩
  refine wpAny_Call_Name_kw (ld_glob I hg hm ?_ hdb)
  refine PySem.W.callWith_KW (h₀ := X.base) I.ok.mod.kin hk hall (thn (ha.run pos pins s σ H _ I h) fun us s1 ⟨vs, H1, I1, r, q⟩ => ?_) hpl he
  refine thn (hkw.run pos pins s1 σ H1 _ I1 q) fun ws s2 ⟨zs, H2, I2, rz, l1, l2, q2⟩ => ⟨I2.kIn, ?_⟩
  rw [hks]
  exact run_fnNS F hr hb (hx σ) I2 r rz l1 l2 q2
end
section
variable {X : Cx} {W : WX} {τ : Type} [Sto τ] {K : Fg}
theorem callQ2_red {np i j : Nat} {m : List D → Unit → Res Unit D} {ix : List (Bool × Nat)} {dms : List D} {dvs : List V} {a b : ME τ (List D)} {σ : L2.St} {H : Hp} {Q : VK} (hd : ∀ F H, Reps K F H dvs dms) (hn : ALen a i) (hn2 : ALen b j) (hj : ∀ es : List D, es.length = j → i + (pickL ix dms es).length = np) (p : tE K W (eCallQ m ix dms a b) σ H Q) :
    tCallNS i j (spF np K m) (fun vs zs => vs ++ pickL ix dvs zs) (WE W) (tA K W a) (tA K W b) σ H Q := by
  obtain ⟨C, ρ, t, A, p⟩ := p
  refine use okE A p fun ds t1 vs H1 e1 s1 A1 r1 p1 => ?_
  refine use okE A1 p1 fun es t2 zs H2 e2 s2 A2 r2 p2 => ?_
  refine ⟨r1.length.trans (hn _ _ _ _ e1), r2.length.trans (hn2 _ _ _ _ e2), SC.pure (Fo C.F ρ σ) H2 A2.dom, ds ++ pickL ix dms es, (), trivial, ⟨Stp.refl _ _, fun _ _ _ e => e⟩, Reps.append (r1.same (s2.mono fun _ => Fo.base)) (pick_reps (hd _ _) r2 ix), by rw [List.length_append, hn _ _ _ _ e1, hj _ (hn2 _ _ _ _ e2)], ?_⟩
  cases e : m (ds ++ pickL ix dms es) () with
  | ok d u =>
    rw [e] at p2
    exact fun v H' s i r => p2 v H' (Sm.of_same (SC.pure_same i)) (C.stay A2.st (SC.pure_same i)) r
  | ex n fs u =>
    rw [e] at p2
    exact fun cls dd H' s i x => p2 cls dd H' (Sm.of_same (SC.pure_same i)) (C.stay A2.st (SC.pure_same i)) x
  | bad => rw [e] at p2; exact p2.elim
theorem DefQ.mono {P : Program} {w : World} {mg : Str → Option Value} {base : Heap} {k k' np n : Nat} {x : Str} {ks : List Str} {ix : List (Bool × Nat)} {dms : List D} {m : List D → Unit → Res Unit D} (h : DefQ P w K mg base k x np n ks ix dms m) : DefQ P w K mg base k x np n ks ix dms m := h
theorem me_callQ2 {k np i : Nat} {x : Str} {ks : List Str} {ix : List (Bool × Nat)} {dms : List D} {m : List D → Unit → Res Unit D} {e : Expr} {es : List Expr} {kws : List Keyword} {p pos : Pos} {a b : ME τ (List D)} (Df : DefQ X.prog X.w X.K X.mg X.base k x np i ks ix dms m) (hr : Room k X.A) (tk : Takes X W) (hg : Gl X x) (hn : ALen a i) (hn2 : ALen b ks.length)
    (ha : PA X (e :: es) (tA X.K W a)) (hk : PK X kws (tA X.K W b)) (hj : ∀ es : List D, es.length = ks.length → i + (pickL ix dms es).length = np) (hall : (backToKw pos (keywordEach kws X.env)).all (·.1.isSome) = true := by rfl) (hks : (backToKw pos (keywordEach kws X.env)).filterMap (·.1) = ks := by rfl)
    (hdb : (x == ("__debug__" : Str)) = false := by decide) (he : starEach (e :: es) X.env = (false, eval e X.env) :: starEach es X.env := by rfl)
    (hpl : ((backTo pos (starEach (e :: es) X.env)).any (·.1) || (backToKw pos (keywordEach kws X.env)).any (·.1.isNone)) = false := by rfl) :
    PE X (.Call (.Name x p) (e :: es) kws pos) (tE X.K W (eCallQ m ix dms a b)) := by
  obtain ⟨fd, ps, g, dvs, F, hm, hkp, hb, hd⟩ := Df.ex
  exact PE.imp (pe_callNS F hr hg hm hkp hb (fun σ => passAt tk σ) ha hk hall hks hdb he hpl) fun _ _ _ p => callQ2_red hd hn hn2 hj p
@[simp] theorem oE_callQ {m : List D → Unit → Res Unit D} {ix : List (Bool × Nat)} {dms : List D} {a b : ME τ (List D)} {Q : D → τ → Prop} {X : Str → Fds → τ → Prop} {ρ : Rho} {t : τ} : oE (eCallQ m ix dms a b ρ t) Q X = oE (a ρ t) (fun ds t => oE (b ρ t) (fun es t => oE (m (ds ++ pickL ix dms es) ()) (fun d _ => Q d t) (fun n fs _ => X n fs t)) X) X := by
  unfold eCallQ; simp only [oE_bind]; congr; funext ds t; congr; funext es t
  cases e : m (ds ++ pickL ix dms es) () <;> rfl
end
end MM

noncomputable section
namespace MM
open PySem PySem.Spec PyProof.Rows L2
def b_is_whole : MS Unit :=
  (sRet (eAnd2 (e1 fIsi (aCons (eVarW 0) (aCons (eC (.ty "int")) aNil))) (eNot1 (e1 fIsi (aCons (eVarW 0) (aCons (eC (.ty "bool")) aNil))))))
def m_is_whole : List D → Unit → Res Unit D := runB 1 b_is_whole
def b_divisor : MS Unit :=
  (sSeq (sPar 0 1 (e1 fAbs (aCons (eVarW 0) aNil)) (e1 fAbs (aCons (eVarW 1) aNil)))
  (sSeq (sWhile (e1 asB (e2 dGt (eVarW 1) (eC (.int 0)))) (sPar 0 1 (eVar 1) (e2 dMod (eVarW 0) (eVarW 1))))
  (sRet (eVar 0))))
def m_divisor : List D → Unit → Res Unit D := runB 2 b_divisor
def b_is_share : MS Unit :=
  (sSeq (sIf (tOr2 (tNot1 (e1 truth (e1 fIsi (aCons (eVarW 0) (aCons (eC (.ty "tuple")) aNil))))) (e1 asB (e2 dNe (e1 fLen (aCons (eVarW 0) aNil)) (eC (.int 2))))) (sRet (eC (.bl false))) sSkip)
  (sSeq (sIf (tOr2 (tNot1 (e1 truth (eCall m_is_whole [] (aCons (e2 dIx (eVarW 0) (eC (.int 0))) aNil)))) (tOr2 (tNot1 (e1 truth (eCall m_is_whole [] (aCons (e2 dIx (eVarW 0) (eC (.int 1))) aNil)))) (e1 asB (e2 dLt (e2 dIx (eVarW 0) (eC (.int 1))) (eC (.int 1)))))) (sRet (eC (.bl false))) sSkip)
  (sRet (e2 dEq (eCall m_divisor [] (aCons (e2 dIx (eVarW 0) (eC (.int 0))) (aCons (e2 dIx (eVarW 0) (eC (.int 1))) aNil))) (eC (.int 1))))))
def m_is_share : List D → Unit → Res Unit D := runB 1 b_is_share
def b_is_fine : MS Unit :=
  (sRet (eAnd2 (eCall m_is_share [] (aCons (eVar 0) aNil)) (eAnd2 (e2 dLt (e1 fAbs (aCons (e2 dIx (eVarW 0) (eC (.int 0))) aNil)) (eC (.int 10000000000000000000000000000000000000000000000000000000000000000000000000000000000000000000000000000000000000000000000000000000000000000000000000000000000000000000000000000000000000000000000000000000000000000000000000000000000000000000000000000000000000000000000000000000000000000000000000000000000000000000000000000000000000000000000000000000000000000000000000000000000000000000000000000000000000000))) (e2 dLt (e2 dIx (eVarW 0) (eC (.int 1))) (eC (.int 10000000000000000000000000000000000000000000000000000000000000000000000000000000000000000000000000000000000000000000000000000000000000000000000000000000000000000000000000000000000000000000000000000000000000000000000000000000000000000000000000000000000000000000000000000000000000000000000000000000000000000000000000000000000000000000000000000000000000000000000000000000000000000000000000000000000000000))))))
def m_is_fine : List D → Unit → Res Unit D := runB 1 b_is_fine
def b_share : MS Unit :=
  (sSeq (sIf (e1 asB (e2 dEq (eVarW 1) (eC (.int 0)))) (sRaise "NoShare") sSkip)
  (sSeq (sAsg (gN 2) (eCall m_divisor [] (aCons (eVar 0) (aCons (eVar 1) aNil))))
  (sSeq (sIf (e1 asB (e2 dLt (eVarW 1) (eC (.int 0)))) (sAsg (gN 2) (e1 dNeg (eVarW 2))) sSkip)
  (sRet (eTup (aCons (e2 dDiv (eVarW 0) (eVarW 2)) (aCons (e2 dDiv (eVarW 1) (eVarW 2)) aNil)))))))
def m_share : List D → Unit → Res Unit D := runB 3 b_share
def b_is_spot : MS Unit :=
  (sRet (eAnd2 (e1 fIsi (aCons (eVarW 0) (aCons (eC (.ty "tuple")) aNil))) (eAnd2 (e2 dEq (e1 fLen (aCons (eVarW 0) aNil)) (eC (.int 2))) (e1 fAll (aCons (eLst (eComp (e1 itD (eVar 0)) [1] (gN 1) (fun _ t => .ok true t) (eCall m_is_share [] (aCons (eVar 1) aNil)))) aNil)))))
def m_is_spot : List D → Unit → Res Unit D := runB 2 b_is_spot
def b_is_fine_spot : MS Unit :=
  (sRet (eAnd2 (eCall m_is_spot [] (aCons (eVar 0) aNil)) (e1 fAll (aCons (eLst (eComp (e1 itD (eVar 0)) [1] (gN 1) (fun _ t => .ok true t) (eCall m_is_fine [] (aCons (eVar 1) aNil)))) aNil))))
def m_is_fine_spot : List D → Unit → Res Unit D := runB 2 b_is_fine_spot
def b_is_way : MS Unit :=
  (sSeq (sIf (tOr2 (tNot1 (e1 truth (e1 fIsi (aCons (eVarW 0) (aCons (eC (.ty "tuple")) aNil))))) (tOr2 (e1 asB (e2 dNe (e1 fLen (aCons (eVarW 0) aNil)) (eC (.int 2)))) (tNot1 (e1 truth (e1 fAll (aCons (eLst (eComp (e1 itD (eVar 0)) [1] (gN 1) (fun _ t => .ok true t) (eCall m_is_whole [] (aCons (eVar 1) aNil)))) aNil)))))) (sRet (eC (.bl false))) sSkip)
  (sRet (e2 dEq (eCall m_divisor [] (aCons (e2 dIx (eVarW 0) (eC (.int 0))) (aCons (e2 dIx (eVarW 0) (eC (.int 1))) aNil))) (eC (.int 1)))))
def m_is_way : List D → Unit → Res Unit D := runB 2 b_is_way
def b_along : MS Unit :=
  (sSeq (sAsg (gT (gCons (gT (gCons (gN 2) (gCons (gN 3) gNil))) (gCons (gT (gCons (gN 4) (gCons (gN 5) gNil))) gNil))) (eVar 1))
  (sRet (eCall m_share [] (aCons (e2 dAdd (e2 dMulI (e2 dMulI (e2 dIx (eVarW 0) (eC (.int 0))) (eVarW 2)) (eVarW 5)) (e2 dMulI (e2 dMulI (e2 dIx (eVarW 0) (eC (.int 1))) (eVarW 4)) (eVarW 3))) (aCons (e2 dMulI (eVarW 3) (eVarW 5)) aNil)))))
def m_along : List D → Unit → Res Unit D := runB 6 b_along
def b_across : MS Unit :=
  (sRet (eCall m_along [] (aCons (eTup (aCons (e1 dNeg (e2 dIx (eVarW 0) (eC (.int 1)))) (aCons (e2 dIx (eVarW 0) (eC (.int 0))) aNil))) (aCons (eVar 1) aNil))))
def m_across : List D → Unit → Res Unit D := runB 2 b_across
def b_look_corner : MS Unit :=
  (sSeq (sIf (tOr2 (tNot1 (e1 truth (e1 (fun d => (isi2 d "list" "tuple").map .bl) (eVarW 0)))) (e1 asB (e2 dNe (e1 fLen (aCons (eVarW 0) aNil)) (eC (.int 2))))) (sRaise "BadShape") sSkip)
  (sSeq (sFor (e1 itD (eVar 0)) (gN 1) (sIf (tOr2 (tNot1 (e1 truth (eCall (noEx1 m_is_whole) [] (aCons (eVar 1) aNil)))) (tNot1 (e1 asB (eChain dLe dLe (e1 dNeg (eC (.int 1000000))) (eVarW 1) (eC (.int 1000000)))))) (sRaise "BadShape") sSkip))
  (sRet (e1 fTup (aCons (eVarW 0) aNil)))))
def m_look_corner : List D → Unit → Res Unit D := runB 2 b_look_corner
def b_is_left : MS Unit :=
  (sSeq (sAsg (gT (gCons (gT (gCons (gN 3) (gCons (gN 4) gNil))) (gCons (gT (gCons (gN 5) (gCons (gN 6) gNil))) (gCons (gT (gCons (gN 7) (gCons (gN 8) gNil))) gNil)))) (eTup (aCons (eVar 0) (aCons (eVar 1) (aCons (eVar 2) aNil)))))
  (sRet (e2 dGt (e2 dSub (e2 dMulI (e2 dSub (eVarW 5) (eVarW 3)) (e2 dSub (eVarW 8) (eVarW 4))) (e2 dMulI (e2 dSub (eVarW 6) (eVarW 4)) (e2 dSub (eVarW 7) (eVarW 3)))) (eC (.int 0)))))
def m_is_left : List D → Unit → Res Unit D := runB 9 b_is_left
def b_look_shape : MS Unit :=
  (sSeq (sIf (tOr2 (tNot1 (e1 truth (e1 (fun d => (isi2 d "list" "tuple").map .bl) (eVarW 0)))) (tNot1 (e1 asB (eChain dLe dLe (eC (.int 3)) (e1 fLen (aCons (eVarW 0) aNil)) (eC (.int 8)))))) (sRaise "BadShape") sSkip)
  (sSeq (sAsg (gN 1) (eLst (eCompX (e1 itD (eVar 0)) [8] (gN 8) (fun _ t => .ok true t) (eCall m_look_corner [] (aCons (eVar 8) aNil)))))
  (sSeq (sAsg (gN 2) (e1 fLen (aCons (eVarW 1) aNil)))
  (sSeq (sFor (e1 fEnum2 (aCons (eVar 1) aNil)) (gT (gCons (gN 3) (gCons (gN 4) gNil))) (sSeq (sAsg (gN 5) (e2 dMod (e2 dAdd (eVarW 3) (eC (.int 1))) (eVarW 2)))
  (sSeq (sAsg (gN 6) (eLst (eComp (e1 fEnum2 (aCons (eVar 1) aNil)) [9, 10] (gT (gCons (gN 9) (gCons (gN 10) gNil))) (tAnd2 (e1 asB (e2 dNe (eVarW 9) (eVarW 3))) (e1 asB (e2 dNe (eVarW 9) (eVarW 5)))) (eVar 10))))
  (sIf (tNot1 (e1 truth (e1 fAll (aCons (eLst (eComp (e1 itD (eVar 6)) [10] (gN 10) (fun _ t => .ok true t) (eCall (noEx1 m_is_left) [] (aCons (eVar 4) (aCons (e2 dIx (eVarW 1) (eVarW 5)) (aCons (eVar 10) aNil)))))) aNil)))) (sRaise "BadShape") sSkip))))
  (sSeq (sAsg (gN 7) (eIdx (eVarW 1) (e1 fMinD (aCons (eVarW 1) aNil))))
  (sRet (e1 fTup (aCons (e2 dAdd (e3 dCutA (eVarW 1) (oSome (eVar 7)) oNone) (e3 dCutA (eVarW 1) oNone (oSome (eVar 7)))) aNil))))))))
def m_look_shape : List D → Unit → Res Unit D := runB 11 b_look_shape
def b_is_name : MS Unit :=
  (sSeq (sIf (tOr2 (tNot1 (e1 truth (e1 fIsi (aCons (eVarW 0) (aCons (eC (.ty "str")) aNil))))) (tNot1 (e1 asB (eChain dLe dLe (eC (.int 1)) (e1 fLen (aCons (eVarW 0) aNil)) (eC (.int 12)))))) (sRet (eC (.bl false))) sSkip)
  (sRet (e1 fAll (aCons (eLst (eComp (e1 itS (eVar 0)) [1] (gN 1) (fun _ t => .ok true t) (e2 dInS (eVarW 1) (eC (.str "abcdefghijklmnopqrstuvwxyz"))))) aNil))))
def m_is_name : List D → Unit → Res Unit D := runB 2 b_is_name
def b_is_rail : MS Unit :=
  (sRet (eAnd2 (eCall m_is_way [] (aCons (eVar 0) aNil)) (e1 fAll (aCons (eLst (eComp (e1 itD (eVar 0)) [1] (gN 1) (fun _ t => .ok true t) (e2 dLe (e1 fAbs (aCons (eVarW 1) aNil)) (eC (.int 1000000))))) aNil))))
def m_is_rail : List D → Unit → Res Unit D := runB 2 b_is_rail
def b_may_go : MS Unit :=
  (sSeq (sIf (e1 asB (e2 dEq (eVarW 0) (eC (.int 0)))) (sRet (e2 dEq (eVarW 2) (eC (.tup [(.tup [(.int 0), (.int 1)]), (.tup [(.int 0), (.int 1)])])))) sSkip)
  (sRet (eOr2 (e2 dIs (eVarW 1) (eC .non)) (e2 dEq (eCall m_across [] (aCons (eVar 1) (aCons (eVar 2) aNil))) (eC (.tup [(.int 0), (.int 1)]))))))
def m_may_go : List D → Unit → Res Unit D := runB 3 b_may_go
def b_look_corners : MS Unit :=
  (sTryC (sRet (eCall m_look_shape [] (aCons (eVar 0) aNil))) "BadShape" 1 "BadRow" ["part"] okS1 (aCons (eC (.str "corners")) aNil))
def m_look_corners : List D → Unit → Res Unit D := runB 2 b_look_corners
def b_look_parts : MS Unit :=
  (sSeq (sIf (tOr2 (tNot1 (e1 truth (e1 fIsi (aCons (eVarW 0) (aCons (eC (.ty "tuple")) aNil))))) (e1 asB (e2 dNe (e1 fLen (aCons (eVarW 0) aNil)) (eC (.int 6))))) (sRaiseX "BadRow" ["part"] okS1 (aCons (eC (.str "form")) aNil)) sSkip)
  (sSeq (sAsg (gT (gCons (gN 3) (gCons (gN 4) (gCons (gN 5) (gCons (gN 6) (gCons (gN 7) (gCons (gN 8) gNil))))))) (eVar 0))
  (sSeq (sIf (tNot1 (e1 truth (eCall m_is_name [] (aCons (eVar 3) aNil)))) (sRaiseX "BadRow" ["part"] okS1 (aCons (eC (.str "name")) aNil)) sSkip)
  (sSeq (sAsg (gN 9) (eCall m_look_corners [] (aCons (eVar 4) aNil)))
  (sSeq (sIf (tOr2 (tNot1 (e1 truth (eCall m_is_whole [] (aCons (eVar 5) aNil)))) (tNot1 (e1 asB (eChain dLe dLe (eVarW 1) (eVarW 5) (eC (.int 1000000)))))) (sRaiseX "BadRow" ["part"] okS1 (aCons (eC (.str "mass")) aNil)) sSkip)
  (sSeq (sIf (tOr2 (tAnd2 (e1 asB (e2 dIs (eVarW 6) (eC .non))) (e1 truth (eVarW 2))) (tAnd2 (e1 asB (e2 dIsnt (eVarW 6) (eC .non))) (tOr2 (e1 asB (e2 dEq (eVarW 5) (eC (.int 0)))) (tNot1 (e1 truth (eCall m_is_rail [] (aCons (eVar 6) aNil))))))) (sRaiseX "BadRow" ["part"] okS1 (aCons (eC (.str "rail")) aNil)) sSkip)
  (sSeq (sIf (tNot1 (e1 truth (eCall m_is_fine_spot [] (aCons (eVar 7) aNil)))) (sRaiseX "BadRow" ["part"] okS1 (aCons (eC (.str "place")) aNil)) sSkip)
  (sSeq (sIf (tOr2 (tNot1 (e1 truth (eCall m_is_fine_spot [] (aCons (eVar 8) aNil)))) (tNot1 (e1 truth (eCall m_may_go [] (aCons (eVar 5) (aCons (eVar 6) (aCons (eVar 8) aNil))))))) (sRaiseX "BadRow" ["part"] okS1 (aCons (eC (.str "speed")) aNil)) sSkip)
  (sRet (eTup (aCons (eVar 3) (aCons (eVar 9) (aCons (eVar 5) (aCons (eVar 6) (aCons (eVar 7) (aCons (eVar 8) aNil))))))))))))))))
def m_look_parts : List D → Unit → Res Unit D := runB 10 b_look_parts
def b_wall : MS Unit :=
  (sRet (eCall m_look_parts [(.int 0), (.bl false)] (aCons (eTup (aCons (eVar 0) (aCons (eVar 1) (aCons (eC (.int 0)) (aCons (eC .non) (aCons (eVar 2) (aCons (eC (.tup [(.tup [(.int 0), (.int 1)]), (.tup [(.int 0), (.int 1)])])) aNil))))))) aNil)))
def m_wall : List D → Unit → Res Unit D := runB 3 b_wall
def b_free : MS Unit :=
  (sRet (eCallQ m_look_parts [(false, 0), (true, 0)] [(.bl false)] (aCons (eTup (aCons (eVar 0) (aCons (eVar 1) (aCons (eVar 2) (aCons (eC .non) (aCons (eVar 3) (aCons (eVar 4) aNil))))))) aNil) (aCons (eC (.int 1)) aNil)))
def m_free : List D → Unit → Res Unit D := runB 5 b_free
def b_railed : MS Unit :=
  (sRet (eCallQ m_look_parts [(false, 0), (false, 1)] [] (aCons (eTup (aCons (eVar 0) (aCons (eVar 1) (aCons (eVar 3) (aCons (eVar 2) (aCons (eVar 4) (aCons (eVar 5) aNil))))))) aNil) (aCons (eC (.int 1)) (aCons (eC (.bl true)) aNil))))
def m_railed : List D → Unit → Res Unit D := runB 6 b_railed
def b__law_cell : MS Unit :=
  (sSeq (sIf (e1 asB (e2 dEq (e1 fLen (aCons (eVarW 0) aNil)) (eC (.int 0)))) (sRet (e2 dAdd (e2 dMulI (eC (.int 7)) (eVarW 1)) (eC (.int 3)))) sSkip)
  (sRet (e1 fAbs (aCons (e2 dIx (eVarW 0) (e2 dMod (eVarW 1) (e1 fLen (aCons (eVarW 0) aNil)))) aNil))))
def m__law_cell : List D → Unit → Res Unit D := runB 2 b__law_cell
def b__law_mixed : MS Unit :=
  (sSeq (sAsg (gN 3) (e2 dMod (e2 dPow (e2 dAdd (e2 dMulI (e2 dAdd (e2 dMod (eCall m__law_cell [] (aCons (eVar 0) (aCons (eVar 1) aNil))) (eC (.int 1000003))) (eC (.int 5))) (e2 dAdd (eVarW 1) (eC (.int 2)))) (e2 dMulI (eC (.int 7919)) (eVarW 1))) (eC (.int 5))) (eC (.int 2147483647))))
  (sRet (e2 dMod (e2 dDiv (eVarW 3) (eC (.int 13))) (eVarW 2))))
def m__law_mixed : List D → Unit → Res Unit D := runB 4 b__law_mixed
def b__law_deck : MSd :=
  (retD 0 (eComp (e1 itD (eVar 0)) [1] (gN 1) (e1 asB (e2 dGe (e1 fAbs (aCons (eVarW 1) aNil)) (e2 dPow (eC (.int 10)) (eC (.int 18))))) (e1 fAbs (aCons (eVarW 1) aNil))))
def m__law_deck : List D → Option (D × List Int) := runD 2 b__law_deck
def b__law_take : MS Dk :=
  (sSeq (sWhile (e1 asB (e2 dLt (eDk 0 2) (eDkLen 0))) (sSeq (sAsg (gN 2) (eDkAt 0))
  (sSeq (sIf (e1 asB (e2 dGt (eVarW 2) (eC (.int 0)))) (sSeq (sDkBig 0 (e2 dDiv (eVarW 2) (eVarW 1)))
  (sRet (e2 dMod (eVarW 2) (eVarW 1)))) sSkip)
  (sDkSet 0 2 (e2 dAdd (eDk 0 2) (eC (.int 1)))))))
  (sSeq (sDkSet 0 3 (e2 dAdd (eDk 0 3) (eC (.int 1))))
  (sRet (eCall m__law_mixed [] (aCons (eDk 0 0) (aCons (eDk 0 3) (aCons (eVar 1) aNil)))))))
def m__law_take : List D → Dk → Res Dk D := runB 3 b__law_take
def b__law_gcd : MS Unit :=
  (sSeq (sAsg (gN 0) (e1 fAbs (aCons (eVarW 0) aNil)))
  (sSeq (sAsg (gN 1) (e1 fAbs (aCons (eVarW 1) aNil)))
  (sSeq (sWhile (e1 asB (e2 dGt (eVarW 1) (eC (.int 0)))) (sSeq (sAsg (gN 2) (e2 dMod (eVarW 0) (eVarW 1)))
  (sSeq (sAsg (gN 0) (eVar 1))
  (sAsg (gN 1) (eVar 2)))))
  (sRet (eVar 0)))))
def m__law_gcd : List D → Unit → Res Unit D := runB 3 b__law_gcd
def b__law_left : MS Unit :=
  (sRet (e2 dSub (e2 dMulI (e2 dSub (e2 dIx (eVarW 1) (eC (.int 0))) (e2 dIx (eVarW 0) (eC (.int 0)))) (e2 dSub (e2 dIx (eVarW 2) (eC (.int 1))) (e2 dIx (eVarW 0) (eC (.int 1))))) (e2 dMulI (e2 dSub (e2 dIx (eVarW 1) (eC (.int 1))) (e2 dIx (eVarW 0) (eC (.int 1)))) (e2 dSub (e2 dIx (eVarW 2) (eC (.int 0))) (e2 dIx (eVarW 0) (eC (.int 0)))))))
def m__law_left : List D → Unit → Res Unit D := runB 3 b__law_left
def b__law_half : MS Unit :=
  (sSeq (sAsg (gN 1) (eLst (e1 lim aNil)))
  (sSeq (sFor (e1 itD (eVar 0)) (gN 2) (sSeq (sWhile (tAnd2 (e1 asB (e2 dGt (e1 fLen (aCons (eVarW 1) aNil)) (eC (.int 1)))) (e1 asB (e2 dLe (eCall m__law_left [] (aCons (e2 dIx (eVarW 1) (e1 dNeg (eC (.int 2)))) (aCons (e2 dIx (eVarW 1) (e1 dNeg (eC (.int 1)))) (aCons (eVar 2) aNil)))) (eC (.int 0))))) (sAsg (gN 1) (e3 dCutA (eVarW 1) oNone (oSome (e1 dNeg (eC (.int 1)))))))
  (sAsg (gN 1) (e2 dAdd (eVarW 1) (eLst (e1 lim (aCons (eVar 2) aNil)))))))
  (sRet (e3 dCutA (eVarW 1) oNone (oSome (e1 dNeg (eC (.int 1))))))))
def m__law_half : List D → Unit → Res Unit D := runB 3 b__law_half
def b__law_hull : MS Unit :=
  (sSeq (sAsg (gN 1) (eLst (e1 fSortD (aCons (eVarW 0) aNil))))
  (sSeq (sAsg (gN 2) (e2 dAdd (eCall m__law_half [] (aCons (eVar 1) aNil)) (eCall m__law_half [] (aCons (eLst (e1 dRev (eVarW 1))) aNil))))
  (sSeq (sIf (e1 asB (e2 dLt (e1 fLen (aCons (eVarW 2) aNil)) (eC (.int 3)))) (sRet (eLst (e1 lim (aCons (eTup (aCons (eC (.int 0)) (aCons (eC (.int 0)) aNil))) (aCons (eTup (aCons (eC (.int 2)) (aCons (eC (.int 0)) aNil))) (aCons (eTup (aCons (eC (.int 0)) (aCons (eC (.int 2)) aNil))) aNil)))))) sSkip)
  (sRet (eVar 2)))))
def m__law_hull : List D → Unit → Res Unit D := runB 3 b__law_hull
def b__law_number : MS Dk :=
  (sRet (e2 dSub (e2 dMod (e2 dAdd (e2 dMulI (eC (.int 10007)) (eCallS m__law_take [] (aCons (eVar 0) (aCons (e2 dAdd (e2 dMulI (eC (.int 2)) (eVarW 1)) (eC (.int 1))) aNil)))) (eCallS m__law_take [] (aCons (eVar 0) (aCons (eC (.int 10007)) aNil)))) (e2 dAdd (e2 dMulI (eC (.int 2)) (eVarW 1)) (eC (.int 1)))) (eVarW 1)))
def m__law_number : List D → Dk → Res Dk D := runB 2 b__law_number
def b__law_whole : MS Unit :=
  (sRet (eAnd2 (e1 fIsi (aCons (eVarW 0) (aCons (eC (.ty "int")) aNil))) (eNot1 (e1 fIsi (aCons (eVarW 0) (aCons (eC (.ty "bool")) aNil))))))
def m__law_whole : List D → Unit → Res Unit D := runB 1 b__law_whole
def b__law_is_round : MS Unit :=
  (sSeq (sAsg (gN 1) (e1 fLen (aCons (eVarW 0) aNil)))
  (sSeq (sIf (tOr2 (e1 asB (e2 dLt (eVarW 1) (eC (.int 3)))) (e1 asB (e2 dGt (eVarW 1) (eC (.int 8))))) (sRet (eC (.bl false))) sSkip)
  (sSeq (sFor (e1 fRng1 (aCons (eVarW 1) aNil)) (gN 2) (sFor (e1 fRng2 (aCons (eC (.int 2)) (aCons (eVarW 1) aNil))) (gN 3) (sIf (e1 asB (e2 dLe (eCall m__law_left [] (aCons (e2 dIx (eVarW 0) (eVarW 2)) (aCons (e2 dIx (eVarW 0) (e2 dMod (e2 dAdd (eVarW 2) (eC (.int 1))) (eVarW 1))) (aCons (e2 dIx (eVarW 0) (e2 dMod (e2 dAdd (eVarW 2) (eVarW 3)) (eVarW 1))) aNil)))) (eC (.int 0)))) (sRet (eC (.bl false))) sSkip)))
  (sRet (eC (.bl true))))))
def m__law_is_round : List D → Unit → Res Unit D := runB 4 b__law_is_round
def b__law_is_spot : MS Unit :=
  (sSeq (sIf (tOr2 (tNot1 (e1 truth (e1 fIsi (aCons (eVarW 0) (aCons (eC (.ty "tuple")) aNil))))) (e1 asB (e2 dNe (e1 fLen (aCons (eVarW 0) aNil)) (eC (.int 2))))) (sRet (eC (.bl false))) sSkip)
  (sSeq (sFor (e1 itD (eVar 0)) (gN 1) (sSeq (sIf (tOr2 (tNot1 (e1 truth (e1 fIsi (aCons (eVarW 1) (aCons (eC (.ty "tuple")) aNil))))) (tOr2 (e1 asB (e2 dNe (e1 fLen (aCons (eVarW 1) aNil)) (eC (.int 2)))) (tOr2 (tNot1 (e1 truth (eCall m__law_whole [] (aCons (e2 dIx (eVarW 1) (eC (.int 0))) aNil)))) (tNot1 (e1 truth (eCall m__law_whole [] (aCons (e2 dIx (eVarW 1) (eC (.int 1))) aNil))))))) (sRet (eC (.bl false))) sSkip)
  (sIf (tOr2 (e1 asB (e2 dLt (e2 dIx (eVarW 1) (eC (.int 1))) (eC (.int 1)))) (tOr2 (e1 asB (e2 dNe (eCall m__law_gcd [] (aCons (e2 dIx (eVarW 1) (eC (.int 0))) (aCons (e2 dIx (eVarW 1) (eC (.int 1))) aNil))) (eC (.int 1)))) (e1 asB (e2 dGe (e1 fMax2 (aCons (e1 fAbs (aCons (e2 dIx (eVarW 1) (eC (.int 0))) aNil)) (aCons (e2 dIx (eVarW 1) (eC (.int 1))) aNil))) (e2 dPowB (e2 dPow (eC (.int 10)) (eC (.int 50))) (eC (.int 8))))))) (sRet (eC (.bl false))) sSkip)))
  (sRet (eC (.bl true)))))
def m__law_is_spot : List D → Unit → Res Unit D := runB 2 b__law_is_spot
def b__law_is_rail : MS Unit :=
  (sSeq (sIf (tOr2 (tNot1 (e1 truth (e1 fIsi (aCons (eVarW 0) (aCons (eC (.ty "tuple")) aNil))))) (e1 asB (e2 dNe (e1 fLen (aCons (eVarW 0) aNil)) (eC (.int 2))))) (sRet (eC (.bl false))) sSkip)
  (sSeq (sIf (e1 asB (e2 dNe (eLst (eComp (e1 itD (eVar 0)) [1] (gN 1) (tOr2 (tNot1 (e1 truth (eCall m__law_whole [] (aCons (eVar 1) aNil)))) (e1 asB (e2 dGt (e1 fAbs (aCons (eVarW 1) aNil)) (eC (.int 1000000))))) (eVar 1))) (eLst (e1 lim aNil)))) (sRet (eC (.bl false))) sSkip)
  (sRet (e2 dEq (eCall m__law_gcd [] (aCons (e2 dIx (eVarW 0) (eC (.int 0))) (aCons (e2 dIx (eVarW 0) (eC (.int 1))) aNil))) (eC (.int 1))))))
def m__law_is_rail : List D → Unit → Res Unit D := runB 2 b__law_is_rail
def b__law_wrong : MS Unit :=
  (sSeq (sIf (tOr2 (tNot1 (e1 truth (e1 fIsi (aCons (e2 dIx (eVarW 1) (eC (.int 0))) (aCons (eC (.ty "str")) aNil))))) (tOr2 (e1 asB (e2 dEqSS (e2 dIx (eVarW 1) (eC (.int 0))) (eC (.str "")))) (e1 asB (e2 dGt (e1 fLen (aCons (e2 dIx (eVarW 1) (eC (.int 0))) aNil)) (eC (.int 12)))))) (sRet (eC (.str "name"))) sSkip)
  (sSeq (sIf (e1 asB (e2 dNe (eLst (eComp (e1 itS (e2 dIx (eVarW 1) (eC (.int 0)))) [5] (gN 5) (e1 asB (e2 dNotInS (eVarW 5) (eC (.str "abcdefghijklmnopqrstuvwxyz")))) (eVar 5))) (eLst (e1 lim aNil)))) (sRet (eC (.str "name"))) sSkip)
  (sSeq (sIf (tNot1 (e1 truth (eCall m__law_is_round [] (aCons (e2 dIx (eVarW 1) (eC (.int 1))) aNil)))) (sRet (eC (.str "corners"))) sSkip)
  (sSeq (sAsg (gN 2) (e2 dIx (eVarW 1) (eC (.int 2))))
  (sSeq (sIf (tAnd2 (e1 asB (e2 dGt (eVarW 0) (eC (.int 0)))) (tOr2 (tNot1 (e1 truth (eCall m__law_whole [] (aCons (eVar 2) aNil)))) (tOr2 (e1 asB (e2 dLt (eVarW 2) (eC (.int 1)))) (e1 asB (e2 dGt (eVarW 2) (eC (.int 1000000))))))) (sRet (eC (.str "mass"))) sSkip)
  (sSeq (sIf (tAnd2 (e1 asB (e2 dEq (eVarW 0) (eC (.int 2)))) (tNot1 (e1 truth (eCall m__law_is_rail [] (aCons (e2 dIx (eVarW 1) (eC (.int 3))) aNil))))) (sRet (eC (.str "rail"))) sSkip)
  (sSeq (sIf (tNot1 (e1 truth (eCall m__law_is_spot [] (aCons (e2 dIx (eVarW 1) (eC (.int 4))) aNil)))) (sRet (eC (.str "place"))) sSkip)
  (sSeq (sIf (tAnd2 (e1 asB (e2 dGt (eVarW 0) (eC (.int 0)))) (tNot1 (e1 truth (eCall m__law_is_spot [] (aCons (e2 dIx (eVarW 1) (eC (.int 5))) aNil))))) (sRet (eC (.str "speed"))) sSkip)
  (sSeq (sIf (e1 asB (e2 dEq (eVarW 0) (eC (.int 2)))) (sSeq (sAsg (gN 3) (e2 dIx (e2 dIx (eVarW 1) (eC (.int 5))) (eC (.int 0))))
  (sSeq (sAsg (gN 4) (e2 dIx (e2 dIx (eVarW 1) (eC (.int 5))) (eC (.int 1))))
  (sIf (e1 asB (e2 dNe (e2 dMulI (e2 dMulI (e2 dIx (e2 dIx (eVarW 1) (eC (.int 3))) (eC (.int 0))) (e2 dIx (eVarW 4) (eC (.int 0)))) (e2 dIx (eVarW 3) (eC (.int 1)))) (e2 dMulI (e2 dMulI (e2 dIx (e2 dIx (eVarW 1) (eC (.int 3))) (eC (.int 1))) (e2 dIx (eVarW 3) (eC (.int 0)))) (e2 dIx (eVarW 4) (eC (.int 1)))))) (sRet (eC (.str "speed"))) sSkip))) sSkip)
  (sRet (eC (.str ""))))))))))))
def m__law_wrong : List D → Unit → Res Unit D := runB 6 b__law_wrong
def b__law_due : MS Unit :=
  (sSeq (sAsg (gN 2) (eIdx (e2 dIx (eVarW 1) (eC (.int 1))) (e1 fMinD (aCons (e2 dIx (eVarW 1) (eC (.int 1))) aNil))))
  (sSeq (sAsg (gN 3) (e1 fTup (aCons (e2 dAdd (e3 dCutA (e2 dIx (eVarW 1) (eC (.int 1))) (oSome (eVar 2)) oNone) (e3 dCutA (e2 dIx (eVarW 1) (eC (.int 1))) oNone (oSome (eVar 2)))) aNil)))
  (sSeq (sIf (e1 asB (e2 dEq (eVarW 0) (eC (.int 0)))) (sRet (eTup (aCons (e2 dIx (eVarW 1) (eC (.int 0))) (aCons (eVar 3) (aCons (eC (.int 0)) (aCons (eC .non) (aCons (e2 dIx (eVarW 1) (eC (.int 4))) (aCons (eTup (aCons (eTup (aCons (eC (.int 0)) (aCons (eC (.int 1)) aNil))) (aCons (eTup (aCons (eC (.int 0)) (aCons (eC (.int 1)) aNil))) aNil))) aNil)))))))) sSkip)
  (sSeq (sIf (e1 asB (e2 dEq (eVarW 0) (eC (.int 1)))) (sRet (eTup (aCons (e2 dIx (eVarW 1) (eC (.int 0))) (aCons (eVar 3) (aCons (e2 dIx (eVarW 1) (eC (.int 2))) (aCons (eC .non) (aCons (e2 dIx (eVarW 1) (eC (.int 4))) (aCons (e2 dIx (eVarW 1) (eC (.int 5))) aNil)))))))) sSkip)
  (sRet (eTup (aCons (e2 dIx (eVarW 1) (eC (.int 0))) (aCons (eVar 3) (aCons (e2 dIx (eVarW 1) (eC (.int 2))) (aCons (e2 dIx (eVarW 1) (eC (.int 3))) (aCons (e2 dIx (eVarW 1) (eC (.int 4))) (aCons (e2 dIx (eVarW 1) (eC (.int 5))) aNil))))))))))))
def m__law_due : List D → Unit → Res Unit D := runB 4 b__law_due
def b__law_name : MS Dk :=
  (sSeq (sAsg (gN 2) (eC (.str "abcdefghijklmnopqrstuvwxyz")))
  (sRet (e1 (dJoin "") (eLst (eComp (e1 fRng1 (aCons (eVarW 1) aNil)) [3] (gN 3) (fun _ t => .ok true t) (e2 dIx (eVarW 2) (eCallS m__law_take [] (aCons (eVar 0) (aCons (eC (.int 26)) aNil)))))))))
def m__law_name : List D → Dk → Res Dk D := runB 4 b__law_name
def b__law_share : MS Dk :=
  (sSeq (sAsg (gN 1) (e2 dIx (eLst (e1 lim (aCons (eC (.int 9)) (aCons (e2 dPow (eC (.int 10)) (eC (.int 6))) (aCons (e2 dPow (eC (.int 10)) (eC (.int 60))) aNil))))) (eCallS m__law_take [] (aCons (eVar 0) (aCons (eC (.int 3)) aNil)))))
  (sSeq (sAsg (gN 2) (e2 dSub (e2 dMod (e2 dMulI (eCallS m__law_number [] (aCons (eVar 0) (aCons (e2 dPow (eC (.int 10)) (eC (.int 6))) aNil))) (e2 dPow (e2 dAdd (eC (.int 1)) (eCallS m__law_take [] (aCons (eVar 0) (aCons (e2 dPow (eC (.int 10)) (eC (.int 6))) aNil)))) (eC (.int 12)))) (e2 dAdd (e2 dMulI (eC (.int 2)) (eVarW 1)) (eC (.int 1)))) (eVarW 1)))
  (sSeq (sAsg (gN 3) (e2 dAdd (eC (.int 1)) (e2 dMulI (eCallS m__law_take [] (aCons (eVar 0) (aCons (eC (.int 60)) aNil))) (eCallS m__law_take [] (aCons (eVar 0) (aCons (e2 dPow (eC (.int 10)) (eC (.int 6))) aNil))))))
  (sSeq (sAsg (gN 4) (eCall m__law_gcd [] (aCons (eVar 2) (aCons (eVar 3) aNil))))
  (sRet (eTup (aCons (e2 dDiv (eVarW 2) (eVarW 4)) (aCons (e2 dDiv (eVarW 3) (eVarW 4)) aNil))))))))
def m__law_share : List D → Dk → Res Dk D := runB 5 b__law_share
def b__law_rail : MS Dk :=
  (sSeq (sAsg (gN 1) (eCallS m__law_number [] (aCons (eVar 0) (aCons (e2 dIx (eLst (e1 lim (aCons (eC (.int 1)) (aCons (eC (.int 5)) (aCons (eC (.int 1000000)) aNil))))) (eCallS m__law_take [] (aCons (eVar 0) (aCons (eC (.int 3)) aNil)))) aNil))))
  (sSeq (sAsg (gN 2) (eCallS m__law_number [] (aCons (eVar 0) (aCons (e2 dIx (eLst (e1 lim (aCons (eC (.int 1)) (aCons (eC (.int 5)) (aCons (eC (.int 1000000)) aNil))))) (eCallS m__law_take [] (aCons (eVar 0) (aCons (eC (.int 3)) aNil)))) aNil))))
  (sSeq (sIf (tAnd2 (e1 asB (e2 dEq (eVarW 1) (eC (.int 0)))) (e1 asB (e2 dEq (eVarW 2) (eC (.int 0))))) (sRet (eTup (aCons (eC (.int 0)) (aCons (e1 dNeg (eC (.int 1))) aNil)))) sSkip)
  (sSeq (sAsg (gN 3) (eCall m__law_gcd [] (aCons (eVar 1) (aCons (eVar 2) aNil))))
  (sRet (eTup (aCons (e2 dDiv (eVarW 1) (eVarW 3)) (aCons (e2 dDiv (eVarW 2) (eVarW 3)) aNil))))))))
def m__law_rail : List D → Dk → Res Dk D := runB 4 b__law_rail
def b__law_times : MS Unit :=
  (sSeq (sAsg (gN 2) (eCall m__law_gcd [] (aCons (e2 dMulI (eVarW 0) (e2 dIx (eVarW 1) (eC (.int 0)))) (aCons (e2 dIx (eVarW 1) (eC (.int 1))) aNil))))
  (sRet (eTup (aCons (e2 dDiv (e2 dMulI (eVarW 0) (e2 dIx (eVarW 1) (eC (.int 0)))) (eVarW 2)) (aCons (e2 dDiv (e2 dIx (eVarW 1) (eC (.int 1))) (eVarW 2)) aNil)))))
def m__law_times : List D → Unit → Res Unit D := runB 3 b__law_times
def b__law_things : MS Dk :=
  (sSeq (sAsg (gN 2) (eCallS m__law_name [] (aCons (eVar 0) (aCons (e2 dIx (eLst (e1 lim (aCons (eC (.int 1)) (aCons (eC (.int 2)) (aCons (eC (.int 5)) (aCons (eC (.int 11)) (aCons (eC (.int 12)) aNil))))))) (eCallS m__law_take [] (aCons (eVar 0) (aCons (eC (.int 5)) aNil)))) aNil))))
  (sSeq (sAsg (gN 3) (e2 dIx (eLst (e1 lim (aCons (eC (.int 3)) (aCons (eC (.int 9)) (aCons (eC (.int 1000)) (aCons (eC (.int 1000000)) aNil)))))) (eCallS m__law_take [] (aCons (eVar 0) (aCons (eC (.int 4)) aNil)))))
  (sSeq (sAsg (gN 4) (e2 dAdd (eC (.int 3)) (eCallS m__law_take [] (aCons (eVar 0) (aCons (eC (.int 6)) aNil)))))
  (sSeq (sAsg (gN 5) (eCall m__law_hull [] (aCons (eLst (eComp (e1 fRng1 (aCons (eVarW 4) aNil)) [11] (gN 11) (fun _ t => .ok true t) (eTup (aCons (eCallS m__law_number [] (aCons (eVar 0) (aCons (eVar 3) aNil))) (aCons (eCallS m__law_number [] (aCons (eVar 0) (aCons (eVar 3) aNil))) aNil))))) aNil)))
  (sSeq (sAsg (gN 6) (eCallS m__law_take [] (aCons (eVar 0) (aCons (e1 fLen (aCons (eVarW 5) aNil)) aNil))))
  (sSeq (sAsg (gN 5) (e2 dAdd (e3 dCutA (eVarW 5) (oSome (eVar 6)) oNone) (e3 dCutA (eVarW 5) oNone (oSome (eVar 6)))))
  (sSeq (sAsg (gN 7) (e2 dIx (eLst (e1 lim (aCons (eC (.int 1)) (aCons (eC (.int 2)) (aCons (eC (.int 1000000)) (aCons (e2 dAdd (eC (.int 1)) (eCallS m__law_take [] (aCons (eVar 0) (aCons (eC (.int 1000000)) aNil)))) aNil)))))) (eCallS m__law_take [] (aCons (eVar 0) (aCons (eC (.int 4)) aNil)))))
  (sSeq (sAsg (gN 8) (eCallS m__law_rail [] (aCons (eVar 0) aNil)))
  (sSeq (sAsg (gN 9) (eTup (aCons (eCallS m__law_share [] (aCons (eVar 0) aNil)) (aCons (eCallS m__law_share [] (aCons (eVar 0) aNil)) aNil))))
  (sSeq (sAsg (gN 10) (eTup (aCons (eCallS m__law_share [] (aCons (eVar 0) aNil)) (aCons (eCallS m__law_share [] (aCons (eVar 0) aNil)) aNil))))
  (sSeq (sIf (e1 asB (e2 dEq (eVarW 1) (eC (.int 2)))) (sAsg (gN 10) (eTup (aCons (eCall m__law_times [] (aCons (e2 dIx (eVarW 8) (eC (.int 0))) (aCons (e2 dIx (eVarW 10) (eC (.int 0))) aNil))) (aCons (eCall m__law_times [] (aCons (e2 dIx (eVarW 8) (eC (.int 1))) (aCons (e2 dIx (eVarW 10) (eC (.int 0))) aNil))) aNil)))) sSkip)
  (sRet (eLst (e1 lim (aCons (eVar 2) (aCons (eVar 5) (aCons (eVar 7) (aCons (eVar 8) (aCons (eVar 9) (aCons (eVar 10) aNil))))))))))))))))))))
def m__law_things : List D → Dk → Res Dk D := runB 12 b__law_things
def b__law_spoil : MS Dk :=
  (sSeq (sIf (e1 asB (e2 dEq (eVarW 1) (eC (.int 0)))) (sAsg (gN 3) (eLst (e1 lim (aCons (eC (.str "")) (aCons (eC (.str "Ab")) (aCons (eC (.str "a1")) (aCons (eCallS m__law_name [] (aCons (eVar 0) (aCons (eC (.int 13)) aNil))) (aCons (eCallS m__law_name [] (aCons (eVar 0) (aCons (eC (.int 12)) aNil))) (aCons (eC .non) (aCons (eC (.int 7)) (aCons (e2 dAdd (eCallS m__law_name [] (aCons (eVar 0) (aCons (eC (.int 1)) aNil))) (eC (.str " "))) aNil))))))))))) (sIf (e1 asB (e2 dEq (eVarW 1) (eC (.int 1)))) (sSeq (sAsg (gN 4) (eLst (eComp (e1 fRng1 (aCons (eC (.int 9)) aNil)) [6] (gN 6) (fun _ t => .ok true t) (eTup (aCons (eVar 6) (aCons (e2 dMulI (eVarW 6) (eVarW 6)) aNil))))))
  (sAsg (gN 3) (eLst (e1 lim (aCons (e3 dCutA (eVarW 2) oNone (oSome (eC (.int 2)))) (aCons (eLst (e1 lim aNil)) (aCons (e3 dCutA (eVarW 2) oNone (oSome (eC (.int 1)))) (aCons (eLst (e1 dRev (eVarW 2))) (aCons (eVar 4) (aCons (e3 dCutA (eVarW 4) oNone (oSome (eC (.int 8)))) (aCons (eLst (e1 dRev (eVarW 4))) (aCons (e2 dAdd (e3 dCutA (eVarW 2) (oSome (eC (.int 1))) oNone) (e3 dCutA (eVarW 2) (oSome (eC (.int 1))) (oSome (eC (.int 2))))) aNil)))))))))))) (sIf (e1 asB (e2 dEq (eVarW 1) (eC (.int 2)))) (sAsg (gN 3) (eLst (e1 lim (aCons (eC (.int 0)) (aCons (eC (.int 0)) (aCons (eC (.int 0)) (aCons (e1 dNeg (eC (.int 1))) (aCons (eC (.bl true)) (aCons (eC (.bl false)) (aCons (eC .non) (aCons (eC (.int 1000000)) (aCons (eC (.int 1000001)) (aCons (eC (.str "1")) (aCons (eTup (aCons (eC (.int 0)) (aCons (eC (.int 1)) aNil))) aNil)))))))))))))) (sIf (e1 asB (e2 dEq (eVarW 1) (eC (.int 3)))) (sAsg (gN 3) (eLst (e1 lim (aCons (eC .non) (aCons (eC .non) (aCons (eC .non) (aCons (eTup (aCons (eC (.int 0)) (aCons (eC (.int 0)) aNil))) (aCons (eTup (aCons (eC (.int 2)) (aCons (eC (.int 0)) aNil))) (aCons (eTup (aCons (eC (.int 1000001)) (aCons (eC (.int 1)) aNil))) (aCons (eTup (aCons (eC (.int 1)) (aCons (eC (.int 0)) aNil))) (aCons (eLst (e1 lim (aCons (eC (.int 1)) (aCons (eC (.int 0)) aNil)))) (aCons (eTup (aCons (eC (.int 1)) aNil)) (aCons (eTup (aCons (eC (.bl true)) (aCons (eC (.int 0)) aNil))) aNil))))))))))))) (sSeq (sAsg (gN 3) (eLst (e1 lim (aCons (eC .non) (aCons (eTup (aCons (eTup (aCons (eC (.int 0)) (aCons (eC (.int 1)) aNil))) aNil)) (aCons (eLst (e1 lim (aCons (e2 dIx (eVarW 2) (eC (.int 0))) (aCons (e2 dIx (eVarW 2) (eC (.int 1))) aNil)))) (aCons (eTup (aCons (eTup (aCons (eC (.int 2)) (aCons (eC (.int 2)) aNil))) (aCons (eTup (aCons (eC (.int 0)) (aCons (eC (.int 1)) aNil))) aNil))) (aCons (eTup (aCons (eTup (aCons (eC (.int 0)) (aCons (eC (.int 1)) aNil))) (aCons (eTup (aCons (eC (.int 1)) (aCons (eC (.int 0)) aNil))) aNil))) (aCons (eTup (aCons (eTup (aCons (eC (.int 0)) (aCons (eC (.int 1)) aNil))) (aCons (eTup (aCons (eC (.int 0)) (aCons (eC (.int 1)) aNil))) aNil))) aNil)))))))))
  (sSeq (sAsg (gN 3) (e2 dAdd (eVarW 3) (eLst (e1 lim (aCons (eTup (aCons (e2 dIx (eVarW 2) (eC (.int 0))) (aCons (eTup (aCons (eC (.int 1)) (aCons (eC (.int 1)) aNil))) aNil))) (aCons (eTup (aCons (eTup (aCons (eC (.int 1)) (aCons (eC (.int 1)) aNil))) (aCons (e2 dIx (eVarW 2) (eC (.int 1))) aNil))) (aCons (eTup (aCons (eTup (aCons (eC (.int 1)) (aCons (eC (.int 1)) aNil))) (aCons (eTup (aCons (eC (.int 1)) (aCons (eC (.bl true)) aNil))) aNil))) (aCons (eC (.str "still")) aNil))))))))
  (sSeq (sAsg (gN 5) (e2 dPowB (e2 dPow (eC (.int 10)) (eC (.int 50))) (eC (.int 8))))
  (sAsg (gN 3) (e2 dAdd (eVarW 3) (eLst (e1 lim (aCons (eTup (aCons (eTup (aCons (eVar 5) (aCons (eC (.int 1)) aNil))) (aCons (eTup (aCons (eC (.int 0)) (aCons (eC (.int 1)) aNil))) aNil))) (aCons (eTup (aCons (eTup (aCons (eC (.int 0)) (aCons (eC (.int 1)) aNil))) (aCons (eTup (aCons (eC (.int 1)) (aCons (eVar 5) aNil))) aNil))) (aCons (eTup (aCons (eTup (aCons (e2 dSub (eC (.int 1)) (eVarW 5)) (aCons (eC (.int 1)) aNil))) (aCons (eTup (aCons (eC (.int 0)) (aCons (eC (.int 1)) aNil))) aNil))) (aCons (eTup (aCons (eTup (aCons (eC (.int 0)) (aCons (eC (.int 1)) aNil))) (aCons (eTup (aCons (e1 dNeg (eC (.int 1))) (aCons (e2 dSub (eVarW 5) (eC (.int 1))) aNil))) aNil))) aNil)))))))))))))))
  (sRet (e2 dIx (eVarW 3) (eCallS m__law_take [] (aCons (eVar 0) (aCons (e1 fLen (aCons (eVarW 3) aNil)) aNil))))))
def m__law_spoil : List D → Dk → Res Dk D := runB 7 b__law_spoil
def b__law_free_made : MS Unit :=
  (sSeq (sIf (e1 asB (e2 dEq (eVarW 1) (eLst (e1 lim (aCons (eC (.bl true)) (aCons (eC (.bl true)) (aCons (eC (.bl true)) aNil))))))) (sRet (eCall m_free [(.int 1), (.tup [(.tup [(.int 0), (.int 1)]), (.tup [(.int 0), (.int 1)])]), (.tup [(.tup [(.int 0), (.int 1)]), (.tup [(.int 0), (.int 1)])])] (aCons (e2 dIx (eVarW 0) (eC (.int 0))) (aCons (e2 dIx (eVarW 0) (eC (.int 1))) aNil)))) sSkip)
  (sSeq (sIf (e1 asB (e2 dEq (eVarW 1) (eLst (e1 lim (aCons (eC (.bl false)) (aCons (eC (.bl true)) (aCons (eC (.bl true)) aNil))))))) (sRet (eCallQ m_free [(false, 0), (true, 0), (true, 1)] [(.tup [(.tup [(.int 0), (.int 1)]), (.tup [(.int 0), (.int 1)])]), (.tup [(.tup [(.int 0), (.int 1)]), (.tup [(.int 0), (.int 1)])])] (aCons (e2 dIx (eVarW 0) (eC (.int 0))) (aCons (e2 dIx (eVarW 0) (eC (.int 1))) aNil)) (aCons (e2 dIx (eVarW 0) (eC (.int 2))) aNil))) sSkip)
  (sSeq (sIf (e1 asB (e2 dEq (eVarW 1) (eLst (e1 lim (aCons (eC (.bl true)) (aCons (eC (.bl false)) (aCons (eC (.bl true)) aNil))))))) (sRet (eCallQ m_free [(true, 0), (false, 0), (true, 1)] [(.int 1), (.tup [(.tup [(.int 0), (.int 1)]), (.tup [(.int 0), (.int 1)])])] (aCons (e2 dIx (eVarW 0) (eC (.int 0))) (aCons (e2 dIx (eVarW 0) (eC (.int 1))) aNil)) (aCons (e2 dIx (eVarW 0) (eC (.int 4))) aNil))) sSkip)
  (sSeq (sIf (e1 asB (e2 dEq (eVarW 1) (eLst (e1 lim (aCons (eC (.bl true)) (aCons (eC (.bl true)) (aCons (eC (.bl false)) aNil))))))) (sRet (eCallQ m_free [(true, 0), (true, 1), (false, 0)] [(.int 1), (.tup [(.tup [(.int 0), (.int 1)]), (.tup [(.int 0), (.int 1)])])] (aCons (e2 dIx (eVarW 0) (eC (.int 0))) (aCons (e2 dIx (eVarW 0) (eC (.int 1))) aNil)) (aCons (e2 dIx (eVarW 0) (eC (.int 5))) aNil))) sSkip)
  (sSeq (sIf (e1 asB (e2 dEq (eVarW 1) (eLst (e1 lim (aCons (eC (.bl false)) (aCons (eC (.bl false)) (aCons (eC (.bl true)) aNil))))))) (sRet (eCallQ m_free [(false, 1), (false, 0), (true, 0)] [(.tup [(.tup [(.int 0), (.int 1)]), (.tup [(.int 0), (.int 1)])])] (aCons (e2 dIx (eVarW 0) (eC (.int 0))) (aCons (e2 dIx (eVarW 0) (eC (.int 1))) aNil)) (aCons (e2 dIx (eVarW 0) (eC (.int 4))) (aCons (e2 dIx (eVarW 0) (eC (.int 2))) aNil)))) sSkip)
  (sSeq (sIf (e1 asB (e2 dEq (eVarW 1) (eLst (e1 lim (aCons (eC (.bl true)) (aCons (eC (.bl false)) (aCons (eC (.bl false)) aNil))))))) (sRet (eCallQ m_free [(true, 0), (false, 1), (false, 0)] [(.int 1)] (aCons (e2 dIx (eVarW 0) (eC (.int 0))) (aCons (e2 dIx (eVarW 0) (eC (.int 1))) aNil)) (aCons (e2 dIx (eVarW 0) (eC (.int 5))) (aCons (e2 dIx (eVarW 0) (eC (.int 4))) aNil)))) sSkip)
  (sSeq (sIf (e1 asB (e2 dEq (eVarW 1) (eLst (e1 lim (aCons (eC (.bl false)) (aCons (eC (.bl true)) (aCons (eC (.bl false)) aNil))))))) (sRet (eCallQ m_free [(false, 1), (true, 0), (false, 0)] [(.tup [(.tup [(.int 0), (.int 1)]), (.tup [(.int 0), (.int 1)])])] (aCons (e2 dIx (eVarW 0) (eC (.int 0))) (aCons (e2 dIx (eVarW 0) (eC (.int 1))) aNil)) (aCons (e2 dIx (eVarW 0) (eC (.int 5))) (aCons (e2 dIx (eVarW 0) (eC (.int 2))) aNil)))) sSkip)
  (sSeq (sIf (e1 truth (eVarW 2)) (sRet (eCallQ m_free [(false, 2), (false, 1), (false, 0)] [] (aCons (e2 dIx (eVarW 0) (eC (.int 0))) (aCons (e2 dIx (eVarW 0) (eC (.int 1))) aNil)) (aCons (e2 dIx (eVarW 0) (eC (.int 5))) (aCons (e2 dIx (eVarW 0) (eC (.int 4))) (aCons (e2 dIx (eVarW 0) (eC (.int 2))) aNil))))) sSkip)
  (sRet (eCallQ m_free [(false, 0), (false, 1), (false, 2)] [] (aCons (e2 dIx (eVarW 0) (eC (.int 0))) (aCons (e2 dIx (eVarW 0) (eC (.int 1))) aNil)) (aCons (e2 dIx (eVarW 0) (eC (.int 2))) (aCons (e2 dIx (eVarW 0) (eC (.int 4))) (aCons (e2 dIx (eVarW 0) (eC (.int 5))) aNil)))))))))))))
def m__law_free_made : List D → Unit → Res Unit D := runB 3 b__law_free_made
def b__law_railed_made : MS Unit :=
  (sSeq (sIf (e1 asB (e2 dEq (eVarW 1) (eLst (e1 lim (aCons (eC (.bl true)) (aCons (eC (.bl true)) (aCons (eC (.bl true)) aNil))))))) (sRet (eCallQ m_railed [(false, 0), (true, 0), (true, 1), (true, 2)] [(.int 1), (.tup [(.tup [(.int 0), (.int 1)]), (.tup [(.int 0), (.int 1)])]), (.tup [(.tup [(.int 0), (.int 1)]), (.tup [(.int 0), (.int 1)])])] (aCons (e2 dIx (eVarW 0) (eC (.int 0))) (aCons (e2 dIx (eVarW 0) (eC (.int 1))) aNil)) (aCons (e2 dIx (eVarW 0) (eC (.int 3))) aNil))) sSkip)
  (sSeq (sIf (e1 asB (e2 dEq (eVarW 1) (eLst (e1 lim (aCons (eC (.bl false)) (aCons (eC (.bl true)) (aCons (eC (.bl true)) aNil))))))) (sRet (eCallQ m_railed [(false, 1), (false, 0), (true, 0), (true, 1)] [(.tup [(.tup [(.int 0), (.int 1)]), (.tup [(.int 0), (.int 1)])]), (.tup [(.tup [(.int 0), (.int 1)]), (.tup [(.int 0), (.int 1)])])] (aCons (e2 dIx (eVarW 0) (eC (.int 0))) (aCons (e2 dIx (eVarW 0) (eC (.int 1))) aNil)) (aCons (e2 dIx (eVarW 0) (eC (.int 2))) (aCons (e2 dIx (eVarW 0) (eC (.int 3))) aNil)))) sSkip)
  (sSeq (sIf (e1 asB (e2 dEq (eVarW 1) (eLst (e1 lim (aCons (eC (.bl true)) (aCons (eC (.bl false)) (aCons (eC (.bl true)) aNil))))))) (sRet (eCallQ m_railed [(false, 0), (true, 0), (false, 1), (true, 1)] [(.int 1), (.tup [(.tup [(.int 0), (.int 1)]), (.tup [(.int 0), (.int 1)])])] (aCons (e2 dIx (eVarW 0) (eC (.int 0))) (aCons (e2 dIx (eVarW 0) (eC (.int 1))) aNil)) (aCons (e2 dIx (eVarW 0) (eC (.int 3))) (aCons (e2 dIx (eVarW 0) (eC (.int 4))) aNil)))) sSkip)
  (sSeq (sIf (e1 asB (e2 dEq (eVarW 1) (eLst (e1 lim (aCons (eC (.bl true)) (aCons (eC (.bl true)) (aCons (eC (.bl false)) aNil))))))) (sRet (eCallQ m_railed [(false, 1), (true, 0), (true, 1), (false, 0)] [(.int 1), (.tup [(.tup [(.int 0), (.int 1)]), (.tup [(.int 0), (.int 1)])])] (aCons (e2 dIx (eVarW 0) (eC (.int 0))) (aCons (e2 dIx (eVarW 0) (eC (.int 1))) aNil)) (aCons (e2 dIx (eVarW 0) (eC (.int 5))) (aCons (e2 dIx (eVarW 0) (eC (.int 3))) aNil)))) sSkip)
  (sSeq (sIf (e1 asB (e2 dEq (eVarW 1) (eLst (e1 lim (aCons (eC (.bl false)) (aCons (eC (.bl false)) (aCons (eC (.bl true)) aNil))))))) (sRet (eCallQ m_railed [(false, 1), (false, 2), (false, 0), (true, 0)] [(.tup [(.tup [(.int 0), (.int 1)]), (.tup [(.int 0), (.int 1)])])] (aCons (e2 dIx (eVarW 0) (eC (.int 0))) (aCons (e2 dIx (eVarW 0) (eC (.int 1))) aNil)) (aCons (e2 dIx (eVarW 0) (eC (.int 4))) (aCons (e2 dIx (eVarW 0) (eC (.int 3))) (aCons (e2 dIx (eVarW 0) (eC (.int 2))) aNil))))) sSkip)
  (sSeq (sIf (e1 asB (e2 dEq (eVarW 1) (eLst (e1 lim (aCons (eC (.bl true)) (aCons (eC (.bl false)) (aCons (eC (.bl false)) aNil))))))) (sRet (eCallQ m_railed [(false, 2), (true, 0), (false, 1), (false, 0)] [(.int 1)] (aCons (e2 dIx (eVarW 0) (eC (.int 0))) (aCons (e2 dIx (eVarW 0) (eC (.int 1))) aNil)) (aCons (e2 dIx (eVarW 0) (eC (.int 5))) (aCons (e2 dIx (eVarW 0) (eC (.int 4))) (aCons (e2 dIx (eVarW 0) (eC (.int 3))) aNil))))) sSkip)
  (sSeq (sIf (e1 asB (e2 dEq (eVarW 1) (eLst (e1 lim (aCons (eC (.bl false)) (aCons (eC (.bl true)) (aCons (eC (.bl false)) aNil))))))) (sRet (eCallQ m_railed [(false, 0), (false, 2), (true, 0), (false, 1)] [(.tup [(.tup [(.int 0), (.int 1)]), (.tup [(.int 0), (.int 1)])])] (aCons (e2 dIx (eVarW 0) (eC (.int 0))) (aCons (e2 dIx (eVarW 0) (eC (.int 1))) aNil)) (aCons (e2 dIx (eVarW 0) (eC (.int 3))) (aCons (e2 dIx (eVarW 0) (eC (.int 5))) (aCons (e2 dIx (eVarW 0) (eC (.int 2))) aNil))))) sSkip)
  (sSeq (sIf (e1 truth (eVarW 2)) (sRet (eCallQ m_railed [(false, 3), (false, 2), (false, 1), (false, 0)] [] (aCons (e2 dIx (eVarW 0) (eC (.int 0))) (aCons (e2 dIx (eVarW 0) (eC (.int 1))) aNil)) (aCons (e2 dIx (eVarW 0) (eC (.int 5))) (aCons (e2 dIx (eVarW 0) (eC (.int 4))) (aCons (e2 dIx (eVarW 0) (eC (.int 2))) (aCons (e2 dIx (eVarW 0) (eC (.int 3))) aNil)))))) sSkip)
  (sRet (eCallQ m_railed [(false, 0), (false, 1), (false, 2), (false, 3)] [] (aCons (e2 dIx (eVarW 0) (eC (.int 0))) (aCons (e2 dIx (eVarW 0) (eC (.int 1))) aNil)) (aCons (e2 dIx (eVarW 0) (eC (.int 3))) (aCons (e2 dIx (eVarW 0) (eC (.int 2))) (aCons (e2 dIx (eVarW 0) (eC (.int 4))) (aCons (e2 dIx (eVarW 0) (eC (.int 5))) aNil))))))))))))))
def m__law_railed_made : List D → Unit → Res Unit D := runB 3 b__law_railed_made
def b__law_made : MS Unit :=
  (sSeq (sIf (e1 asB (e2 dEq (eVarW 0) (eC (.int 1)))) (sRet (eCall m__law_free_made [] (aCons (eVar 1) (aCons (eVar 2) (aCons (eVar 3) aNil))))) sSkip)
  (sSeq (sIf (e1 asB (e2 dEq (eVarW 0) (eC (.int 2)))) (sRet (eCall m__law_railed_made [] (aCons (eVar 1) (aCons (eVar 2) (aCons (eVar 3) aNil))))) sSkip)
  (sSeq (sIf (e1 truth (e2 dIx (eVarW 2) (eC (.int 1)))) (sRet (eCall m_wall [(.tup [(.tup [(.int 0), (.int 1)]), (.tup [(.int 0), (.int 1)])])] (aCons (e2 dIx (eVarW 1) (eC (.int 0))) (aCons (e2 dIx (eVarW 1) (eC (.int 1))) aNil)))) sSkip)
  (sRet (eCallQ m_wall [(false, 0)] [] (aCons (e2 dIx (eVarW 1) (eC (.int 0))) (aCons (e2 dIx (eVarW 1) (eC (.int 1))) aNil)) (aCons (e2 dIx (eVarW 1) (eC (.int 4))) aNil))))))
def m__law_made : List D → Unit → Res Unit D := runB 4 b__law_made
def b__law_alike (mf : List D → Unit → Res Unit D) : MS Unit :=
  (sSeq (sIf (e1 truth (e1 fIsi (aCons (eVarW 1) (aCons (eC (.ty "tuple")) aNil)))) (sSeq (sIf (tOr2 (tNot1 (e1 truth (e1 fIsi (aCons (eVarW 0) (aCons (eC (.ty "tuple")) aNil))))) (e1 asB (e2 dNe (e1 fLen (aCons (eVarW 0) aNil)) (e1 fLen (aCons (eVarW 1) aNil))))) (sRet (eC (.bl false))) sSkip)
  (sRet (e1 fAll (aCons (eLst (eComp (e1 fZip (aCons (eVar 0) (aCons (eVar 1) aNil))) [2, 3] (gT (gCons (gN 2) (gCons (gN 3) gNil))) (fun _ t => .ok true t) (eCall mf [] (aCons (eVar 2) (aCons (eVar 3) aNil))))) aNil)))) sSkip)
  (sSeq (sIf (e1 asB (e2 dIs (eVarW 1) (eC .non))) (sRet (e2 dIs (eVarW 0) (eC .non))) sSkip)
  (sSeq (sIf (e1 truth (e1 fIsi (aCons (eVarW 1) (aCons (eC (.ty "int")) aNil)))) (sRet (eAnd2 (eCall m__law_whole [] (aCons (eVar 0) aNil)) (e2 dEq (eVarW 0) (eVarW 1)))) sSkip)
  (sRet (eAnd2 (e1 fIsi (aCons (eVarW 0) (aCons (eC (.ty "str")) aNil))) (e2 dEq (eVarW 0) (eVarW 1)))))))
def mr__law_alike : Nat → List D → Unit → Res Unit D
  | 0 => runB 4 (fun _ _ => .bad)
  | n + 1 => runB 4 (b__law_alike (mr__law_alike n))
def m__law_alike : List D → Unit → Res Unit D := mr__law_alike 8
def b__law_held : MS Unit :=
  (sSeq (sOwn 4 (e1 fLst (aCons (eVarW 1) aNil)))
  (sSeq (sIf (e1 truth (e2 dIx (eVarW 2) (eC (.int 0)))) (sSetI 4 (eC (.int 1)) (eC (.int 2))) sSkip)
  (sSeq (sIf (e1 truth (e2 dIx (eVarW 2) (eC (.int 1)))) (sSetI 4 (eTup (aCons (eTup (aCons (eC (.int 0)) (aCons (eC (.int 1)) aNil))) (aCons (eTup (aCons (eC (.int 0)) (aCons (eC (.int 1)) aNil))) aNil))) (eC (.int 4))) sSkip)
  (sSeq (sIf (e1 truth (e2 dIx (eVarW 2) (eC (.int 2)))) (sSetI 4 (eTup (aCons (eTup (aCons (eC (.int 0)) (aCons (eC (.int 1)) aNil))) (aCons (eTup (aCons (eC (.int 0)) (aCons (eC (.int 1)) aNil))) aNil))) (eC (.int 5))) sSkip)
  (sFrz 4 (sSeq (sAsg (gN 5) (eCall m__law_wrong [] (aCons (eVar 0) (aCons (eVar 4) aNil))))
  (sSeq (sAsg (gN 6) (eLst (e1 fLst (aCons (e2 dIx (eVarW 1) (eC (.int 1))) aNil))))
  (sSeq (sAsg (gN 7) (eC .non))
  (sSeq (sAsg (gN 8) (eC .non))
  (sSeq (sTryW (sAsg (gN 7) (eCall m__law_made [] (aCons (eVar 0) (aCons (eVar 1) (aCons (eVar 2) (aCons (eVar 3) aNil)))))) "BadRow" 9 [(8, (fun _ => (fxLim .lst (fxCons (fXf "part") (fxCons (fXb true) (fxCons (fXb true) (fun _ => some []))))))), (8, (fwAdd 8 (fxLim .lst (fxCons (fXb false) (fun _ => some [])))))])
  (sSeq (sIf (e1 asB (e2 dNe (e2 dIx (eVarW 1) (eC (.int 1))) (eVarW 6))) (sRet (eC (.bl false))) sSkip)
  (sSeq (sIf (e1 asB (e2 dNe (eVarW 5) (eC (.str "")))) (sRet (eAnd2 (e2 dEq (eVarW 8) (eLst (e1 lim (aCons (eVar 5) (aCons (eC (.bl true)) (aCons (eC (.bl true)) (aCons (eC (.bl false)) aNil))))))) (e1 fIsi (aCons (e2 dIx (eVarW 8) (eC (.int 0))) (aCons (eC (.ty "str")) aNil))))) sSkip)
  (sRet (eAnd2 (e2 dIs (eVarW 8) (eC .non)) (eCall m__law_alike [] (aCons (eVar 7) (aCons (eCall m__law_due [] (aCons (eVar 0) (aCons (eVar 4) aNil))) aNil)))))))))))))))))
def m__law_held : List D → Unit → Res Unit D := runB 10 b__law_held
def b_law : MS Dk :=
  (sSeq (sAsg (gN 2) (eCallS m__law_take [] (aCons (eVar 1) (aCons (eC (.int 3)) aNil))))
  (sSeq (sAsg (gN 3) (eCallS m__law_take [] (aCons (eVar 1) (aCons (eC (.int 4)) aNil))))
  (sSeq (sAsg (gN 4) (eLst (e1 lim (aCons (eCallS m__law_take [] (aCons (eVar 1) (aCons (eC (.int 6)) aNil))) (aCons (eCallS m__law_take [] (aCons (eVar 1) (aCons (eC (.int 6)) aNil))) aNil)))))
  (sSeq (sAsg (gN 5) (eLst (e1 lim (aCons (e2 dEq (eCallS m__law_take [] (aCons (eVar 1) (aCons (eC (.int 2)) aNil))) (eC (.int 1))) (aCons (e2 dEq (eCallS m__law_take [] (aCons (eVar 1) (aCons (eC (.int 2)) aNil))) (eC (.int 1))) (aCons (e2 dEq (eCallS m__law_take [] (aCons (eVar 1) (aCons (eC (.int 2)) aNil))) (eC (.int 1))) aNil))))))
  (sSeq (sAsg (gN 6) (e2 dEq (eCallS m__law_take [] (aCons (eVar 1) (aCons (eC (.int 2)) aNil))) (eC (.int 1))))
  (sSeq (sAsg (gN 7) (eCallS m__law_things [] (aCons (eVar 1) (aCons (eVar 2) aNil))))
  (sSeq (sOwn 8 (e1 fLst (aCons (eVarW 7) aNil)))
  (sSeq (sIf (e1 asB (e2 dGt (eVarW 3) (eC (.int 1)))) (sSetI 8 (eCallS m__law_spoil [] (aCons (eVar 1) (aCons (e2 dIx (eVarW 4) (eC (.int 0))) (aCons (e2 dIx (eVarW 7) (e2 dIx (eVarW 4) (eC (.int 0)))) aNil)))) (e2 dIx (eVarW 4) (eC (.int 0)))) sSkip)
  (sSeq (sIf (tAnd2 (e1 asB (e2 dEq (eVarW 3) (eC (.int 3)))) (e1 asB (e2 dNe (e2 dIx (eVarW 4) (eC (.int 1))) (e2 dIx (eVarW 4) (eC (.int 0)))))) (sSetI 8 (eCallS m__law_spoil [] (aCons (eVar 1) (aCons (e2 dIx (eVarW 4) (eC (.int 1))) (aCons (e2 dIx (eVarW 7) (e2 dIx (eVarW 4) (eC (.int 1)))) aNil)))) (e2 dIx (eVarW 4) (eC (.int 1)))) sSkip)
  (sFrz 8 (sSeq (sIf (tNot1 (e1 truth (eCall m__law_held [] (aCons (eVar 2) (aCons (eVar 8) (aCons (eVar 5) (aCons (eVar 6) aNil))))))) (sRet (eC (.bl false))) sSkip)
  (sRet (eAnd2 (eCall m__law_held [] (aCons (eVar 2) (aCons (eVar 7) (aCons (eVar 5) (aCons (eVar 6) aNil))))) (eCall m__law_held [] (aCons (eVar 2) (aCons (eVar 7) (aCons (eLst (e1 lim (aCons (eC (.bl false)) (aCons (eC (.bl false)) (aCons (eC (.bl false)) aNil))))) (aCons (eVar 6) aNil))))))))))))))))))
end MM
end
namespace MM
open PySem PySem.Spec PyProof.Rows L2
theorem fmod_nat (x y : Nat) : Int.fmod (x : Int) (y : Int) = ((x % y : Nat) : Int) := by
  rw [Int.fmod_eq_emod_of_nonneg _ (by omega)]; rfl
theorem gcd_step {x n : Nat} {g : Nat} (h : x.gcd n = g) : n.gcd (x % n) = g := by rw [Nat.gcd_comm, ← Nat.gcd_rec, Nat.gcd_comm]; exact h
theorem cast1 (n : Nat) : ((n : Int) = 1) = (n = 1) := by simp; omega
def isWh : D → Bool
  | .int _ => true
  | _ => false
theorem tyN_dct {ks vs : List D} (h : (tyN (.dct ks vs)).isSome = true) : tyN (.dct ks vs) = some "dict" := by
  have e : tyN (.dct ks vs) = if (ks.all fun k => (keyOf k).isSome) = true then some "dict" else none := rfl
  rw [e] at h ⊢
  split
  · rfl
  · rename_i q
    rw [if_neg q] at h
    cases h
theorem isi_int {d : D} (h : (tyN d).isSome = true) : ∃ a b : Bool, isi d "int" = some a ∧ isi d "bool" = some b ∧ (a && !b) = isWh d := by
  cases d <;> first
    | (cases h; done)
    | exact ⟨_, _, rfl, rfl, rfl⟩
    | exact ⟨false, false, by unfold isi; rw [tyN_dct h]; rfl, by unfold isi; rw [tyN_dct h]; rfl, rfl⟩
def sh : D → Bool
  | .tup [.int a, .int b] => decide (1 ≤ b) && decide (Int.gcd a b = 1)
  | _ => false
def plain1 : D → Bool
  | .tup [x, y] => (tyN x).isSome && (tyN y).isSome
  | d => (tyN d).isSome
theorem isi_tup {d : D} (h : (tyN d).isSome = true) (hn : ∀ xs, d ≠ .tup xs) : isi d "tuple" = some false := by
  cases d <;> first
    | (cases h; done)
    | rfl
    | (unfold isi; rw [tyN_dct h]; rfl)
    | exact absurd rfl (hn _)
theorem isi_tupT {xs : List D} : isi (.tup xs) "tuple" = some true := rfl
theorem fdiv_gcd {g a' : Int} (hg : g ≠ 0) : (g * a').fdiv g = a' := Int.mul_fdiv_cancel_left _ hg
theorem gcd_parts (a b : Int) (hb : b ≠ 0) : ∃ a' b' : Int, a = (Int.gcd a b : Int) * a' ∧ b = (Int.gcd a b : Int) * b' ∧ Int.gcd a' b' = 1 ∧ (0 : Int) < Int.gcd a b := by
  have hg : 0 < Int.gcd a b := Int.gcd_pos_of_ne_zero_right _ hb
  refine ⟨a / (Int.gcd a b : Int), b / (Int.gcd a b : Int), ?_, ?_, ?_, by omega⟩
  · rw [Int.mul_ediv_cancel' (Int.gcd_dvd_left ..)]
  · rw [Int.mul_ediv_cancel' (Int.gcd_dvd_right ..)]
  · exact Int.gcd_ediv_gcd_ediv_gcd hg
theorem fmod_pos {a b : Int} (hb : 1 ≤ b) : 0 ≤ a.fmod b ∧ a.fmod b < b := by
  rw [Int.fmod_eq_emod_of_nonneg _ (by omega)]
  exact ⟨Int.emod_nonneg _ (by omega), Int.emod_lt_of_pos _ (by omega)⟩
def manyOk (m : Int) : Prop := 1 ≤ m ∧ m.natAbs < 2 ^ 8000
theorem many_of {m : Int} (h1 : 1 ≤ m) (h2 : m ≤ 1000000000000) : manyOk m := ⟨h1, Nat.lt_of_lt_of_le (show m.natAbs < 2 ^ 50 by omega) (Nat.pow_le_pow_right (by decide) (by decide))⟩
theorem divisor_ok (a b : Int) : m_divisor [.int a, .int b] () = .ok (.int (Int.gcd a b)) () := by
  apply oE_eq
  unfold m_divisor b_divisor
  simp [Nxt, Nxt]
  refine oS_while (fun n ρ t => ∃ x y : Nat, ρ = [.val (.int x), .val (.int y)] ∧ n = y ∧ Nat.gcd x y = Int.gcd a b) ?_ b.natAbs _ _ ⟨a.natAbs, b.natAbs, rfl, rfl, rfl⟩
  rintro n ρ t ⟨x, y, rfl, rfl, h⟩
  simp [Nxt]
  by_cases hn : n = 0
  · subst hn; left; simp at h; exact ⟨rfl, by rw [h]⟩
  · right
    exact ⟨by omega, hn, x % n, Nat.mod_lt _ (by omega), n, x % n, ⟨rfl, by rw [fmod_nat]⟩, rfl, gcd_step h⟩
theorem law_gcd_ok (a b : Int) : m__law_gcd [.int a, .int b] () = .ok (.int (Int.gcd a b)) () := by
  apply oE_eq
  unfold m__law_gcd b__law_gcd
  simp [Nxt, Nxt]
  refine oS_while (fun n ρ t => ∃ (x y : Nat) (z : Slot), ρ = [.val (.int x), .val (.int y), z] ∧ n = y ∧ Nat.gcd x y = Int.gcd a b) ?_ b.natAbs _ _ ⟨a.natAbs, b.natAbs, _, rfl, rfl, rfl⟩
  rintro n ρ t ⟨x, y, z, rfl, rfl, h⟩
  simp [Nxt]
  by_cases hn : n = 0
  · subst hn; left; simp at h; exact ⟨rfl, by rw [h]⟩
  · right
    exact ⟨by omega, hn, x % n, Nat.mod_lt _ (by omega), n, x % n, ⟨rfl, by rw [fmod_nat]⟩, rfl, gcd_step h⟩
theorem is_whole_ok {d : D} (h : (tyN d).isSome = true) : m_is_whole [d] () = .ok (.bl (isWh d)) () := by
  obtain ⟨a, b, h1, h2, h3⟩ := isi_int h
  apply oE_eq
  unfold m_is_whole b_is_whole
  simp [Nxt, fIsi, h1, h2]
  cases a <;> cases b <;> simp_all
theorem plain1_ty {d : D} (h : plain1 d = true) : (tyN d).isSome = true := by
  unfold plain1 at h
  split at h
  · rfl
  · exact h
theorem is_share_p {d : D} (h : plain1 d = true) : m_is_share [d] () = .ok (.bl (sh d)) () := by
  have ty := plain1_ty h
  by_cases q : ∃ xs, d = .tup xs
  · obtain ⟨xs, rfl⟩ := q
    by_cases hl : xs.length = 2
    · match xs, hl with
      | [x, y], _ =>
        obtain ⟨hx, hy⟩ := Bool.and_eq_true_iff.mp h
        have e0 : atI [x, y] 0 = some x := rfl
        have e1 : atI [x, y] 1 = some y := rfl
        have wx := is_whole_ok hx
        have wy := is_whole_ok hy
        apply oE_eq
        unfold m_is_share b_is_share
        simp [Nxt, fIsi, isi_tupT, e0, e1, wx, wy]
        cases x with
        | int i =>
          cases y with
          | int j =>
            simp [isWh, sh, divisor_ok, cast1]
            by_cases q : 1 ≤ j
            · left; exact ⟨q, by simp [q]⟩
            · right; exact ⟨by omega, fun z => absurd z q⟩
          | _ => simp [isWh, sh]
        | _ => cases y <;> simp [isWh, sh]
    · have hl' : ((xs.length : Nat) : Int) ≠ 2 := by omega
      have es : sh (.tup xs) = false := by
        match xs, hl with
        | [], _ => rfl
        | [x], _ => cases x <;> rfl
        | [x, y], h => exact absurd rfl h
        | x :: y :: z :: r, _ => cases x <;> cases y <;> rfl
      apply oE_eq
      unfold m_is_share b_is_share
      simp [Nxt, fIsi, isi_tupT, hl', es]
  · have es : sh d = false := by
      cases d <;> first
        | rfl
        | exact absurd ⟨_, rfl⟩ q
    have e := isi_tup ty fun xs z => q ⟨xs, z⟩
    apply oE_eq
    unfold m_is_share b_is_share
    simp [Nxt, fIsi, e, es]
def R (r : Rat) : D := .tup [.int r.num, .int (r.den : Int)]
structure Sz (n : Nat) (r : Rat) : Prop where
  nu : r.num.natAbs < 2 ^ n
  de : r.den < 2 ^ n
theorem Sz.le {n m : Nat} {r : Rat} (h : Sz n r) (hm : n ≤ m) : Sz m r := ⟨Nat.lt_of_lt_of_le h.nu (Nat.pow_le_pow_right (by decide) hm), Nat.lt_of_lt_of_le h.de (Nat.pow_le_pow_right (by decide) hm)⟩
@[simp] theorem R_ix0 {r : Rat} : dIx (R r) (.int 0) = some (.int r.num) := rfl
@[simp] theorem R_ix1 {r : Rat} : dIx (R r) (.int 1) = some (.int (r.den : Int)) := rfl
@[simp] theorem R_gT {r : Rat} {gs : Tgts} {ρ : Rho} : gT gs ρ (R r) = gs ρ [.int r.num, .int (r.den : Int)] := rfl
@[simp] theorem R_len {r : Rat} : fLen [R r] = some (.int 2) := rfl
@[simp] theorem R_it {r : Rat} : itD (R r) = some [.int r.num, .int (r.den : Int)] := rfl
@[simp] theorem R_isT {r : Rat} : fIsi [R r, .ty "tuple"] = some (.bl true) := rfl
@[simp] theorem isi_int_int {i : Int} : fIsi [.int i, .ty "int"] = some (.bl true) := rfl
@[simp] theorem isi_int_bool {i : Int} : fIsi [.int i, .ty "bool"] = some (.bl false) := rfl
@[simp] theorem R_eq {r s : Rat} : dEq (R r) (R s) = some (.bl (decide (r = s))) := by
  unfold R
  rw [dEq_pair]
  congr 2
  by_cases h : r = s
  · subst h; simp
  · rw [decide_eq_false h]
    by_cases h1 : r.num = s.num
    · by_cases h2 : (r.den : Int) = s.den
      · exact absurd (Rat.ext h1 (by omega)) h
      · rw [decide_eq_false h2, Bool.and_false]
    · rw [decide_eq_false h1, Bool.false_and]
@[simp] theorem R_ne {r s : Rat} : dNe (R r) (R s) = some (.bl (!decide (r = s))) := by
  have h : dEq (R r) (R s) = some (.bl (decide (r = s))) := R_eq
  unfold dEq at h
  unfold dNe
  cases e : eqD (R r) (R s) with
  | none => rw [e] at h; cases h
  | some b =>
    rw [e] at h
    have : b = decide (r = s) := by
      have h' : some (D.bl b) = some (.bl (decide (r = s))) := h
      injection h' with h'
      injection h'
    rw [this]; rfl
theorem den_pos (r : Rat) : (1 : Int) ≤ r.den := by have := r.den_pos; omega
theorem rat_of {a b p q : Int} (hb : b ≠ 0) (hq : 1 ≤ q) (hg : Int.gcd p q = 1) (he : p * b = q * a) : (Rat.divInt a b).num = p ∧ ((Rat.divInt a b).den : Int) = q := by
  have nz : q.natAbs ≠ 0 := by omega
  have e : (Rat.mk' p q.natAbs nz hg) = Rat.divInt a b := by
    rw [← Rat.num_divInt_den (Rat.mk' p q.natAbs nz hg)]
    show Rat.divInt p (q.natAbs : Int) = Rat.divInt a b
    rw [show ((q.natAbs : Nat) : Int) = q by omega, Rat.divInt_eq_divInt_iff (by omega) hb, he, Int.mul_comm]
  rw [← e]
  exact ⟨rfl, by show ((q.natAbs : Nat) : Int) = q; omega⟩
theorem divInt_sz {a b : Int} {n : Nat} (hb : b ≠ 0) (h1 : a.natAbs < 2 ^ n) (h2 : b.natAbs < 2 ^ n) : Sz n (Rat.divInt a b) := by
  obtain ⟨a', b', e1, e2, e3, e4⟩ := gcd_parts a b hb
  have la : a'.natAbs ≤ a.natAbs := by
    conv => rhs; rw [e1]
    rw [Int.natAbs_mul]; exact Nat.le_mul_of_pos_left _ (by omega)
  have lb : b'.natAbs ≤ b.natAbs := by
    conv => rhs; rw [e2]
    rw [Int.natAbs_mul]; exact Nat.le_mul_of_pos_left _ (by omega)
  have b0 : b' ≠ 0 := fun z => hb (by rw [e2, z, Int.mul_zero])
  have cross : a' * b = b' * a := by
    conv => lhs; rw [e2]
    conv => rhs; rw [e1]
    rw [← Int.mul_assoc, ← Int.mul_assoc, Int.mul_comm a', Int.mul_comm b', Int.mul_assoc, Int.mul_assoc, Int.mul_comm a' b']
  rcases Int.lt_or_gt_of_ne b0 with h | h
  · obtain ⟨q1, q2⟩ := rat_of (a := a) (b := b) (p := -a') (q := -b') hb (by omega) (by rw [Int.gcd_neg, Int.neg_gcd]; exact e3) (by rw [Int.neg_mul, Int.neg_mul, cross])
    exact ⟨by rw [q1]; omega, by omega⟩
  · obtain ⟨q1, q2⟩ := rat_of (a := a) (b := b) (p := a') (q := b') hb (by omega) e3 cross
    exact ⟨by rw [q1]; omega, by omega⟩
theorem sz_mul {a b : Int} {n m : Nat} (h1 : a.natAbs < 2 ^ n) (h2 : b.natAbs < 2 ^ m) : (a * b).natAbs < 2 ^ (n + m) := by
  rw [Int.natAbs_mul, Nat.pow_add]
  exact Nat.mul_lt_mul'' h1 h2
theorem sz_add {a b : Int} {n : Nat} (h1 : a.natAbs < 2 ^ n) (h2 : b.natAbs < 2 ^ n) : (a + b).natAbs < 2 ^ (n + 1) := by
  rw [Nat.pow_succ]; omega
theorem sz_sub {a b : Int} {n : Nat} (h1 : a.natAbs < 2 ^ n) (h2 : b.natAbs < 2 ^ n) : (a - b).natAbs < 2 ^ (n + 1) := by
  rw [Nat.pow_succ]; omega
theorem Sz.den {n : Nat} {r : Rat} (h : Sz n r) : (r.den : Int).natAbs < 2 ^ n := h.de
@[simp] theorem R_plain {r : Rat} {i : Int} : atI [D.int r.num, D.int (r.den : Int)] 0 = some (.int r.num) := rfl
theorem max_eq (i j : Int) : (if j > i then j else i) = max i j := by omega
@[simp] theorem fMax2_int {i j : Int} : fMax2 [.int i, .int j] = some (.int (max i j)) := by show some (D.int (if j > i then j else i)) = _; rw [max_eq]
theorem den_mul_ne (r s : Rat) : (r.den : Int) * s.den ≠ 0 := by
  have := r.den_pos; have := s.den_pos
  intro z
  rcases Int.mul_eq_zero.mp z with h | h <;> omega
theorem add_divInt (r s : Rat) : r + s = Rat.divInt (r.num * s.den + s.num * r.den) (r.den * s.den) := by
  conv => lhs; rw [← Rat.num_divInt_den r, ← Rat.num_divInt_den s]
  rw [Rat.divInt_add_divInt _ _ (by have := r.den_pos; omega) (by have := s.den_pos; omega)]
theorem sub_divInt (r s : Rat) : r - s = Rat.divInt (r.num * s.den - s.num * r.den) (r.den * s.den) := by
  conv => lhs; rw [← Rat.num_divInt_den r, ← Rat.num_divInt_den s]
  rw [Rat.divInt_sub_divInt _ _ (by have := r.den_pos; omega) (by have := s.den_pos; omega)]
theorem Sz.add {n m : Nat} {r s : Rat} (h1 : Sz n r) (h2 : Sz m s) : Sz (n + m + 1) (r + s) := by
  rw [add_divInt]
  refine divInt_sz (den_mul_ne r s) (sz_add (sz_mul h1.nu h2.den) ?_) (Nat.lt_of_lt_of_le (sz_mul h1.den h2.den) (Nat.pow_le_pow_right (by decide) (by omega)))
  rw [Nat.add_comm n m]; exact sz_mul h2.nu h1.den
theorem Sz.sub {n m : Nat} {r s : Rat} (h1 : Sz n r) (h2 : Sz m s) : Sz (n + m + 1) (r - s) := by
  rw [sub_divInt]
  refine divInt_sz (den_mul_ne r s) (sz_sub (sz_mul h1.nu h2.den) ?_) (Nat.lt_of_lt_of_le (sz_mul h1.den h2.den) (Nat.pow_le_pow_right (by decide) (by omega)))
  rw [Nat.add_comm n m]; exact sz_mul h2.nu h1.den
theorem share_ok (a b : Int) (hb : b ≠ 0) (hs : b.natAbs < 2 ^ 8000) : ∃ p q : Int, m_share [.int a, .int b] () = .ok (.tup [.int p, .int q]) () ∧ 1 ≤ q ∧ Int.gcd p q = 1 ∧ p * b = q * a ∧ p.natAbs ≤ a.natAbs ∧ q.natAbs ≤ b.natAbs := by
  obtain ⟨a', b', e1, e2, e3, e4⟩ := gcd_parts a b hb
  have sg : (Int.gcd a b : Int).natAbs < 2 ^ 8000 := by
    have : Int.gcd a b ≤ b.natAbs := Int.gcd_le_natAbs_right _ (by omega)
    omega
  have gz : (Int.gcd a b : Int) ≠ 0 := by omega
  generalize hgg : (Int.gcd a b : Int) = g at *
  have da : a.fdiv g = a' := by rw [e1]; exact fdiv_gcd gz
  have db : b.fdiv g = b' := by rw [e2]; exact fdiv_gcd gz
  have dna : a.fdiv (-g) = -a' := by rw [e1, show g * a' = (-g) * (-a') by rw [Int.neg_mul_neg]]; exact fdiv_gcd (by omega)
  have dnb : b.fdiv (-g) = -b' := by rw [e2, show g * b' = (-g) * (-b') by rw [Int.neg_mul_neg]]; exact fdiv_gcd (by omega)
  have o1 : ∀ x, divOk x g = true := fun x => small_div gz sg (by decide) (by decide)
  have o2 : ∀ x, divOk x (-g) = true := fun x => small_div (by omega) (by rw [Int.natAbs_neg]; exact sg) (by decide) (by decide)
  have run : oE (m_share [.int a, .int b] ()) (fun d _ => d = if b < 0 then .tup [.int (-a'), .int (-b')] else .tup [.int a', .int b']) (fun _ _ _ => False) := by
    unfold m_share b_share
    simp [Nxt, hb, divisor_ok, hgg, da, db, dna, dnb, o1, o2]
    by_cases h : b < 0
    · right; exact ⟨h, fun z => absurd h (by omega)⟩
    · left; exact ⟨by omega, fun z => absurd z h⟩
  have bpos : b < 0 ↔ b' < 0 := by
    rw [e2]
    constructor
    · intro h
      apply Classical.byContradiction
      intro z
      have := Int.mul_nonneg (Int.le_of_lt e4) (show 0 ≤ b' by omega)
      omega
    · intro h
      have := Int.mul_neg_of_pos_of_neg e4 h
      omega
  have b0 : b' ≠ 0 := fun z => hb (by rw [e2, z, Int.mul_zero])
  have cross : a' * b = b' * a := by
    rw [e1, e2]
    rw [← Int.mul_assoc, ← Int.mul_assoc, Int.mul_comm a' g, Int.mul_comm b' g, Int.mul_assoc, Int.mul_assoc, Int.mul_comm a' b']
  have la : a'.natAbs ≤ a.natAbs := by rw [e1, Int.natAbs_mul]; exact Nat.le_mul_of_pos_left _ (by omega)
  have lb : b'.natAbs ≤ b.natAbs := by rw [e2, Int.natAbs_mul]; exact Nat.le_mul_of_pos_left _ (by omega)
  by_cases h : b < 0
  · refine ⟨-a', -b', oE_eq (oE_imp run (fun d t e => ⟨by rw [e, if_pos h], rfl⟩) fun _ _ _ z => z), by have := bpos.mp h; omega, by rw [Int.gcd_neg, Int.neg_gcd]; exact e3, by rw [Int.neg_mul, Int.neg_mul, cross], by rw [Int.natAbs_neg]; exact la, by rw [Int.natAbs_neg]; exact lb⟩
  · exact ⟨a', b', oE_eq (oE_imp run (fun d t e => ⟨by rw [e, if_neg h], rfl⟩) fun _ _ _ z => z), by
      have : ¬ b' < 0 := fun z => h (bpos.mpr z)
      omega, e3, cross, la, lb⟩

def gd : Nat → D → Bool
  | _, .non => true
  | _, .bl _ => true
  | _, .int _ => true
  | _, .str x => PyData.canLay0 (.str x)
  | n + 1, .tup ds => ds.all (gd n)
  | n + 1, .lst ds => ds.all (gd n)
  | _, _ => false
theorem gds_ok {n : Nat} (ih : ∀ d, gd n d = true → ∃ p, py d = some p ∧ p.canLay0 = true ∧ p.depth ≤ n) : ∀ ds : List D, ds.all (gd n) = true → ∃ ps, pys ds = some ps ∧ PyData.canLayAll0 ps = true ∧ PyData.depthAll ps ≤ n
  | [], _ => ⟨[], rfl, rfl, Nat.zero_le _⟩
  | d :: ds, h => by
    rw [List.all_cons, Bool.and_eq_true_iff] at h
    obtain ⟨p, h1, h2, h3⟩ := ih d h.1
    obtain ⟨ps, k1, k2, k3⟩ := gds_ok ih ds h.2
    exact ⟨p :: ps, by simp [pys, h1, k1], by simp [PyData.canLayAll0, h2, k2], by simp [PyData.depthAll]; omega⟩
theorem gd_ok : ∀ (n : Nat) (d : D), gd n d = true → ∃ p, py d = some p ∧ p.canLay0 = true ∧ p.depth ≤ n := by
  intro n
  induction n with
  | zero =>
    intro d h
    cases d <;> first
      | (cases h; done)
      | exact ⟨_, rfl, h, Nat.zero_le _⟩
      | exact ⟨_, rfl, rfl, Nat.zero_le _⟩
  | succ n ih =>
    intro d h
    cases d <;> first
      | (cases h; done)
      | exact ⟨_, rfl, h, Nat.zero_le _⟩
      | exact ⟨_, rfl, rfl, Nat.zero_le _⟩
      | skip
    all_goals
      obtain ⟨ps, k1, k2, k3⟩ := gds_ok ih _ h
      exact ⟨_, by simp only [py, k1]; rfl, by simpa [PyData.canLay0] using k2, by simp [PyData.depth]; omega⟩
theorem gd_shaped {n : Nat} {d : D} (h : gd n d = true) (hn : n ≤ 64) : ∃ p, py d = some p ∧ SeqAt.shaped p = true ∧ p.canLay0 = true := by
  obtain ⟨p, h1, h2, h3⟩ := gd_ok n d h
  exact ⟨p, h1, Bool.and_eq_true_iff.mpr ⟨h2, decide_eq_true (by omega)⟩, h2⟩
theorem eqD_self {n : Nat} {d : D} (h : gd n d = true) (hn : n ≤ 64) : eqD d d = some true := by
  obtain ⟨p, h1, h2, h3⟩ := gd_shaped h hn
  unfold eqD
  rw [h1]
  dsimp only
  rw [if_pos ⟨h2, h2⟩, SeqAt.eqv_refl p h3]
theorem dEq_self {n : Nat} {d : D} (h : gd n d = true) (hn : n ≤ 64 := by decide) : dEq d d = some (.bl true) := by unfold dEq; rw [eqD_self h hn]; rfl
theorem dNe_self {n : Nat} {d : D} (h : gd n d = true) (hn : n ≤ 64 := by decide) : dNe d d = some (.bl false) := by unfold dNe; rw [eqD_self h hn]; rfl
inductive Pw {α β : Type} (p : α → β → Prop) : List α → List β → Prop
  | nil : Pw p [] []
  | cons {x : α} {y : β} {xs : List α} {ys : List β} : p x y → Pw p xs ys → Pw p (x :: xs) (y :: ys)
theorem Pw.len {α β : Type} {p : α → β → Prop} : ∀ {xs : List α} {ys : List β}, Pw p xs ys → xs.length = ys.length
  | _, _, .nil => rfl
  | _, _, .cons _ t => congrArg (· + 1) t.len
theorem Pw.right {α β : Type} {p : α → β → Prop} : ∀ {xs : List α} {ys : List β}, Pw p xs ys → ∀ y ∈ ys, ∃ x ∈ xs, p x y
  | _, _, .cons h t, y, hy => by
    rcases List.mem_cons.mp hy with rfl | hy
    · exact ⟨_, List.mem_cons_self, h⟩
    · obtain ⟨x, hx, hp⟩ := t.right y hy
      exact ⟨x, List.mem_cons_of_mem _ hx, hp⟩
theorem Pw.mono {α β : Type} {p q : α → β → Prop} (h : ∀ x y, p x y → q x y) : ∀ {xs : List α} {ys : List β}, Pw p xs ys → Pw q xs ys
  | _, _, .nil => .nil
  | _, _, .cons a t => .cons (h _ _ a) (t.mono h)
structure Nm (n : Nat) (x : Str) : Prop where
  lt : ∀ c ∈ x.cps.toList, 97 ≤ c ∧ c ≤ 122
  le : x.length ≤ n
theorem str_len (x : Str) : x.length = x.cps.toList.length := by show x.cps.size = _; simp
theorem Nm.mono {n m : Nat} {x : Str} (h : Nm n x) (hm : n ≤ m) : Nm m x := ⟨h.lt, Nat.le_trans h.le hm⟩
theorem Nm.ok {n : Nat} {x : Str} (h : Nm n x) : PyData.canLay0 (.str x) = true := by
  show (x.cps.all fun c => decide (c < 1114112)) = true
  rw [← Array.all_toList, List.all_eq_true]
  intro c hc
  have := h.lt c hc
  exact decide_eq_true (by omega)
theorem Nm.cut {n : Nat} {x : Str} (h : Nm n x) (lo hi : Option Int) : Nm n (cutS x lo hi) := by
  have e : (cutS x lo hi).cps.toList = ((x.cps.toList.drop (HT.sIx x.length 0 lo)).take (HT.sIx x.length x.length hi - HT.sIx x.length 0 lo)) := by unfold cutS; simp
  refine ⟨fun c hc => ?_, ?_⟩
  · rw [e] at hc; exact h.lt c (List.mem_of_mem_drop (List.mem_of_mem_take hc))
  · have a := h.le
    rw [str_len] at *
    rw [e, List.length_take, List.length_drop]; omega
theorem Nm.nil : Nm 0 ⟨#[]⟩ := ⟨fun c hc => (nomatch hc), Nat.le_refl _⟩
theorem nm_join {n : Nat} : ∀ ys : List Str, (∀ y ∈ ys, Nm n y) → Nm (n * ys.length) (Txt.join "" ys) := fun ys h => by
  rw [TL.join_eq]
  have key : ∀ ys : List Str, (∀ y ∈ ys, Nm n y) → (∀ c ∈ TL.joinL [] (ys.map TL.tl), 97 ≤ c ∧ c ≤ 122) ∧ (TL.joinL [] (ys.map TL.tl)).length ≤ n * ys.length := by
    intro ys
    induction ys with
    | nil => intro _; exact ⟨fun c hc => (nomatch hc), Nat.le_refl _⟩
    | cons y r ih =>
      intro h
      have h1 := h y List.mem_cons_self
      have ih := ih fun z hz => h z (List.mem_cons_of_mem _ hz)
      have e : TL.joinL [] ((y :: r).map TL.tl) = TL.tl y ++ TL.joinL [] (r.map TL.tl) := by
        cases r with
        | nil => simp [TL.joinL]
        | cons z r => simp [TL.joinL]
      rw [e]
      refine ⟨fun c hc => ?_, ?_⟩
      · rcases List.mem_append.mp hc with q | q
        · exact h1.lt c q
        · exact ih.1 c q
      · rw [List.length_append, List.length_cons, Nat.mul_add, Nat.mul_one]
        have := h1.le
        rw [str_len] at this
        have : (TL.tl y).length ≤ n := this
        have := ih.2
        omega
  have e : (Str.join "" ys).cps.toList = TL.joinL [] (ys.map TL.tl) := TL.tl_join "" ys
  obtain ⟨k1, k2⟩ := key ys h
  exact ⟨fun c hc => k1 c (by rw [← e]; exact hc), by rw [str_len, e]; exact k2⟩
theorem letter_at {k : Int} (h0 : 0 ≤ k) (h1 : k < 26) : ∃ z, dIx (.str "abcdefghijklmnopqrstuvwxyz") (.int k) = some (.str z) ∧ Nm 1 z := by
  obtain ⟨j, rfl⟩ : ∃ j : Nat, k = (j : Int) := ⟨k.toNat, by omega⟩
  have all : ∀ c ∈ ("abcdefghijklmnopqrstuvwxyz" : Str).cps.toList, 97 ≤ c ∧ c ≤ 122 := by decide
  have hl : ("abcdefghijklmnopqrstuvwxyz" : Str).cps.toList.length = 26 := by decide
  have hj : j < ("abcdefghijklmnopqrstuvwxyz" : Str).cps.toList.length := by omega
  have e : atI ("abcdefghijklmnopqrstuvwxyz" : Str).cps.toList (j : Int) = some (("abcdefghijklmnopqrstuvwxyz" : Str).cps.toList[j]) := atI_nat (by rw [List.getElem?_eq_getElem hj])
  refine ⟨⟨#[("abcdefghijklmnopqrstuvwxyz" : Str).cps.toList[j]]⟩, ?_, fun c hc => ?_, Nat.le_refl _⟩
  · show (if lim2 ("abcdefghijklmnopqrstuvwxyz" : Str).length = true then (atI ("abcdefghijklmnopqrstuvwxyz" : Str).cps.toList (j : Int)).map fun c => D.str ⟨#[c]⟩ else none) = _
    rw [if_pos (by decide), e]; rfl
  · simp at hc
    rw [hc]
    exact all _ (List.getElem_mem hj)
theorem strsD_map : ∀ ys : List Str, strsD (ys.map D.str) = some ys
  | [] => rfl
  | y :: ys => by show (strsD (ys.map D.str)).map (y :: ·) = _; rw [strsD_map ys]; rfl
theorem join_ok {n : Nat} {ys : List Str} (h : ∀ y ∈ ys, Nm n y) (hl : n * ys.length ≤ 1000000) : dJoin "" (.lst (ys.map D.str)) = some (.str (Txt.join "" ys)) := by
  show (strsD (ys.map D.str)).bind _ = _
  rw [strsD_map, Option.bind_some, if_pos]
  refine decide_eq_true ?_
  have : ∀ ys : List Str, (∀ y ∈ ys, Nm n y) → (ys.map (·.length)).sum ≤ n * ys.length := fun ys => by
    induction ys with
    | nil => intro _; exact Nat.le_refl _
    | cons y r ih =>
      intro h
      have h1 := (h y List.mem_cons_self).le
      have ih := ih fun z hz => h z (List.mem_cons_of_mem _ hz)
      simp only [List.map_cons, List.sum_cons, List.length_cons, Nat.mul_add, Nat.mul_one]
      omega
  have := this ys h
  have e0 : ("" : Str).length = 0 := rfl
  rw [e0, Nat.mul_zero]; omega
theorem cell_ok (ns : List Int) (k : Nat) (hk : k ≤ 1000000000000) : ∃ c : Nat, m__law_cell [.scr ns, .int (k : Nat)] () = .ok (.int c) () := by
  by_cases h : ns.length = 0
  · refine ⟨7 * k + 3, oE_eq ?_⟩
    unfold m__law_cell b__law_cell
    simp [Nxt, h]
    exact small_mul (i := 7) (j := k) (a := 8) (b := 50) (by decide) (by omega) (by decide) (by decide) (by decide)
  · have hl : k % ns.length < ns.length := Nat.mod_lt _ (by omega)
    refine ⟨(ns[k % ns.length]).natAbs, oE_eq ?_⟩
    have e : atI ns ((k : Int) % (ns.length : Int)) = some ns[k % ns.length] := by rw [← Int.natCast_emod]; exact atI_nat (by rw [List.getElem?_eq_getElem hl])
    have h' : ((ns.length : Nat) : Int) ≠ 0 := by omega
    unfold m__law_cell b__law_cell
    simp [Nxt, h, h', fmod_nat, e]
theorem mixed_ok (ns : List Int) (k : Nat) (hk : k ≤ 1000000000000) (m : Int) (hm : manyOk m) : ∃ r : Int, m__law_mixed [.scr ns, .int (k : Nat), .int m] () = .ok (.int r) () ∧ 0 ≤ r ∧ r < m := by
  obtain ⟨c, hc⟩ := cell_ok ns k hk
  have c1 := fmod_pos (a := (c : Int)) (b := 1000003) (by decide)
  have key : oE (m__law_mixed [.scr ns, .int (k : Nat), .int m] ()) (fun d _ => ∃ r : Int, d = .int r ∧ 0 ≤ r ∧ r < m) (fun _ _ _ => False) := by
    unfold m__law_mixed b__law_mixed
    simp [Nxt, hc]
    generalize (c : Int).fmod 1000003 = x at c1 ⊢
    have m1 : (x + 5) * (k + 2) ≤ 1000008 * (k + 2) := Int.mul_le_mul_of_nonneg_right (by omega) (by omega)
    have m0 : 0 ≤ (x + 5) * (k + 2) := Int.mul_nonneg (by omega) (by omega)
    refine ⟨small_mul (i := x + 5) (j := k + 2) (a := 50) (b := 50) (by omega) (by omega) (by decide) (by decide) (by decide), small_mul (i := 7919) (j := k) (a := 50) (b := 50) (by decide) (by omega) (by decide) (by decide) (by decide), decide_eq_true ⟨by decide, by decide, ?_⟩, ?_, ?_, fmod_pos hm.1⟩
    · generalize (x + 5) * (k + 2) = y at m1 m0 ⊢
      omega
    · exact small_div (b := 4) (by decide) (by decide) (by decide) (by decide)
    · have := hm.1; omega
  obtain ⟨d, u, e, r, rfl, h⟩ := oE_ex' key
  exact ⟨r, e, h⟩
structure TkOk (ns : List Int) (t t' : Dk) : Prop where
  a : t'.a = t.a
  scr : t'.scr = .scr ns
  cnt : t'.cnt ≤ t.cnt + 1
theorem take_ok {ns : List Int} {t : Dk} (hs : t.scr = .scr ns) (hc : t.cnt < 1000000000000) {m : Int} (hm : manyOk m) : ∃ (r : Int) (t' : Dk), m__law_take [.at t.a, .int m] t = .ok (.int r) t' ∧ 0 ≤ r ∧ r < m ∧ TkOk ns t t' := by
  have key : oE (m__law_take [.at t.a, .int m] t) (fun d t' => ∃ r : Int, d = .int r ∧ 0 ≤ r ∧ r < m ∧ TkOk ns t t') (fun _ _ _ => False) := by
    unfold m__law_take b__law_take
    simp [Nxt, Nxt]
    refine oS_while (fun n ρ u => ∃ (z : Slot), ρ = [.val (.at t.a), .val (.int m), z] ∧ u.a = t.a ∧ u.scr = .scr ns ∧ u.cnt = t.cnt ∧ n = u.big.length - u.pos) ?_ _ _ _ ⟨_, rfl, rfl, hs, rfl, rfl⟩
    rintro n ρ u ⟨z, rfl, ha, hsc, hcn, rfl⟩
    simp [Nxt, ha, hsc, hcn]
    by_cases hp : u.pos < u.big.length
    · right
      refine ⟨hp, u.big[u.pos], List.getElem?_eq_getElem hp, ?_⟩
      by_cases hc0 : u.big[u.pos] ≤ 0
      · left; exact ⟨hc0, by omega, by omega⟩
      · right
        have f := fmod_pos (a := u.big[u.pos]) hm.1
        exact ⟨by omega, small_div (by have := hm.1; omega) hm.2 (by decide) (by decide), hp, by have := hm.1; omega, f.1, f.2, rfl, rfl, Nat.le_succ _⟩
    · left
      refine ⟨by omega, by omega, ?_⟩
      have e : max ((t.cnt : Int) + 1) 0 = ((t.cnt + 1 : Nat) : Int) := by omega
      obtain ⟨r, e2, h0, h1⟩ := mixed_ok ns (t.cnt + 1) (by omega) m hm
      rw [e, e2]
      exact ⟨r, rfl, h0, h1, rfl, rfl, Nat.le_refl _⟩
  obtain ⟨d, u, e, r, rfl, h⟩ := oE_ex' key
  exact ⟨r, u, e, h⟩
structure Gd (ns : List Int) (a : Addr) (n : Nat) (t : Dk) : Prop where
  scr : t.scr = .scr ns
  ad : t.a = a
  cnt : t.cnt ≤ n
theorem Gd.le {ns : List Int} {a : Addr} {n m : Nat} {t : Dk} (g : Gd ns a n t) (h : n ≤ m) : Gd ns a m t := ⟨g.scr, g.ad, Nat.le_trans g.cnt h⟩
theorem take_wp {ns : List Int} {a : Addr} {n : Nat} {t : Dk} {m : Int} {Q : D → Dk → Prop} {X : Str → Fds → Dk → Prop} (g : Gd ns a n t) (hc : n < 1000000000000) (hm : manyOk m) (h : ∀ (r : Int) (t' : Dk), 0 ≤ r → r < m → Gd ns a (n + 1) t' → Q (.int r) t') :
    oE (m__law_take [.at a, .int m] t) Q X := by
  obtain ⟨r, t', e, h0, h1, h2⟩ := take_ok g.scr (Nat.lt_of_le_of_lt g.cnt hc) hm
  rw [g.ad] at e
  rw [e]
  exact h r t' h0 h1 ⟨h2.scr, h2.a.trans g.ad, Nat.le_trans h2.cnt (Nat.succ_le_succ g.cnt)⟩
theorem deck_ok (ns : List Int) (hl : ns.length ≤ 63) : ∃ big, m__law_deck [.scr ns] = some (.scr ns, big) := by
  obtain ⟨ys, e, hy⟩ := compL_ok (g := gN 1) (tt := e1 asB (e2 dGe (e1 fAbs (aCons (eVarW 1) aNil)) (e2 dPow (eC (.int 10)) (eC (.int 18))))) (te := e1 fAbs (aCons (eVarW 1) aNil)) (ρ := [.val (.scr ns), .no]) (p := fun y => ∃ i, y = .int i) (ns.map .int) (fun d hd => by
    obtain ⟨i, _, rfl⟩ := List.mem_map.mp hd
    refine ⟨_, rfl, decide ((10 : Int) ^ 18 ≤ (i.natAbs : Int)), oE_eq ?_, fun _ => ⟨.int (i.natAbs : Int), oE_eq ?_, _, rfl⟩⟩
    · simp
      decide
    · simp)
  obtain ⟨big, eb⟩ := intsD_all ys hy
  have ec : eComp (e1 itD (eVar 0)) [1] (gN 1) (e1 asB (e2 dGe (e1 fAbs (aCons (eVarW 1) aNil)) (e2 dPow (eC (.int 10)) (eC (.int 18))))) (e1 fAbs (aCons (eVarW 1) aNil)) [.val (.scr ns), .no] () = .ok ys () := by
    show (if (ns.map D.int).length ≤ 16777216 ∧ noOwn [.val (.scr ns), .no] [1] = true then compL _ _ _ (wipeR [.val (.scr ns), .no] [1]) (ns.map D.int) () else .bad) = _
    rw [if_pos ⟨by rw [List.length_map]; omega, rfl⟩]
    exact e
  refine ⟨big, ?_⟩
  show (match aVar 0 [.val (.scr ns), .no], eComp (e1 itD (eVar 0)) [1] (gN 1) (e1 asB (e2 dGe (e1 fAbs (aCons (eVarW 1) aNil)) (e2 dPow (eC (.int 10)) (eC (.int 18))))) (e1 fAbs (aCons (eVarW 1) aNil)) [.val (.scr ns), .no] () with
    | some d, .ok ds _ => (intsD ds).map fun l => (d, l)
    | _, _ => none) = some (.scr ns, big)
  rw [ec]
  show (intsD ys).map _ = _
  rw [eb]
  rfl
theorem comp_wp {ns : List Int} {a : Addr} {g : Tgt} {te : ME Dk D} {ρ : Rho} {p : D → D → Prop} {k B : Nat} {Q : List D → Dk → Prop} {X : Str → Fds → Dk → Prop} : ∀ (ds : List D)
    (hg : ∀ d ∈ ds, ∀ n t, Gd ns a n t → n ≤ B → ∃ ρ1, g ρ d = some ρ1 ∧ oE (te ρ1 t) (fun y t' => p d y ∧ Gd ns a (n + k) t') (fun _ _ _ => False)) (n : Nat) (t : Dk), Gd ns a n t → n + k * ds.length ≤ B →
    (∀ ys t', Pw p ds ys → Gd ns a (n + k * ds.length) t' → Q ys t') → oE (compL g (fun _ t => .ok true t) te ρ ds t) Q X
  | [], hg, n, t, h, hB, hQ => hQ [] t .nil (by simpa using h)
  | d :: ds, hg, n, t, h, hB, hQ => by
    rw [List.length_cons, Nat.mul_add] at hB
    obtain ⟨ρ1, e1, e2⟩ := hg d List.mem_cons_self n t h (by omega)
    rw [oE_compCons]
    refine ⟨ρ1, e1, ?_⟩
    simp only [oE_ok, not_true_eq_false, false_implies, and_true, forall_const]
    refine oE_imp e2 (fun y t1 ⟨py, h1⟩ => ?_) fun _ _ _ z => z
    refine comp_wp ds (fun d hd => hg d (List.mem_cons_of_mem _ hd)) (n + k) t1 h1 (by omega) fun ys t' hys h' => hQ _ _ (.cons py hys) ?_
    rw [List.length_cons, Nat.mul_add]
    exact h'.le (by omega)
theorem name_wp {ns : List Int} {a : Addr} {n : Nat} {t : Dk} {z : Int} {Q : D → Dk → Prop} {X : Str → Fds → Dk → Prop} (g : Gd ns a n t) (hc : n < 100000000000) (h0 : 0 ≤ z) (h1 : z ≤ 100) (h : ∀ (x : Str) (t' : Dk), Nm z.toNat x → Gd ns a (n + z.toNat) t' → Q (.str x) t') :
    oE (m__law_name [.at a, .int z] t) Q X := by
  unfold m__law_name b__law_name
  simp
  unfold Nxt
  simp
  have hlen : (rngD 0 z.toNat).length = z.toNat := by simp [rngD]
  refine ⟨by omega, by rw [hlen]; omega, comp_wp (p := fun _ y => ∃ x, y = .str x ∧ Nm 1 x) (k := 1) (B := n + 200) _ (fun d hd m t1 g1 hm => ⟨_, rfl, ?_⟩) n t g (by omega) fun ys t' hys g' => ?_⟩
  · simp [wipeR]
    refine take_wp g1 (by omega) (many_of (by decide) (by decide)) fun r t2 r0 r1 g2 => ?_
    obtain ⟨x, e, hx⟩ := letter_at r0 r1
    exact ⟨_, e, ⟨x, rfl, hx⟩, g2⟩
  · have ex : ∀ (ds ys : List D), Pw (fun _ y => ∃ x, y = .str x ∧ Nm 1 x) ds ys → ∃ xs : List Str, ys = xs.map D.str ∧ (∀ x ∈ xs, Nm 1 x) ∧ xs.length = ds.length := by
      intro ds ys h
      induction h with
      | nil => exact ⟨[], rfl, fun x hx => (nomatch hx), rfl⟩
      | cons a _ ih =>
        obtain ⟨x, rfl, hx⟩ := a
        obtain ⟨xs, rfl, h1, h2⟩ := ih
        refine ⟨x :: xs, rfl, fun y hy => ?_, by simp [h2]⟩
        rcases List.mem_cons.mp hy with rfl | hy
        · exact hx
        · exact h1 y hy
    obtain ⟨xs, rfl, hx, hl⟩ := ex _ _ hys
    rw [hlen] at hl g'
    have hj := nm_join xs hx
    rw [hl, Nat.one_mul] at hj
    simp only [join_ok hx (by omega), Option.some.injEq, exists_eq_left']
    exact h _ _ hj (g'.le (by omega))
def pt (p : Int × Int) : D := .tup [.int p.1, .int p.2]
def pyP (p : Int × Int) : PyData := .tuple [.int p.1, .int p.2]
theorem pys_pts : ∀ ps : List (Int × Int), pys (ps.map pt) = some (ps.map pyP)
  | [] => rfl
  | p :: ps => by
    have e : py (pt p) = some (pyP p) := rfl
    simp [pys, e, pys_pts ps]
theorem sort_pts (ps : List (Int × Int)) : ∃ qs : List (Int × Int), fSortD [.lst (ps.map pt)] = some (qs.map pt) ∧ qs.Perm ps := by
  have e := pys_pts ps
  have c : SrtC (ps.map pyP) := by
    refine ⟨.inl ⟨fun d hd d' hd' => ?_, .inl fun d hd => ?_⟩, fun d hd => ?_⟩
    · obtain ⟨x, _, rfl⟩ := List.mem_map.mp hd
      obtain ⟨y, _, rfl⟩ := List.mem_map.mp hd'
      rfl
    · obtain ⟨x, _, rfl⟩ := List.mem_map.mp hd
      exact ⟨_, _, rfl⟩
    · obtain ⟨x, _, rfl⟩ := List.mem_map.mp hd
      show PyData.depth (.tuple [.int x.1, .int x.2]) ≤ 50
      simp [PyData.depth, PyData.depthAll]
  refine ⟨ps.mergeSort (PySem.W.dataLe false pyP), ?_, List.mergeSort_perm ..⟩
  show (pys (ps.map pt)).bind _ = _
  rw [e, Option.bind_some, if_pos c, sortV_of (le := PySem.W.dataLe false pyP) ps fun _ _ _ _ => rfl]
def lx (a b : Int × Int) : Prop := a.1 < b.1 ∨ (a.1 = b.1 ∧ a.2 < b.2)
def lf (a b c : Int × Int) : Int := (b.1 - a.1) * (c.2 - a.2) - (b.2 - a.2) * (c.1 - a.1)
theorem cr_trans {a1 a2 b1 b2 c1 c2 : Int} (ha : 0 < a1 ∨ (a1 = 0 ∧ 0 < a2)) (hb : 0 < b1 ∨ (b1 = 0 ∧ 0 < b2)) (hc : 0 < c1 ∨ (c1 = 0 ∧ 0 < c2)) (h1 : 0 ≤ a1 * b2 - a2 * b1) (h2 : 0 < b1 * c2 - b2 * c1) : 0 < a1 * c2 - a2 * c1 := by
  rcases hb with hb | ⟨rfl, hb⟩
  · have id : b1 * (a1 * c2 - a2 * c1) = a1 * (b1 * c2 - b2 * c1) + c1 * (a1 * b2 - a2 * b1) := by grind
    have hc0 : 0 ≤ c1 := by omega
    rcases ha with ha | ⟨rfl, ha⟩
    · have p1 := Int.mul_pos ha h2
      have p2 := Int.mul_nonneg hc0 h1
      have p3 : 0 < b1 * (a1 * c2 - a2 * c1) := by omega
      exact Int.pos_of_mul_pos_right p3 hb |> fun h => h
    · have := Int.mul_pos ha hb
      omega
  · rcases hc with hc | ⟨rfl, hc⟩
    · have := Int.mul_pos hb hc
      omega
    · omega
theorem bump {g : Nat → Int} {A B : Nat} (hA : 0 ≤ g A) (hB : 0 ≤ g B) (hs : ∀ k, A ≤ k → k + 1 < B → g (k + 1) - g k ≤ 0 → g (k + 2) - g (k + 1) < 0) (k : Nat) (h1 : A < k) (h2 : k < B) : 0 < g k := by
  apply Classical.byContradiction
  intro hk
  have s1 : ∃ j, A ≤ j ∧ j < k ∧ g (j + 1) - g j ≤ 0 := by
    apply Classical.byContradiction
    intro h
    have up : ∀ n, A + n ≤ k → g A + n ≤ g (A + n) := by
      intro n
      induction n with
      | zero => intro _; simp
      | succ n ih =>
        intro hn
        have := ih (by omega)
        have q : ¬ g (A + n + 1) - g (A + n) ≤ 0 := fun z => h ⟨A + n, by omega, by omega, z⟩
        show g A + ((n + 1 : Nat) : Int) ≤ g (A + n + 1)
        omega
    have := up (k - A) (by omega)
    rw [show A + (k - A) = k by omega] at this
    omega
  obtain ⟨j, j1, j2, j3⟩ := s1
  have dn : ∀ n, j + n + 1 < B → g (j + n + 2) - g (j + n + 1) < 0 := by
    intro n
    induction n with
    | zero => intro hn; exact hs j j1 hn j3
    | succ n ih =>
      intro hn
      have := ih (by omega)
      exact hs (j + n + 1) (by omega) hn (Int.le_of_lt this)
  have fin : ∀ n, k + n < B → g (k + n + 1) < g k := by
    intro n
    induction n with
    | zero =>
      intro hn
      have := dn (k - j - 1) (by omega)
      rw [show j + (k - j - 1) + 2 = k + 1 by omega, show j + (k - j - 1) + 1 = k by omega] at this
      show g (k + 1) < g k
      omega
    | succ n ih =>
      intro hn
      have h := ih (by omega)
      have := dn (k + n - j) (by omega)
      rw [show j + (k + n - j) + 2 = k + (n + 1) + 1 by omega, show j + (k + n - j) + 1 = k + n + 1 by omega] at this
      omega
  have := fin (B - k - 1) (by omega)
  rw [show k + (B - k - 1) + 1 = B by omega] at this
  omega
structure Cyc (q : Nat → Int × Int) (a m : Nat) : Prop where
  lo : ∀ j, j < a → lx (q j) (q (j + 1))
  hi : ∀ j, a ≤ j → j < m → lx (q (j + 1)) (q j)
  tlo : ∀ j, j + 1 < a → 0 < lf (q j) (q (j + 1)) (q (j + 2))
  thi : ∀ j, a ≤ j → j + 1 < m → 0 < lf (q j) (q (j + 1)) (q (j + 2))
  ends : q m = q 0
  am : a ≤ m
section
variable {q : Nat → Int × Int} {a m : Nat}
def dxq (q : Nat → Int × Int) (j : Nat) : Int := (q (j + 1)).1 - (q j).1
def dyq (q : Nat → Int × Int) (j : Nat) : Int := (q (j + 1)).2 - (q j).2
def crq (q : Nat → Int × Int) (i j : Nat) : Int := dxq q i * dyq q j - dyq q i * dxq q j
theorem crq_anti (i j : Nat) : crq q i j = - crq q j i := by unfold crq; grind
theorem lf_next (i k : Nat) : lf (q i) (q (i + 1)) (q (k + 1)) - lf (q i) (q (i + 1)) (q k) = crq q i k := by unfold lf crq dxq dyq; grind
theorem lf_at (i : Nat) : lf (q i) (q (i + 1)) (q i) = 0 := by unfold lf; grind
theorem lf_at1 (i : Nat) : lf (q i) (q (i + 1)) (q (i + 1)) = 0 := by unfold lf; grind
theorem crq_turn (j : Nat) : crq q j (j + 1) = lf (q j) (q (j + 1)) (q (j + 2)) := by
  have h := lf_next (q := q) j (j + 1)
  rw [lf_at1] at h
  rw [← h]; exact Int.sub_zero _
theorem lo_pos (h : lx (q i) (q (i + 1))) : 0 < dxq q i ∨ (dxq q i = 0 ∧ 0 < dyq q i) := by unfold dxq dyq; rcases h with h | ⟨h1, h2⟩ <;> omega
theorem hi_pos (h : lx (q (i + 1)) (q i)) : 0 < -dxq q i ∨ (-dxq q i = 0 ∧ 0 < -dyq q i) := by unfold dxq dyq; rcases h with h | ⟨h1, h2⟩ <;> omega
theorem Cyc.cross_lo (C : Cyc q a m) {i : Nat} : ∀ n, i + n + 1 < a → 0 < crq q i (i + n + 1) := by
  intro n
  induction n with
  | zero => intro h; rw [crq_turn]; exact C.tlo i h
  | succ n ih =>
    intro h
    have h1 := ih (by omega)
    have h2 := C.tlo (i + n + 1) (by omega)
    rw [← crq_turn] at h2
    exact cr_trans (lo_pos (C.lo i (by omega))) (lo_pos (C.lo (i + n + 1) (by omega))) (lo_pos (C.lo (i + n + 2) (by omega))) (Int.le_of_lt h1) h2
theorem Cyc.cross_hi (C : Cyc q a m) {i : Nat} (hi : a ≤ i) : ∀ n, i + n + 1 < m → 0 < crq q i (i + n + 1) := by
  intro n
  induction n with
  | zero => intro h; rw [crq_turn]; exact C.thi i hi h
  | succ n ih =>
    intro h
    have h1 := ih (by omega)
    have h2 := C.thi (i + n + 1) (by omega) (by omega)
    rw [← crq_turn] at h2
    have := cr_trans (hi_pos (C.hi i hi (by omega))) (hi_pos (C.hi (i + n + 1) (by omega) (by omega))) (hi_pos (C.hi (i + n + 2) (by omega) (by omega))) (by unfold crq at h1; grind) (by unfold crq at h2; grind)
    show 0 < crq q i (i + n + 2)
    unfold crq
    grind
theorem Cyc.up_same {i b : Nat} (hc : ∀ n, i + n + 1 < b → 0 < crq q i (i + n + 1)) : ∀ n, i + n + 2 ≤ b → 0 < lf (q i) (q (i + 1)) (q (i + n + 2)) := by
  intro n
  induction n with
  | zero =>
    intro h
    have := lf_next (q := q) i (i + 1)
    rw [lf_at1] at this
    have := hc 0 (by omega)
    show 0 < lf (q i) (q (i + 1)) (q (i + 1 + 1))
    simp only [Nat.add_zero] at *
    omega
  | succ n ih =>
    intro h
    have h1 := ih (by omega)
    have h2 := lf_next (q := q) i (i + n + 2)
    have h3 := hc (n + 1) (by omega)
    show 0 < lf (q i) (q (i + 1)) (q (i + n + 2 + 1))
    rw [show i + (n + 1) + 1 = i + n + 2 by omega] at h3
    omega
theorem Cyc.dn_same {i b : Nat} (hc : ∀ k, b ≤ k → k < i → 0 < crq q k i) : ∀ n, b + n + 1 ≤ i → 0 < lf (q i) (q (i + 1)) (q (i - n - 1)) := by
  intro n
  induction n with
  | zero =>
    intro h
    have h2 := lf_next (q := q) i (i - 1)
    rw [show i - 1 + 1 = i by omega, lf_at, crq_anti] at h2
    have := hc (i - 1) (by omega) (by omega)
    show 0 < lf (q i) (q (i + 1)) (q (i - 1))
    omega
  | succ n ih =>
    intro h
    have h1 := ih (by omega)
    have h2 := lf_next (q := q) i (i - (n + 1) - 1)
    rw [show i - (n + 1) - 1 + 1 = i - n - 1 by omega, crq_anti] at h2
    have := hc (i - (n + 1) - 1) (by omega) (by omega)
    omega
theorem Cyc.left (C : Cyc q a m) (i k : Nat) (hi : i < m) (hk : k < m) (h1 : k ≠ i) (h2 : k ≠ i + 1) (h3 : i + 1 = m → k ≠ 0) : 0 < lf (q i) (q (i + 1)) (q k) := by
  by_cases ha : i < a
  · have up : ∀ k, i + 1 < k → k ≤ a → 0 < lf (q i) (q (i + 1)) (q k) := fun k x y => by
      have := Cyc.up_same (q := q) (i := i) (b := a) C.cross_lo (k - i - 2) (by omega)
      rwa [show i + (k - i - 2) + 2 = k by omega] at this
    have dn : ∀ k, k < i → 0 < lf (q i) (q (i + 1)) (q k) := fun k x => by
      have := Cyc.dn_same (q := q) (i := i) (b := 0) (fun k _ y => by
        have := C.cross_lo (i := k) (i - k - 1) (by omega)
        rwa [show k + (i - k - 1) + 1 = i by omega] at this) (i - k - 1) (by omega)
      rwa [show i - (i - k - 1) - 1 = k by omega] at this
    by_cases hka : k ≤ a
    · rcases Nat.lt_or_gt_of_ne h1 with h | h
      · exact dn k h
      · exact up k (by omega) hka
    · refine bump (g := fun k => lf (q i) (q (i + 1)) (q k)) (A := a) (B := m) ?_ ?_ ?_ k (by omega) hk
      · by_cases e : a = i + 1
        · rw [e]; rw [lf_at1]; exact Int.le_refl _
        · exact Int.le_of_lt (up a (by omega) (Nat.le_refl _))
      · rw [C.ends]
        by_cases e : i = 0
        · rw [e, lf_at]; exact Int.le_refl _
        · exact Int.le_of_lt (dn 0 (by omega))
      · intro k x y z
        rw [lf_next] at z
        rw [show k + 2 = k + 1 + 1 from rfl, lf_next]
        have h2 := C.thi k x y
        rw [← crq_turn] at h2
        have := cr_trans (lo_pos (C.lo i ha)) (hi_pos (C.hi k x (by omega))) (hi_pos (C.hi (k + 1) (by omega) y)) (by unfold crq at z; grind) (by unfold crq at h2; grind)
        unfold crq
        grind
  · have up : ∀ k, i + 1 < k → k ≤ m → 0 < lf (q i) (q (i + 1)) (q k) := fun k x y => by
      have := Cyc.up_same (q := q) (i := i) (b := m) (C.cross_hi (by omega)) (k - i - 2) (by omega)
      rwa [show i + (k - i - 2) + 2 = k by omega] at this
    have dn : ∀ k, a ≤ k → k < i → 0 < lf (q i) (q (i + 1)) (q k) := fun k w x => by
      have := Cyc.dn_same (q := q) (i := i) (b := a) (fun k z y => by
        have := C.cross_hi (i := k) z (i - k - 1) (by omega)
        rwa [show k + (i - k - 1) + 1 = i by omega] at this) (i - k - 1) (by omega)
      rwa [show i - (i - k - 1) - 1 = k by omega] at this
    have zero : i + 1 ≠ m → 0 < lf (q i) (q (i + 1)) (q 0) := fun h => by
      rw [← C.ends]; exact up m (by omega) (Nat.le_refl _)
    by_cases hka : a ≤ k
    · rcases Nat.lt_or_gt_of_ne h1 with h | h
      · exact dn k hka h
      · exact up k (by omega) (by omega)
    · by_cases k0 : k = 0
      · rw [k0]; exact zero fun e => h3 e k0
      refine bump (g := fun k => lf (q i) (q (i + 1)) (q k)) (A := 0) (B := a) ?_ ?_ ?_ k (by omega) (by omega)
      · by_cases e : i + 1 = m
        · rw [← C.ends, ← e, lf_at1]; exact Int.le_refl _
        · exact Int.le_of_lt (zero e)
      · by_cases e : a = i
        · rw [e, lf_at]; exact Int.le_refl _
        · exact Int.le_of_lt (dn a (Nat.le_refl _) (by omega))
      · intro k x y z
        rw [lf_next] at z
        rw [show k + 2 = k + 1 + 1 from rfl, lf_next]
        have h2 := C.tlo k y
        rw [← crq_turn] at h2
        have := cr_trans (hi_pos (C.hi i (by omega) hi)) (lo_pos (C.lo k (by omega))) (lo_pos (C.lo (k + 1) y)) (by unfold crq at z; grind) (by unfold crq at h2; grind)
        unfold crq
        grind
end
theorem eqv_pt (x y : Int × Int) : PyData.eqv (pyP y) (pyP x) = decide (x = y) := by
  obtain ⟨a, b⟩ := x
  obtain ⟨c, d⟩ := y
  simp [pyP, PyData.eqv, PyData.eqvAll]
  rw [Bool.eq_iff_iff]
  simp
  constructor
  · rintro ⟨rfl, rfl⟩; exact ⟨rfl, rfl⟩
  · rintro ⟨rfl, rfl⟩; exact ⟨rfl, rfl⟩
theorem shaped_pts (l : List (Int × Int)) : SeqAt.shaped (.list (l.map pyP)) = true := by
  unfold SeqAt.shaped
  refine Bool.and_eq_true_iff.mpr ⟨?_, decide_eq_true ?_⟩
  · show PyData.canLayAll0 (l.map pyP) = true
    induction l with
    | nil => rfl
    | cons x l ih => simp [PyData.canLayAll0, ih, pyP, PyData.canLay0]
  · have : PyData.depthAll (l.map pyP) ≤ 2 := by
      induction l with
      | nil => simp [PyData.depthAll]
      | cons x l ih => simp [PyData.depthAll, pyP, PyData.depth] at ih ⊢; omega
    simp [PyData.depth]
    omega
def minP (p : Int × Int) (ps : List (Int × Int)) : Int × Int := ps.foldl (fun a y => if y.1 < a.1 ∨ (y.1 = a.1 ∧ y.2 < a.2) then y else a) p
theorem minD_pts (ps : List (Int × Int)) : ∀ p : Int × Int, PySem.W.minD (pyP p) (ps.map pyP) = pyP (minP p ps) := by
  induction ps with
  | nil => intro p; rfl
  | cons y ps ih =>
    intro p
    have e : (if PySem.W.dataLt (pyP y) (pyP p) then pyP y else pyP p) = pyP (if y.1 < p.1 ∨ (y.1 = p.1 ∧ y.2 < p.2) then y else p) := by
      rw [show PySem.W.dataLt (pyP y) (pyP p) = decide (y.1 < p.1 ∨ (y.1 = p.1 ∧ y.2 < p.2)) from PySem.W.dataLt_ii ..]
      by_cases h : y.1 < p.1 ∨ (y.1 = p.1 ∧ y.2 < p.2)
      · rw [if_pos h, if_pos (decide_eq_true h)]
      · rw [if_neg h, if_neg (by simpa using h)]
    show PySem.W.minD (if PySem.W.dataLt (pyP y) (pyP p) then pyP y else pyP p) (ps.map pyP) = _
    rw [e, ih]
    rfl
open Classical in
theorem min_pts (p : Int × Int) (ps : List (Int × Int)) : fMinD [.lst ((p :: ps).map pt)] = some (pt (minP p ps)) := by
  have e := pys_pts (p :: ps)
  have c : MinC (pyP p) (ps.map pyP) := by
    refine ⟨⟨fun x hx y hy => ?_, fun x hx => ?_⟩, ?_⟩
    · rw [← List.map_cons] at hx hy
      obtain ⟨a, _, rfl⟩ := List.mem_map.mp hx
      obtain ⟨b, _, rfl⟩ := List.mem_map.mp hy
      rfl
    · rw [← List.map_cons] at hx
      obtain ⟨a, _, rfl⟩ := List.mem_map.mp hx
      exact fun z => by cases z
    · have : ∀ l : List (Int × Int), PyData.depthAll (l.map pyP) ≤ 60 := fun l => by
        induction l with
        | nil => simp [PyData.depthAll]
        | cons x l ih => simp [PyData.depthAll, pyP, PyData.depth] at ih ⊢; omega
      exact this (p :: ps)
  show (pys ((p :: ps).map pt)).bind _ = _
  rw [e, Option.bind_some]
  show (if MinC (pyP p) (ps.map pyP) then some (qd (PySem.W.minD (pyP p) (ps.map pyP))) else none) = _
  rw [if_pos c, minD_pts]
  simp [qd, qds, pyP, pt]
theorem idx_pts {l : List (Int × Int)} {x : Int × Int} {j : Nat} (h : l[j]? = some x) (hno : ∀ m, m < j → l[m]? ≠ some x) : dIdx (l.map pt) (pt x) = some (.int (j : Nat)) := by
  have e1 : py (pt x) = some (pyP x) := rfl
  have sh : SeqAt.shaped (pyP x) = true := by simp [pyP, SeqAt.shaped, PyData.canLay0, PyData.canLayAll0, PyData.depth, PyData.depthAll]
  unfold dIdx
  rw [e1, pys_pts]
  dsimp only
  rw [if_pos ⟨shaped_pts l, sh⟩]
  have hj : j < l.length := by
    apply Classical.byContradiction
    intro z
    rw [List.getElem?_eq_none (by omega)] at h
    cases h
  have f : (l.map pyP).findIdx? (fun z => PyData.eqv z (pyP x)) = some j := by
    rw [List.findIdx?_eq_some_iff_getElem]
    refine ⟨by rw [List.length_map]; exact hj, ?_, fun m hm => ?_⟩
    · rw [List.getElem?_eq_getElem hj] at h
      rw [List.getElem_map, eqv_pt]
      simp [Option.some.inj h]
    · have hml : m < l.length := Nat.lt_trans hm hj
      have := hno m hm
      rw [List.getElem?_eq_getElem hml] at this
      rw [List.getElem_map, eqv_pt]
      simp
      exact fun z => this (by rw [z])
  rw [f]
  rfl
theorem number_wp {ns : List Int} {a : Addr} {n : Nat} {t : Dk} {z : Int} {Q : D → Dk → Prop} {X : Str → Fds → Dk → Prop} (g : Gd ns a n t) (hc : n < 100000000000) (h0 : 0 ≤ z) (h1 : z ≤ 1000000) (h : ∀ (r : Int) (t' : Dk), -z ≤ r → r ≤ z → Gd ns a (n + 2) t' → Q (.int r) t') :
    oE (m__law_number [.at a, .int z] t) Q X := by
  unfold m__law_number b__law_number
  have m2 : mulOk 2 z = true := small_mul (i := 2) (a := 8) (b := 40) (by decide) (by omega) (by decide) (by decide) (by decide)
  simp [m2]
  refine take_wp g (by omega) (many_of (by omega) (by omega)) fun r t1 r0 r1 g1 => ?_
  simp
  refine ⟨small_mul (i := 10007) (a := 20) (b := 40) (by decide) (by omega) (by decide) (by decide) (by decide), take_wp g1 (by omega) (many_of (by decide) (by decide)) fun s t2 s0 s1 g2 => ?_⟩
  have f := fmod_pos (a := 10007 * r + s) (b := 2 * z + 1) (by omega)
  simp
  exact ⟨by omega, h _ _ (by omega) (by omega) g2⟩
def Ptb (p : Int × Int) : Prop := p.1.natAbs < 2 ^ 21 ∧ p.2.natAbs < 2 ^ 21
theorem cut_last (ds : List D) : cutD ds none (some (-1)) = ds.dropLast := by
  unfold cutD
  have e0 : HT.sIx ds.length 0 none = 0 := rfl
  have e1 : HT.sIx ds.length ds.length (some (-1)) = ds.length - 1 := by
    unfold HT.sIx
    dsimp only
    rw [if_pos (by decide)]
    omega
  rw [e0, e1, List.drop_zero, Nat.sub_zero, List.dropLast_eq_take]
theorem left_ok {a b c : Int × Int} (ha : Ptb a) (hb : Ptb b) (hc : Ptb c) : m__law_left [pt a, pt b, pt c] () = .ok (.int ((b.1 - a.1) * (c.2 - a.2) - (b.2 - a.2) * (c.1 - a.1))) () := by
  have ix0 : ∀ p : Int × Int, dIx (pt p) (.int 0) = some (.int p.1) := fun _ => rfl
  have ix1 : ∀ p : Int × Int, dIx (pt p) (.int 1) = some (.int p.2) := fun _ => rfl
  have m : ∀ u v w z : Int, u.natAbs < 2 ^ 21 → v.natAbs < 2 ^ 21 → w.natAbs < 2 ^ 21 → z.natAbs < 2 ^ 21 → mulOk (u - v) (w - z) = true := fun u v w z h1 h2 h3 h4 => small_mul (a := 22) (b := 22) (by omega) (by omega) (by decide) (by decide) (by decide)
  apply oE_eq
  unfold m__law_left b__law_left
  simp [ix0, ix1, m _ _ _ _ hb.1 ha.1 hc.2 ha.2, m _ _ _ _ hb.2 ha.2 hc.1 ha.1]
theorem at_last2 {qs : List (Int × Int)} (h : 2 ≤ qs.length) : ∃ a ∈ qs, ∃ b ∈ qs, atI (qs.map pt) (-2) = some (pt a) ∧ atI (qs.map pt) (-1) = some (pt b) := by
  refine ⟨qs[qs.length - 2], List.getElem_mem _, qs[qs.length - 1], List.getElem_mem _, ?_, ?_⟩
  · unfold atI ixN
    rw [List.length_map, if_neg (by decide), if_pos (by omega)]
    show (qs.map pt)[((-2 : Int) + qs.length).toNat]? = _
    rw [show ((-2 : Int) + qs.length).toNat = qs.length - 2 by omega, List.getElem?_eq_getElem (by rw [List.length_map]; omega), List.getElem_map]
  · unfold atI ixN
    rw [List.length_map, if_neg (by decide), if_pos (by omega)]
    show (qs.map pt)[((-1 : Int) + qs.length).toNat]? = _
    rw [show ((-1 : Int) + qs.length).toNat = qs.length - 1 by omega, List.getElem?_eq_getElem (by rw [List.length_map]; omega), List.getElem_map]
def sc : D → Bool
  | .non => true
  | .bl _ => true
  | .int _ => true
  | _ => false
theorem sc_ty {d : D} (h : sc d = true) : (tyN d).isSome = true := by
  cases d <;> first
    | rfl
    | (cases h; done)
def okT (d : D) : Bool := (tyN d).isSome && (match itD d with
  | some xs => xs.length != 2 || xs.all sc
  | none => true)
theorem okT_ty {d : D} (h : okT d = true) : (tyN d).isSome = true := (Bool.and_eq_true_iff.mp h).1
theorem okT_sc {d : D} {x y : D} (h : okT d = true) (e : itD d = some [x, y]) : ∀ z ∈ [x, y], sc z = true := by
  have z := (Bool.and_eq_true_iff.mp h).2
  rw [e] at z
  have z : [x, y].all sc = true := z
  exact fun x hx => List.all_eq_true.mp z x hx
theorem okT_parts {d : D} {x y : D} (h : okT d = true) (e : itD d = some [x, y]) : ∀ z ∈ [x, y], (tyN z).isSome = true := fun x hx => sc_ty (okT_sc h e x hx)
theorem isi2_seq {d : D} (h : (tyN d).isSome = true) : isi2 d "list" "tuple" = some (itD d).isSome := by
  cases d <;> first
    | (cases h; done)
    | rfl
    | (unfold isi2 isi; rw [tyN_dct h]; rfl)
theorem itD_cases {d : D} {xs : List D} (h : (tyN d).isSome = true) (e : itD d = some xs) : d = .lst xs ∨ d = .tup xs := by
  cases d <;> first
    | (cases e; done)
    | (cases e; exact .inl rfl)
    | (cases e; exact .inr rfl)
    | (cases h; done)
def cN : D → Bool
  | .int i => decide (-1000000 ≤ i) && decide (i ≤ 1000000)
  | _ => false
def crn (d : D) : Bool := match itD d with
  | some [x, y] => cN x && cN y
  | _ => false
theorem fLen_seq {d : D} {xs : List D} (h : (tyN d).isSome = true) (e : itD d = some xs) : fLen [d] = some (.int xs.length) := by
  rcases itD_cases h e with z | z <;> rw [z] <;> rfl
theorem fTup_seq {d : D} {xs : List D} (h : (tyN d).isSome = true) (e : itD d = some xs) : fTup [d] = some (.tup xs) := by
  rcases itD_cases h e with z | z <;> rw [z] <;> rfl
theorem look_corner_ok {d : D} (h : okT d = true) (c : crn d = true) : ∃ xs, itD d = some xs ∧ m_look_corner [d] () = .ok (.tup xs) () := by
  have hi := isi2_seq (okT_ty h)
  cases e : itD d with
  | none => unfold crn at c; rw [e] at c; cases c
  | some xs =>
    unfold crn at c
    rw [e] at c hi
    match xs, e, c with
    | [x, y], e, c =>
      obtain ⟨cx, cy⟩ := Bool.and_eq_true_iff.mp c
      have wx := is_whole_ok (okT_parts h e x (by simp))
      have wy := is_whole_ok (okT_parts h e y (by simp))
      have ln := fLen_seq (okT_ty h) e
      have ft := fTup_seq (okT_ty h) e
      refine ⟨[x, y], rfl, ?_⟩
      cases x with
      | int i =>
        cases y with
        | int j =>
          obtain ⟨c1, c2⟩ := Bool.and_eq_true_iff.mp cx
          obtain ⟨c3, c4⟩ := Bool.and_eq_true_iff.mp cy
          have c1 := of_decide_eq_true c1
          have c2 := of_decide_eq_true c2
          have c3 := of_decide_eq_true c3
          have c4 := of_decide_eq_true c4
          apply oE_eq
          unfold m_look_corner b_look_corner
          simp [hi, ln]
          unfold Nxt
          simp [e, oS_loop_cons, wx, wy, isWh, oE_eChain]
          refine ⟨by omega, by omega, by omega, by omega, ?_⟩
          rw [oS_loop_nil]
          unfold Nxt
          simp [ft]
        | _ => cases cy
      | _ => cases cx
theorem look_corner_ex {d : D} (h : okT d = true) (c : crn d = false) : m_look_corner [d] () = .ex "BadShape" none () := by
  have hi := isi2_seq (okT_ty h)
  apply oE_eqx
  unfold m_look_corner b_look_corner
  cases e : itD d with
  | none => rw [e] at hi; simp [hi]
  | some xs =>
    rw [e] at hi
    have ln := fLen_seq (okT_ty h) e
    by_cases hl : xs.length = 2
    · match xs, e, hl with
      | [x, y], e, _ =>
        have wx := is_whole_ok (okT_parts h e x (by simp))
        have wy := is_whole_ok (okT_parts h e y (by simp))
        have c' : (cN x && cN y) = false := by unfold crn at c; rw [e] at c; exact c
        simp [hi, ln]
        unfold Nxt
        simp [e, oS_loop_cons, wx, wy, oE_eChain]
        cases x with
        | int i =>
          refine .inr ⟨rfl, ?_⟩
          by_cases h1 : -1000000 ≤ i
          · refine .inl ⟨by simp [h1], _, rfl, ?_⟩
            by_cases h2 : i ≤ 1000000
            · refine .inr ⟨by simp [h2], ?_⟩
              have cx : cN (.int i) = true := by unfold cN; simp [h1, h2]
              rw [cx, Bool.true_and] at c'
              cases y with
              | int j =>
                refine .inr ⟨rfl, ?_⟩
                by_cases h3 : -1000000 ≤ j
                · refine .inl ⟨by simp [h3], _, rfl, .inl ?_⟩
                  have h4 : ¬ j ≤ 1000000 := fun h4 => by
                    unfold cN at c'
                    simp [h3, h4] at c'
                  simp [h4]
                · exact .inr (by simp [h3])
              | _ => exact .inl rfl
            · exact .inl (by simp [h2])
          · exact .inr (by simp [h1])
        | _ => exact .inl rfl
    · have hl' : ((xs.length : Nat) : Int) ≠ 2 := by omega
      simp [hi, ln, hl']
theorem law_whole_any {d : D} (h : (tyN d).isSome = true) : m__law_whole [d] () = .ok (.bl (isWh d)) () := by
  obtain ⟨a, b, h1, h2, h3⟩ := isi_int h
  apply oE_eq
  unfold m__law_whole b__law_whole
  simp [Nxt, fIsi, h1, h2]
  cases a <;> cases b <;> simp_all
def fineB : D → Bool
  | .tup [.int a, .int b] => (decide (1 ≤ b) && decide (Int.gcd a b = 1)) && (decide ((a.natAbs : Int) < 10000000000000000000000000000000000000000000000000000000000000000000000000000000000000000000000000000000000000000000000000000000000000000000000000000000000000000000000000000000000000000000000000000000000000000000000000000000000000000000000000000000000000000000000000000000000000000000000000000000000000000000000000000000000000000000000000000000000000000000000000000000000000000000000000000000000000000) && decide (b < 10000000000000000000000000000000000000000000000000000000000000000000000000000000000000000000000000000000000000000000000000000000000000000000000000000000000000000000000000000000000000000000000000000000000000000000000000000000000000000000000000000000000000000000000000000000000000000000000000000000000000000000000000000000000000000000000000000000000000000000000000000000000000000000000000000000000000000))
  | _ => false
theorem sh_form {d : D} (h : sh d = true) : ∃ a b : Int, d = .tup [.int a, .int b] ∧ 1 ≤ b ∧ Int.gcd a b = 1 := by
  unfold sh at h
  split at h
  · rename_i a b
    obtain ⟨h1, h2⟩ := Bool.and_eq_true_iff.mp h
    exact ⟨a, b, rfl, of_decide_eq_true h1, of_decide_eq_true h2⟩
  · cases h
theorem fineB_sh {d : D} (h : sh d = false) : fineB d = false := by
  unfold fineB
  split
  · rename_i a b
    have h : (decide (1 ≤ b) && decide (Int.gcd a b = 1)) = false := h
    rw [h, Bool.false_and]
  · rfl
theorem is_fine_p {d : D} (h : plain1 d = true) : m_is_fine [d] () = .ok (.bl (fineB d)) () := by
  apply oE_eq
  unfold m_is_fine b_is_fine
  simp [is_share_p h]
  cases e : sh d with
  | false => simp [fineB_sh e]
  | true =>
    obtain ⟨a, b, rfl, h1, h2⟩ := sh_form e
    have e0 : atI [D.int a, D.int b] 0 = some (.int a) := rfl
    have e1 : atI [D.int a, D.int b] 1 = some (.int b) := rfl
    simp [e0, e1, fineB, h1, h2]
    by_cases q1 : (a.natAbs : Int) < 10000000000000000000000000000000000000000000000000000000000000000000000000000000000000000000000000000000000000000000000000000000000000000000000000000000000000000000000000000000000000000000000000000000000000000000000000000000000000000000000000000000000000000000000000000000000000000000000000000000000000000000000000000000000000000000000000000000000000000000000000000000000000000000000000000000000000000 <;> by_cases q2 : b < 10000000000000000000000000000000000000000000000000000000000000000000000000000000000000000000000000000000000000000000000000000000000000000000000000000000000000000000000000000000000000000000000000000000000000000000000000000000000000000000000000000000000000000000000000000000000000000000000000000000000000000000000000000000000000000000000000000000000000000000000000000000000000000000000000000000000000000
    · exact .inr ⟨q1, fun _ => q1⟩
    · exact .inr ⟨q1, fun z => absurd z q2⟩
    · exact .inl ⟨by omega, fun z => absurd z q1⟩
    · exact .inl ⟨by omega, fun z => absurd z q1⟩
def fineS : D → Bool
  | .tup [x, y] => fineB x && fineB y
  | _ => false
def plain2 : D → Bool
  | .tup [x, y] => plain1 x && plain1 y
  | d => (tyN d).isSome
theorem plain2_ty {d : D} (h : plain2 d = true) : (tyN d).isSome = true := by
  unfold plain2 at h
  split at h
  · rfl
  · exact h
def sp9 : D → Bool
  | .tup [x, y] => sh x && sh y
  | _ => false
theorem is_spot9 {d : D} (h : plain2 d = true) : m_is_spot [d] () = .ok (.bl (sp9 d)) () := by
  have ty := plain2_ty h
  by_cases q : ∃ xs, d = .tup xs
  · obtain ⟨xs, rfl⟩ := q
    by_cases hl : xs.length = 2
    · match xs, hl with
      | [x, y], _ =>
        obtain ⟨hx, hy⟩ := Bool.and_eq_true_iff.mp h
        apply oE_eq
        unfold m_is_spot b_is_spot
        simp [fIsi, isi_tupT, oE_compCons, oE_compNil, wipeR, noOwn, is_share_p hx, is_share_p hy, sp9, blsD]
    · have hl' : ((xs.length : Nat) : Int) ≠ 2 := by omega
      have es : sp9 (.tup xs) = false := by
        match xs, hl with
        | [], _ => rfl
        | [x], _ => rfl
        | [x, y], h => exact absurd rfl h
        | x :: y :: z :: r, _ => rfl
      apply oE_eq
      unfold m_is_spot b_is_spot
      simp [fIsi, isi_tupT, hl', es]
  · have es : sp9 d = false := by
      cases d <;> first
        | rfl
        | exact absurd ⟨_, rfl⟩ q
    have e := isi_tup ty fun xs z => q ⟨xs, z⟩
    apply oE_eq
    unfold m_is_spot b_is_spot
    simp [fIsi, e, es]
theorem fine_spot9 {d : D} (h : plain2 d = true) : m_is_fine_spot [d] () = .ok (.bl (fineS d)) () := by
  apply oE_eq
  unfold m_is_fine_spot b_is_fine_spot
  simp [is_spot9 h]
  cases e : sp9 d with
  | false =>
    have es : fineS d = false := by
      unfold fineS
      split
      · rename_i x y
        have e : (sh x && sh y) = false := e
        cases ex : sh x with
        | false => rw [fineB_sh ex]; rfl
        | true =>
          rw [ex, Bool.true_and] at e
          rw [fineB_sh e, Bool.and_false]
      · rfl
    simp [es]
  | true =>
    unfold sp9 at e
    split at e
    · rename_i x y
      obtain ⟨hx, hy⟩ := Bool.and_eq_true_iff.mp h
      simp [oE_compCons, oE_compNil, wipeR, noOwn, is_fine_p hx, is_fine_p hy, fineS, blsD]
    · cases e
def inL (c : Nat) : Bool := !(Builtin.Str.occurrences "abcdefghijklmnopqrstuvwxyz" ⟨#[c]⟩ 0 (Str.length "abcdefghijklmnopqrstuvwxyz") 1).isEmpty
def nameB : D → Bool
  | .str z => (decide (1 ≤ z.length) && decide (z.length ≤ 12)) && z.cps.toList.all inL
  | _ => false
theorem isi_str {d : D} (h : (tyN d).isSome = true) (hn : ∀ z, d ≠ .str z) : isi d "str" = some false := by
  cases d <;> first
    | (cases h; done)
    | rfl
    | (unfold isi; rw [tyN_dct h]; rfl)
    | exact absurd rfl (hn _)
theorem fLen_s9 {z : Str} (h : z.length ≤ 16777216) : fLen [.str z] = some (.int (z.length : Nat)) := by
  have e : lim2 z.length = true := by
    unfold lim2
    exact decide_eq_true h
  show (if lim2 z.length = true then some (D.int (z.length : Nat)) else none) = _
  rw [if_pos e]
theorem is_name9 {d : D} (h : (tyN d).isSome = true) (hz : ∀ z, d = .str z → z.length ≤ 16777216) : m_is_name [d] () = .ok (.bl (nameB d)) () := by
  by_cases q : ∃ z, d = .str z
  · obtain ⟨z, rfl⟩ := q
    have e1 : isi (.str z) "str" = some true := rfl
    have e2 := fLen_s9 (hz z rfl)
    have e3 : itS (.str z) = some (z.cps.toList.map sgnD) := rfl
    apply oE_eq
    unfold m_is_name b_is_name
    simp [Nxt, fIsi, e1, e2, e3, oE_eChain]
    by_cases h1 : (1 : Int) ≤ (z.length : Nat)
    · refine .inl ⟨h1, ?_⟩
      by_cases h2 : ((z.length : Nat) : Int) ≤ 12
      · have sz : z.cps.size ≤ 16777216 := hz z rfl
        refine .inr ⟨h2, sz, ?_⟩
        refine comp_map (α := Nat) (enc := sgnD) (f := fun c => .bl (inL c)) (fun c _ => ⟨_, rfl, ?_⟩) ?_
        · simp [sgnD, dInS, inL]
        · have hb : ∀ cs : List Nat, blsD (cs.map fun c => D.bl (inL c)) = some (cs.map inL) := fun cs => by
            induction cs with
            | nil => rfl
            | cons c cs ih =>
              show (blsD (cs.map fun c => D.bl (inL c))).map (inL c :: ·) = _
              rw [ih]
              rfl
          refine ⟨_, hb _, ?_⟩
          have g1 : 1 ≤ z.length := by omega
          have g2 : z.length ≤ 12 := by omega
          simp [nameB, g1, g2]
      · exact .inl ⟨by omega, by
          have g2 : ¬ z.length ≤ 12 := by omega
          simp [nameB, g2]⟩
    · have g1 : ¬ 1 ≤ z.length := by omega
      exact .inr ⟨by omega, by simp [nameB, g1]⟩
  · have es : nameB d = false := by
      cases d <;> first
        | rfl
        | exact absurd ⟨_, rfl⟩ q
    have e := isi_str h fun z hz => q ⟨z, hz⟩
    apply oE_eq
    unfold m_is_name b_is_name
    simp [Nxt, fIsi, e, es]
def cpt (d : D) : Int × Int := match itD d with
  | some [.int x, .int y] => (x, y)
  | _ => (0, 0)
theorem crn_form {d : D} (h : (tyN d).isSome = true) (c : crn d = true) : ∃ x y : Int, itD d = some [.int x, .int y] ∧ cpt d = (x, y) ∧ x.natAbs ≤ 1000000 ∧ y.natAbs ≤ 1000000 ∧ (d = .lst [.int x, .int y] ∨ d = .tup [.int x, .int y]) := by
  unfold crn at c
  split at c
  · rename_i x y e
    obtain ⟨cx, cy⟩ := Bool.and_eq_true_iff.mp c
    cases x with
    | int i =>
      cases y with
      | int j =>
        obtain ⟨c1, c2⟩ := Bool.and_eq_true_iff.mp cx
        obtain ⟨c3, c4⟩ := Bool.and_eq_true_iff.mp cy
        have c1 := of_decide_eq_true c1
        have c2 := of_decide_eq_true c2
        have c3 := of_decide_eq_true c3
        have c4 := of_decide_eq_true c4
        exact ⟨i, j, e, by unfold cpt; rw [e], by omega, by omega, itD_cases h e⟩
      | _ => cases cy
    | _ => cases cx
  · cases c
def okC (d : D) : Bool := (tyN d).isSome && (match itD d with
  | some xs => xs.all okT
  | none => true)
theorem okC_ty {d : D} (h : okC d = true) : (tyN d).isSome = true := (Bool.and_eq_true_iff.mp h).1
theorem okC_parts {d : D} {xs : List D} (h : okC d = true) (e : itD d = some xs) : ∀ x ∈ xs, okT x = true := by
  have z := (Bool.and_eq_true_iff.mp h).2
  rw [e] at z
  exact fun x hx => List.all_eq_true.mp z x hx
def lfAt (ps : List (Int × Int)) (k j : Nat) : Bool := decide (j = k) || (decide (j = (k + 1) % ps.length) || decide (0 < lf (ps.getD k (0, 0)) (ps.getD ((k + 1) % ps.length) (0, 0)) (ps.getD j (0, 0))))
def sqv (ps : List (Int × Int)) : Bool := (List.range ps.length).all fun k => (List.range ps.length).all fun j => lfAt ps k j
def shpB (d : D) : Bool := match itD d with
  | some xs => (decide (3 ≤ xs.length) && decide (xs.length ≤ 8)) && (xs.all crn && sqv (xs.map cpt))
  | none => false
def mnP : List (Int × Int) → Int × Int
  | [] => (0, 0)
  | p :: ps => minP p ps
def mi (ps : List (Int × Int)) : Nat := ps.findIdx fun q => decide (q = mnP ps)
def rotP (ps : List (Int × Int)) : List (Int × Int) := ps.drop (mi ps) ++ ps.take (mi ps)
theorem minP_mem9 (ps : List (Int × Int)) : ∀ p, minP p ps ∈ p :: ps := by
  induction ps with
  | nil => intro p; simp [minP]
  | cons y ps ih =>
    intro p
    show minP (if y.1 < p.1 ∨ (y.1 = p.1 ∧ y.2 < p.2) then y else p) ps ∈ _
    rcases List.mem_cons.mp (ih (if y.1 < p.1 ∨ (y.1 = p.1 ∧ y.2 < p.2) then y else p)) with h | h
    · rw [h]
      split <;> simp
    · exact List.mem_cons_of_mem _ (List.mem_cons_of_mem _ h)
theorem mnP_mem {ps : List (Int × Int)} (h : 0 < ps.length) : mnP ps ∈ ps := by
  cases ps with
  | nil => simp at h
  | cons p ps => exact minP_mem9 ps p
theorem mi_lt {ps : List (Int × Int)} (h : 0 < ps.length) : mi ps < ps.length := List.findIdx_lt_length_of_exists ⟨_, mnP_mem h, by simp⟩
theorem mi_at {ps : List (Int × Int)} (h : 0 < ps.length) : ps[mi ps]? = some (mnP ps) := by
  have hl := mi_lt h
  rw [List.getElem?_eq_getElem hl]
  have := List.findIdx_getElem (w := hl) (p := fun q => decide (q = mnP ps))
  exact congrArg some (of_decide_eq_true this)
theorem mi_no {ps : List (Int × Int)} {m : Nat} (h : m < mi ps) : ps[m]? ≠ some (mnP ps) := by
  have hl : m < ps.length := Nat.lt_of_lt_of_le h List.findIdx_le_length
  rw [List.getElem?_eq_getElem hl]
  have := List.not_of_lt_findIdx h
  intro z
  simp at this z
  exact this z
theorem mn_idx {ps : List (Int × Int)} (h : 0 < ps.length) : fMinD [.lst (ps.map pt)] = some (pt (mnP ps)) ∧ dIdx (ps.map pt) (pt (mnP ps)) = some (.int (mi ps : Nat)) := by
  refine ⟨?_, idx_pts (mi_at h) fun m hm => mi_no hm⟩
  cases ps with
  | nil => simp at h
  | cons p ps => exact min_pts p ps
theorem cut9_lo {α : List D} {j : Nat} (h : j ≤ α.length) : cutD α (some (j : Nat)) none = α.drop j := by
  unfold cutD
  rw [HT.sIx_nat, HT.sIx_none, Nat.min_eq_left h]
  rw [List.take_of_length_le]
  rw [List.length_drop]; omega
theorem cut9_hi {α : List D} {j : Nat} (h : j ≤ α.length) : cutD α none (some (j : Nat)) = α.take j := by
  unfold cutD
  rw [HT.sIx_nat, HT.sIx_none, Nat.min_eq_left h, List.drop_zero, Nat.sub_zero]
theorem bls_all9 {α : Type} (xs : List α) (p : α → Bool) : blsD (xs.map fun x => .bl (p x)) = some (xs.map p) := by
  induction xs with
  | nil => rfl
  | cons x xs ih => show (blsD (xs.map fun x => .bl (p x))).map (p x :: ·) = _; rw [ih]; rfl
def Pb9 (p : Int × Int) : Prop := p.1.natAbs ≤ 1000000 ∧ p.2.natAbs ≤ 1000000
theorem mul9 {a b c d : Int} (h1 : a.natAbs ≤ 1000000) (h2 : b.natAbs ≤ 1000000) (h3 : c.natAbs ≤ 1000000) (h4 : d.natAbs ≤ 1000000) : mulOk (a - b) (c - d) = true := small_mul (a := 22) (b := 22) (by omega) (by omega) (by decide) (by decide) (by decide)
theorem is_left9 {a b c : Int × Int} (ha : Pb9 a) (hb : Pb9 b) (hc : Pb9 c) : m_is_left [pt a, pt b, pt c] () = .ok (.bl (decide (0 < lf a b c))) () := by
  apply oE_eq
  unfold m_is_left b_is_left
  simp [pt]
  unfold Nxt
  simp
  refine ⟨mul9 hb.1 ha.1 hc.2 ha.2, mul9 hb.2 ha.2 hc.1 ha.1, ?_⟩
  unfold lf
  omega
theorem ix9 {d : D} {x y : Int} (h : d = .lst [.int x, .int y] ∨ d = .tup [.int x, .int y]) : dIx d (.int 0) = some (.int x) ∧ dIx d (.int 1) = some (.int y) := by
  rcases h with rfl | rfl <;> exact ⟨rfl, rfl⟩
theorem law_left9 {a b c : D} (ta : okT a = true) (tb : okT b = true) (tc : okT c = true) (ca : crn a = true) (cb : crn b = true) (cc : crn c = true) : m__law_left [a, b, c] () = .ok (.int (lf (cpt a) (cpt b) (cpt c))) () := by
  obtain ⟨ax, ay, _, ea, ha1, ha2, ha⟩ := crn_form (okT_ty ta) ca
  obtain ⟨bx, bY, _, eb, hb1, hb2, hb⟩ := crn_form (okT_ty tb) cb
  obtain ⟨cx, cy, _, ec, hc1, hc2, hc⟩ := crn_form (okT_ty tc) cc
  obtain ⟨a0, a1⟩ := ix9 ha
  obtain ⟨b0, b1⟩ := ix9 hb
  obtain ⟨c0, c1⟩ := ix9 hc
  rw [ea, eb, ec]
  apply oE_eq
  unfold m__law_left b__law_left
  simp [a0, a1, b0, b1, c0, c1]
  exact ⟨mul9 hb1 ha1 hc2 ha2, mul9 hb2 ha2 hc1 ha1, rfl⟩
theorem look_all {ρ : Rho} (hρ : 8 < ρ.length) {X : Str → Fds → Unit → Prop} : ∀ {xs : List D} {Q : List D → Unit → Prop}, (∀ x ∈ xs, okT x = true) → (xs.all crn = true → Q ((xs.map cpt).map pt) ()) → (xs.all crn = false → X "BadShape" none ()) →
    oE (compLX (gN 8) (fun _ t => .ok true t) (eCall m_look_corner [] (aCons (eVar 8) aNil)) ρ xs ()) Q X
  | [], _, _, h, _ => h rfl
  | x :: xs, Q, hx, h1, h2 => by
    have tx := hx x List.mem_cons_self
    have ev : (ρ.set 8 (Slot.val x))[8]? = some (.val x) := List.getElem?_set_self hρ
    rw [compLX_cons (ρ1 := ρ.set 8 (.val x)) rfl rfl]
    simp only [oE_call, oE_cons, oE_var, oE_nil, ev, List.append_nil]
    by_cases c : crn x = true
    · obtain ⟨a, b, e, ec, _, _, _⟩ := crn_form (okT_ty tx) c
      obtain ⟨ys, ey, el⟩ := look_corner_ok tx c
      rw [e] at ey
      cases ey
      rw [el]
      simp only [oE_ok]
      refine look_all hρ (Q := fun ys t => Q (.tup [.int a, .int b] :: ys) t) (fun z hz => hx z (List.mem_cons_of_mem _ hz)) (fun h => ?_) fun h => h2 ?_
      · have := h1 (by rw [List.all_cons, c, h]; rfl)
        rw [List.map_cons, List.map_cons, ec] at this
        exact this
      · rw [List.all_cons, h, Bool.and_false]
    · have c : crn x = false := by cases e : crn x with | true => exact absurd e c | false => rfl
      rw [look_corner_ex tx c]
      exact h2 (by rw [List.all_cons, c]; rfl)
theorem enum_pts (ps : List (Int × Int)) : enumD (ps.map pt) = (ps.zipIdx).map fun e => .tup [.int (e.2 : Nat), pt e.1] := by
  unfold enumD
  apply List.ext_getElem?
  intro i
  rw [List.getElem?_mapIdx, List.getElem?_map, List.getElem?_map, List.getElem?_zipIdx]
  cases ps[i]? <;> simp
theorem getD9 {ps : List (Int × Int)} {k : Nat} {p : Int × Int} (h : ps[k]? = some p) : ps.getD k (0, 0) = p := by rw [List.getD_eq_getElem?_getD, h]; rfl
theorem all_lf (ps : List (Int × Int)) (k : Nat) : ((ps.zipIdx.filter fun e => !decide (e.2 = k) && !decide (e.2 = (k + 1) % ps.length)).map fun e => decide (0 < lf (ps.getD k (0, 0)) (ps.getD ((k + 1) % ps.length) (0, 0)) e.1)).all id = (List.range ps.length).all fun j => lfAt ps k j := by
  rw [Bool.eq_iff_iff, List.all_eq_true, List.all_eq_true]
  constructor
  · intro h j hj
    have hj := List.mem_range.mp hj
    unfold lfAt
    by_cases q1 : j = k
    · simp [q1]
    by_cases q2 : j = (k + 1) % ps.length
    · simp [q2]
    have := h (decide (0 < lf (ps.getD k (0, 0)) (ps.getD ((k + 1) % ps.length) (0, 0)) ps[j])) (List.mem_map.mpr ⟨(ps[j], j), List.mem_filter.mpr ⟨by
      rw [List.mem_zipIdx_iff_getElem?, List.getElem?_eq_getElem hj], by simp [q1, q2]⟩, rfl⟩)
    rw [getD9 (k := j) (List.getElem?_eq_getElem hj)]
    simp at this
    simp [q1, q2, this]
  · intro h b hb
    obtain ⟨e, he, rfl⟩ := List.mem_map.mp hb
    obtain ⟨h1, h2⟩ := List.mem_filter.mp he
    rw [List.mem_zipIdx_iff_getElem?] at h1
    have hl : e.2 < ps.length := by
      apply Classical.byContradiction
      intro z
      rw [List.getElem?_eq_none (by omega)] at h1
      cases h1
    have := h e.2 (List.mem_range.mpr hl)
    unfold lfAt at this
    rw [getD9 h1] at this
    simp at h2
    simp [h2.1, h2.2] at this
    simp [this]
theorem look_shape9 {d : D} (h : okC d = true) {Q : D → Unit → Prop} {X : Str → Fds → Unit → Prop} (h1 : shpB d = true → ∀ xs, itD d = some xs → Q (.tup ((rotP (xs.map cpt)).map pt)) ()) (h2 : shpB d = false → X "BadShape" none ()) : oE (m_look_shape [d] ()) Q X := by
  have ty := okC_ty h
  have hi := isi2_seq ty
  unfold m_look_shape b_look_shape
  cases e : itD d with
  | none =>
    rw [e] at hi
    have es : shpB d = false := by unfold shpB; rw [e]
    simp [hi]
    exact h2 es
  | some xs =>
    rw [e] at hi
    have hx := okC_parts h e
    have ln := fLen_seq ty e
    have es : shpB d = ((decide (3 ≤ xs.length) && decide (xs.length ≤ 8)) && (xs.all crn && sqv (xs.map cpt))) := by unfold shpB; rw [e]
    by_cases hl : 3 ≤ xs.length ∧ xs.length ≤ 8
    · have g1 : (3 : Int) ≤ (xs.length : Nat) := by omega
      have g2 : ((xs.length : Nat) : Int) ≤ 8 := by omega
      simp only [decide_eq_true hl.1, decide_eq_true hl.2, Bool.true_and] at es
      simp [hi, ln, oE_eChain, g1, g2]
      unfold Nxt
      simp [e]
      refine ⟨by omega, look_all (by simp [wipeR]) hx (fun ha => ?_) fun ha => h2 (by rw [es, ha, Bool.false_and])⟩
      rw [ha, Bool.true_and] at es
      have hP : ∀ p ∈ xs.map cpt, Pb9 p := fun p hp => by
        obtain ⟨x, hx', rfl⟩ := List.mem_map.mp hp
        obtain ⟨a, b, _, ec, q1, q2, _⟩ := crn_form (okT_ty (hx x hx')) (List.all_eq_true.mp ha x hx')
        rw [ec]
        exact ⟨q1, q2⟩
      have h1 := fun q => h1 q xs e
      have hn : (xs.map cpt).length = xs.length := List.length_map ..
      generalize xs.map cpt = ps at es hP h1 hn ⊢
      have hl : 3 ≤ ps.length ∧ ps.length ≤ 8 := by omega
      clear hx ln e hi hn g1 g2 ha
      unfold Nxt
      simp
      unfold Nxt
      simp [enum_pts]
      obtain ⟨I, hI⟩ : ∃ I : List ((Int × Int) × Nat) → List ((Int × Int) × Nat) → Rho → Unit → Prop, I = fun dn _ ρ _ => (∃ s3 s4 s5 s6, ρ = [.val d, .val (.lst (ps.map pt)), .val (.int (ps.length : Nat)), s3, s4, s5, s6, .no, .no, .no, .no]) ∧ ∀ k, k < dn.length → ((List.range ps.length).all fun j => lfAt ps k j) = true := ⟨_, rfl⟩
      refine oS_loopE I ps.zipIdx (by rw [hI]; exact ⟨⟨_, _, _, _, rfl⟩, fun k hk => absurd hk (Nat.not_lt_zero _)⟩) ?_ ?_
      · intro dn e td ρ t eq hh
        rw [hI] at hh
        obtain ⟨⟨s3, s4, s5, s6, rfl⟩, hd⟩ := hh
        have hdl : dn.length < ps.length := by
          have := congrArg List.length eq
          simp at this
          omega
        have ee : e = (ps[dn.length], dn.length) := by
          have h1 : ps.zipIdx[dn.length]? = some e := by rw [eq]; simp
          rw [List.getElem?_zipIdx, List.getElem?_eq_getElem hdl] at h1
          simp at h1
          exact h1.symm
        subst ee
        generalize hkd : dn.length = k at hdl hd ⊢
        have eb : (k + 1) % ps.length < ps.length := Nat.mod_lt _ (by omega)
        have em : ((k : Int) + 1).fmod (ps.length : Nat) = (((k + 1) % ps.length : Nat) : Int) := by
          rw [show ((k : Int) + 1) = ((k + 1 : Nat) : Int) by omega, fmod_nat]
        have nz : ((ps.length : Nat) : Int) ≠ 0 := by omega
        refine ⟨_, rfl, ?_⟩
        have em2 : ((k : Int) + 1) % (ps.length : Nat) = (((k + 1) % ps.length : Nat) : Int) := by rw [Int.natCast_emod, Int.natCast_add]; rfl
        simp [enum_pts, nz]
        have ne : ¬ ps = [] := fun z => by rw [z] at hdl; exact absurd hdl (Nat.not_lt_zero _)
        refine ⟨ne, ?_⟩
        have lfe := all_lf ps k
        first | rw [em] | rw [em2]
        clear em em2
        generalize hb : (k + 1) % ps.length = b at eb lfe ⊢
        unfold Nxt
        simp [enum_pts]
        refine ⟨by omega, comp_filt (enc := fun e : (Int × Int) × Nat => .tup [.int (e.2 : Nat), pt e.1]) (f := fun e => pt e.1) (p := fun e => !decide (e.2 = k) && !decide (e.2 = b)) (fun e he => ⟨_, rfl, ?_, fun _ => ?_⟩) ?_⟩
        · simp [wipeR]
          by_cases q : e.2 = k <;> simp [q]
          omega
        · simp [wipeR]
        unfold Nxt
        simp
        have hk0 : ps.getD k (0, 0) = ps[k] := getD9 (List.getElem?_eq_getElem hdl)
        have hb0 : ps.getD b (0, 0) = ps[b] := getD9 (List.getElem?_eq_getElem eb)
        rw [hk0, hb0] at lfe
        have mz : ∀ e ∈ ps.zipIdx.filter (fun e => !decide (e.2 = k) && !decide (e.2 = b)), Pb9 e.1 := fun e he => by
          have := (List.mem_filter.mp he).1
          rw [List.mem_zipIdx_iff_getElem?] at this
          exact hP _ (List.mem_of_getElem? this)
        have mlen : (ps.zipIdx.filter (fun e => !decide (e.2 = k) && !decide (e.2 = b))).length ≤ ps.length := by
          refine Nat.le_trans (List.length_filter_le ..) ?_
          rw [List.length_zipIdx]; exact Nat.le_refl _
        generalize ps.zipIdx.filter (fun e => !decide (e.2 = k) && !decide (e.2 = b)) = fs at lfe mz mlen ⊢
        refine ⟨by omega, comp_map (enc := fun e : (Int × Int) × Nat => pt e.1) (f := fun e => .bl (decide (0 < lf ps[k] ps[b] e.1))) (fun e he => ⟨_, rfl, ?_⟩) ?_⟩
        · have ab : atI (ps.map pt) (b : Int) = some (pt ps[b]) := atI_nat (by rw [List.getElem?_map, List.getElem?_eq_getElem eb]; rfl)
          simp [wipeR, ab, is_left9 (hP _ (List.getElem_mem hdl)) (hP _ (List.getElem_mem eb)) (mz e he)]
        · refine ⟨_, ⟨_, bls_all9 fs fun e => decide (0 < lf ps[k] ps[b] e.1), rfl⟩, ?_⟩
          rw [lfe]
          cases hv : (List.range ps.length).all fun j => lfAt ps k j with
          | false =>
            refine .inl ⟨rfl, h2 ?_⟩
            rw [es]
            cases hs : sqv ps with
            | false => rfl
            | true => exact absurd (List.all_eq_true.mp hs k (List.mem_range.mpr hdl)) (by rw [hv]; exact Bool.false_ne_true)
          | true =>
            refine .inr ⟨rfl, ?_⟩
            rw [hI]
            refine ⟨⟨_, _, _, _, rfl⟩, fun m hm => ?_⟩
            rw [List.length_append, hkd] at hm
            have hm : m < k + 1 := hm
            by_cases q : m = k
            · rw [q]; exact hv
            · exact hd m (by omega)
      · intro ρ t hh
        rw [hI] at hh
        obtain ⟨⟨s3, s4, s5, s6, rfl⟩, hd⟩ := hh
        have sq : sqv ps = true := List.all_eq_true.mpr fun k hk => hd k (by rw [List.length_zipIdx]; exact List.mem_range.mp hk)
        obtain ⟨m1, m2⟩ := mn_idx (ps := ps) (by omega)
        have ml := mi_lt (ps := ps) (by omega)
        have h1 := h1 (by rw [es, sq])
        have c1 := cut9_lo (α := ps.map pt) (j := mi ps) (by rw [List.length_map]; omega)
        have c2 := cut9_hi (α := ps.map pt) (j := mi ps) (by rw [List.length_map]; omega)
        unfold Nxt
        simp [m1, m2]
        unfold Nxt
        simp [c1, c2]
        refine ⟨by omega, ?_⟩
        rw [rotP, List.map_append, List.map_drop, List.map_take] at h1
        exact h1
    · have g : ¬ ((3 : Int) ≤ (xs.length : Nat) ∧ ((xs.length : Nat) : Int) ≤ 8) := by omega
      have es : shpB d = false := by
        rw [es]
        by_cases q1 : 3 ≤ xs.length <;> by_cases q2 : xs.length ≤ 8 <;> simp [q1, q2]
        exact absurd ⟨q1, q2⟩ hl
      have h2 := h2 es
      simp [hi, ln, oE_eChain]
      by_cases q : 3 ≤ xs.length
      · exact .inl ⟨by omega, .inl ⟨by omega, h2⟩⟩
      · exact .inr ⟨by omega, h2⟩
def T9 : Nat → D → Bool
  | _, .non => true
  | _, .bl _ => true
  | _, .int _ => true
  | _, .str z => PyData.canLay0 (.str z) && decide (z.length ≤ 16777216)
  | _, .dct [] [] => true
  | n + 1, .tup xs => decide (xs.length ≤ 64) && xs.all (T9 n)
  | n + 1, .lst xs => decide (xs.length ≤ 64) && xs.all (T9 n)
  | _, _ => false
theorem T9.tup_of {n : Nat} {xs : List D} (h : T9 (n + 1) (.tup xs) = true) : xs.length ≤ 64 ∧ ∀ x ∈ xs, T9 n x = true := by
  obtain ⟨h1, h2⟩ := Bool.and_eq_true_iff.mp h
  exact ⟨of_decide_eq_true h1, fun x hx => List.all_eq_true.mp h2 x hx⟩
theorem T9.lst_of {n : Nat} {xs : List D} (h : T9 (n + 1) (.lst xs) = true) : xs.length ≤ 64 ∧ ∀ x ∈ xs, T9 n x = true := by
  obtain ⟨h1, h2⟩ := Bool.and_eq_true_iff.mp h
  exact ⟨of_decide_eq_true h1, fun x hx => List.all_eq_true.mp h2 x hx⟩
theorem T9.tup {n : Nat} {xs : List D} (hl : xs.length ≤ 64) (h : ∀ x ∈ xs, T9 n x = true) : T9 (n + 1) (.tup xs) = true := Bool.and_eq_true_iff.mpr ⟨decide_eq_true hl, List.all_eq_true.mpr h⟩
theorem T9.lst {n : Nat} {xs : List D} (hl : xs.length ≤ 64) (h : ∀ x ∈ xs, T9 n x = true) : T9 (n + 1) (.lst xs) = true := Bool.and_eq_true_iff.mpr ⟨decide_eq_true hl, List.all_eq_true.mpr h⟩
theorem T9.str_of {n : Nat} {z : Str} (h : T9 n (.str z) = true) : PyData.canLay0 (.str z) = true ∧ z.length ≤ 16777216 := by
  cases n <;> exact ⟨(Bool.and_eq_true_iff.mp h).1, of_decide_eq_true (Bool.and_eq_true_iff.mp h).2⟩
theorem T9_ty {n : Nat} {d : D} (h : T9 n d = true) : (tyN d).isSome = true := by
  cases d <;> cases n <;> first
    | rfl
    | (cases h; done)
    | (rename_i ks vs; cases ks <;> cases vs <;> first | rfl | (cases h; done))
    | (rename_i ks vs n; cases ks <;> cases vs <;> first | rfl | (cases h; done))
theorem T9.up : ∀ {n m : Nat} {d : D}, T9 n d = true → n ≤ m → T9 m d = true
  | n, 0, d, h, hm => by rw [Nat.le_zero.mp hm] at h; exact h
  | 0, m + 1, d, h, hm => by
    cases d <;> first
      | rfl
      | (cases h; done)
      | exact h
      | (rename_i ks vs; cases ks <;> cases vs <;> first | rfl | (cases h; done))
  | n + 1, m + 1, d, h, hm => by
    cases d <;> first
      | rfl
      | (cases h; done)
      | exact h
      | (rename_i ks vs; cases ks <;> cases vs <;> first | rfl | (cases h; done))
      | skip
    · obtain ⟨a, b⟩ := T9.tup_of h
      exact T9.tup a fun x hx => T9.up (b x hx) (by omega)
    · obtain ⟨a, b⟩ := T9.lst_of h
      exact T9.lst a fun x hx => T9.up (b x hx) (by omega)
theorem name9 {n : Nat} {d : D} (h : T9 n d = true) : m_is_name [d] () = .ok (.bl (nameB d)) () := is_name9 (T9_ty h) fun z e => (T9.str_of (e ▸ h)).2
def railB : D → Bool
  | .tup [.int p, .int q] => (decide (p.natAbs ≤ 1000000) && decide (q.natAbs ≤ 1000000)) && decide (Int.gcd p q = 1)
  | _ => false
def wayB : D → Bool
  | .tup [.int p, .int q] => decide (Int.gcd p q = 1)
  | _ => false
theorem is_way9 {d : D} (h : okT d = true) : m_is_way [d] () = .ok (.bl (wayB d)) () := by
  have ty := okT_ty h
  apply oE_eq
  unfold m_is_way b_is_way
  by_cases q : ∃ xs, d = .tup xs
  · obtain ⟨xs, rfl⟩ := q
    by_cases hl : xs.length = 2
    · match xs, hl with
      | [x, y], _ =>
        have wx := is_whole_ok (okT_parts h (e := rfl) x (by simp))
        have wy := is_whole_ok (okT_parts h (e := rfl) y (by simp))
        simp [fIsi, isi_tupT, oE_compCons, oE_compNil, wipeR, noOwn, wx, wy, blsD]
        cases x with
        | int i =>
          cases y with
          | int j =>
            have e0 : atI [D.int i, D.int j] 0 = some (.int i) := rfl
            have e1 : atI [D.int i, D.int j] 1 = some (.int j) := rfl
            simp [isWh, blsD]
            unfold Nxt
            simp [e0, e1, divisor_ok, wayB]
            omega
          | _ => simp [isWh, wayB, blsD]
        | _ => simp [isWh, wayB, blsD]
    · have hl' : ((xs.length : Nat) : Int) ≠ 2 := by omega
      have es : wayB (.tup xs) = false := by
        match xs, hl with
        | [], _ => rfl
        | [x], _ => cases x <;> rfl
        | [x, y], h => exact absurd rfl h
        | x :: y :: z :: r, _ => cases x <;> cases y <;> rfl
      simp [fIsi, isi_tupT, hl', es]
  · have es : wayB d = false := by
      cases d <;> first
        | rfl
        | exact absurd ⟨_, rfl⟩ q
    have e := isi_tup ty fun xs z => q ⟨xs, z⟩
    simp [fIsi, e, es]
theorem is_rail9 {d : D} (h : okT d = true) : m_is_rail [d] () = .ok (.bl (railB d)) () := by
  apply oE_eq
  unfold m_is_rail b_is_rail
  simp [is_way9 h]
  cases e : wayB d with
  | false =>
    have es : railB d = false := by
      unfold railB
      split
      · rename_i p q
        have e : decide (Int.gcd p q = 1) = false := e
        rw [e, Bool.and_false]
      · rfl
    simp [es]
  | true =>
    unfold wayB at e
    split at e
    · rename_i p q
      have e := of_decide_eq_true e
      simp [oE_compCons, oE_compNil, wipeR, noOwn, blsD, railB, e]
      have hz : ∀ x : Int, decide ((x.natAbs : Int) ≤ 1000000) = decide (x.natAbs ≤ 1000000) := fun x => by
        rw [Bool.eq_iff_iff, decide_eq_true_iff, decide_eq_true_iff]
        omega
      rw [hz, hz]
    · cases e
def massB : D → Bool
  | .int m => decide (0 ≤ m) && decide (m ≤ 1000000)
  | _ => false
def upT : D → D → Int
  | .tup [.int p, .int q], .tup [.tup [.int a, .int b], .tup [.int c, .int d]] => p * c * b - q * a * d
  | _, _ => 0
def stlB (s : D) : Bool := match dEq s (.tup [.tup [.int 0, .int 1], .tup [.int 0, .int 1]]) with
  | some (.bl b) => b
  | _ => false
def zeroB : D → Bool
  | .int k => decide (k = 0)
  | _ => false
def nonB : D → Bool
  | .non => true
  | _ => false
def goesB (m r s : D) : Bool := if zeroB m = true then stlB s else nonB r || decide (upT r s = 0)
theorem dEq_some9 {n m : Nat} {x y : D} (hx : gd n x = true) (hy : gd m y = true) (hn : n ≤ 64 := by decide) (hm : m ≤ 64 := by decide) : ∃ b, dEq x y = some (.bl b) := by
  obtain ⟨p, h1, h2, _⟩ := gd_shaped hx hn
  obtain ⟨q, k1, k2, _⟩ := gd_shaped hy hm
  unfold dEq eqD
  rw [h1, k1]
  dsimp only
  rw [if_pos ⟨h2, k2⟩]
  exact ⟨_, rfl⟩
def Lt4 (i : Int) : Prop := i.natAbs < 2 ^ 1329
theorem fineB_form {d : D} (h : fineB d = true) : ∃ a b : Int, d = .tup [.int a, .int b] ∧ 1 ≤ b ∧ Int.gcd a b = 1 ∧ Lt4 a ∧ Lt4 b := by
  unfold fineB at h
  split at h
  · rename_i a b
    obtain ⟨h1, h2⟩ := Bool.and_eq_true_iff.mp h
    obtain ⟨h3, h4⟩ := Bool.and_eq_true_iff.mp h1
    obtain ⟨h5, h6⟩ := Bool.and_eq_true_iff.mp h2
    have h3 := of_decide_eq_true h3
    have h5 := of_decide_eq_true h5
    have h6 := of_decide_eq_true h6
    refine ⟨a, b, rfl, h3, of_decide_eq_true h4, ?_, ?_⟩
    · unfold Lt4
      refine Nat.lt_of_lt_of_le (Int.ofNat_lt.mp h5) (by decide +kernel)
    · unfold Lt4
      have : ((b.natAbs : Nat) : Int) = b := by omega
      rw [← this] at h6
      refine Nat.lt_of_lt_of_le (Int.ofNat_lt.mp h6) (by decide +kernel)
  · cases h
theorem fineS_form {d : D} (h : fineS d = true) : ∃ a b c e : Int, d = .tup [.tup [.int a, .int b], .tup [.int c, .int e]] ∧ 1 ≤ b ∧ 1 ≤ e ∧ Lt4 a ∧ Lt4 b ∧ Lt4 c ∧ Lt4 e ∧ Int.gcd a b = 1 ∧ Int.gcd c e = 1 := by
  unfold fineS at h
  split at h
  · rename_i x y
    obtain ⟨h1, h2⟩ := Bool.and_eq_true_iff.mp h
    obtain ⟨a, b, rfl, p1, p2, p3, p4⟩ := fineB_form h1
    obtain ⟨c, e, rfl, q1, q2, q3, q4⟩ := fineB_form h2
    exact ⟨a, b, c, e, rfl, p1, q1, p3, p4, q3, q4, p2, q2⟩
  · cases h
theorem railB_form {d : D} (h : railB d = true) : ∃ p q : Int, d = .tup [.int p, .int q] ∧ p.natAbs ≤ 1000000 ∧ q.natAbs ≤ 1000000 ∧ Int.gcd p q = 1 := by
  unfold railB at h
  split at h
  · rename_i p q
    obtain ⟨h1, h2⟩ := Bool.and_eq_true_iff.mp h
    obtain ⟨h3, h4⟩ := Bool.and_eq_true_iff.mp h1
    exact ⟨p, q, rfl, of_decide_eq_true h3, of_decide_eq_true h4, of_decide_eq_true h2⟩
  · cases h
theorem massB_form {d : D} (h : massB d = true) : ∃ m : Int, d = .int m ∧ 0 ≤ m ∧ m ≤ 1000000 := by
  unfold massB at h
  split at h
  · rename_i m
    obtain ⟨h1, h2⟩ := Bool.and_eq_true_iff.mp h
    exact ⟨m, rfl, of_decide_eq_true h1, of_decide_eq_true h2⟩
  · cases h
theorem mul_bits {i j : Int} {a b : Nat} (h1 : i.natAbs < 2 ^ a) (h2 : j.natAbs < 2 ^ b) : (i * j).natAbs < 2 ^ (a + b) := by
  rw [Int.natAbs_mul, Nat.pow_add]
  by_cases z : j.natAbs = 0
  · rw [z, Nat.mul_zero]
    exact Nat.mul_pos (Nat.pow_pos (by decide)) (Nat.pow_pos (by decide))
  · exact Nat.lt_of_lt_of_le ((Nat.mul_lt_mul_right (by omega)).mpr h1) (Nat.mul_le_mul_left _ (Nat.le_of_lt h2))
theorem stl9 {s : D} (h : fineS s = true) : dEq s (.tup [.tup [.int 0, .int 1], .tup [.int 0, .int 1]]) = some (.bl (stlB s)) := by
  obtain ⟨a, b, c, e, rfl, _⟩ := fineS_form h
  obtain ⟨v, hv⟩ := dEq_some9 (n := 2) (m := 2) (x := .tup [.tup [.int a, .int b], .tup [.int c, .int e]]) (y := .tup [.tup [.int 0, .int 1], .tup [.int 0, .int 1]]) rfl rfl
  unfold stlB
  rw [hv]
theorem across9 {r s : D} (hr : railB r = true) (hs : fineS s = true) : ∃ t b : Int, m_across [r, s] () = .ok (.tup [.int t, .int b]) () ∧ ((t = 0 ∧ b = 1) ↔ upT r s = 0) := by
  obtain ⟨p, q, rfl, hp, hq, _⟩ := railB_form hr
  obtain ⟨a, b, c, e, rfl, hb, he, sa, sb, sc, se, _⟩ := fineS_form hs
  have p1 : p.natAbs < 2 ^ 20 := by omega
  have q1 : (-q).natAbs < 2 ^ 20 := by omega
  have m1 : mulOk (-q) a = true := small_mul q1 sa (by decide) (by decide) (by decide)
  have m2 : mulOk (-q * a) e = true := small_mul (mul_bits q1 sa) se (by decide) (by decide) (by decide)
  have m3 : mulOk p c = true := small_mul p1 sc (by decide) (by decide) (by decide)
  have m4 : mulOk (p * c) b = true := small_mul (mul_bits p1 sc) sb (by decide) (by decide) (by decide)
  have m5 : mulOk b e = true := small_mul sb se (by decide) (by decide) (by decide)
  have hbe : b * e ≠ 0 := Int.mul_ne_zero (by omega) (by omega)
  obtain ⟨x, y, es, h1, h2, h3, _, _⟩ := share_ok (-q * a * e + p * c * b) (b * e) hbe (Nat.lt_of_lt_of_le (mul_bits sb se) (Nat.pow_le_pow_right (by decide) (by decide)))
  have al : m_along [.tup [.int (-q), .int p], .tup [.tup [.int a, .int b], .tup [.int c, .int e]]] () = .ok (.tup [.int x, .int y]) () := by
    have e0 : atI [D.int (-q), D.int p] 0 = some (.int (-q)) := rfl
    have e1 : atI [D.int (-q), D.int p] 1 = some (.int p) := rfl
    apply oE_eq
    unfold m_along b_along
    simp
    unfold Nxt
    simp [e0, e1, es]
    exact ⟨by simpa using m1, by simpa using m2, m3, m4, m5⟩
  refine ⟨x, y, ?_, ?_⟩
  · have e0 : atI [D.int p, D.int q] 0 = some (.int p) := rfl
    have e1 : atI [D.int p, D.int q] 1 = some (.int q) := rfl
    apply oE_eq
    unfold m_across b_across
    simp [e0, e1, al]
  · show _ ↔ p * c * b - q * a * e = 0
    have ez : -q * a * e + p * c * b = p * c * b - q * a * e := by
      rw [Int.neg_mul, Int.neg_mul]
      omega
    rw [ez] at h3
    constructor
    · rintro ⟨rfl, rfl⟩
      omega
    · intro z
      rw [z, Int.mul_zero] at h3
      have x0 : x = 0 := (Int.mul_eq_zero.mp h3).resolve_right hbe
      subst x0
      refine ⟨rfl, ?_⟩
      rw [Int.gcd_zero_left] at h2
      omega
theorem may_go9 {m r s : D} (hm : massB m = true) (hr : r = .non ∨ railB r = true) (hs : fineS s = true) : m_may_go [m, r, s] () = .ok (.bl (goesB m r s)) () := by
  obtain ⟨k, rfl, h0, h1⟩ := massB_form hm
  apply oE_eq
  unfold m_may_go b_may_go
  by_cases hk : k = 0
  · subst hk
    simp [stl9 hs]
    rfl
  · have g : goesB (.int k) r s = (nonB r || decide (upT r s = 0)) := by
      unfold goesB
      rw [if_neg (by simp [zeroB, hk])]
    simp [hk]
    unfold Nxt
    rcases hr with rfl | hr
    · have e : dIs .non .non = some (.bl true) := rfl
      simp [e, g, nonB]
    · obtain ⟨p, q, er, _⟩ := railB_form hr
      obtain ⟨t, b, ea, hi⟩ := across9 hr hs
      have e : dIs r .non = some (.bl false) := by rw [er]; rfl
      have g2 : goesB (.int k) r s = decide (upT r s = 0) := by rw [g, er]; rfl
      simp [e, ea, g2]
      rw [Bool.eq_iff_iff, Bool.and_eq_true_iff, decide_eq_true_iff, decide_eq_true_iff, decide_eq_true_iff]
      exact hi
def pn9 : Nat → Str
  | 0 => ""
  | 1 => "name"
  | 2 => "corners"
  | 3 => "mass"
  | 4 => "rail"
  | 5 => "place"
  | 6 => "speed"
  | _ => "form"
structure Any9 (a b c r p s : D) : Prop where
  na : T9 4 a = true
  co : okC b = true
  ma : (tyN c).isSome = true
  ra : okT r = true
  pl : plain2 p = true
  sp : plain2 s = true
def pts9 (b : D) : List (Int × Int) := match itD b with
  | some xs => rotP (xs.map cpt)
  | none => []
theorem look_corners9 {b : D} (h : okC b = true) {Q : D → Unit → Prop} {X : Str → Fds → Unit → Prop} (h1 : shpB b = true → Q (.tup ((pts9 b).map pt)) ()) (h2 : shpB b = false → X "BadRow" (some (["part"], [.str "corners"])) ()) : oE (m_look_corners [b] ()) Q X := by
  unfold m_look_corners b_look_corners
  simp
  refine look_shape9 h (fun q xs e => ?_) fun q => ?_
  · have := h1 q
    unfold pts9 at this
    rw [e] at this
    exact this
  · have := h2 q
    exact ⟨by decide, by decide, this⟩
def M9 : Int := (10 ^ 50) ^ 8
theorem pow9 {τ : Type} {ρ : Rho} {t : τ} {Q : D → τ → Prop} {X : Str → Fds → τ → Prop} : oE (e2 dPowB (e2 dPow (eC (.int 10)) (eC (.int 50))) (eC (.int 8)) ρ t) Q X = Q (.int M9) t := by
  have h1 : dPow (.int 10) (.int 50) = some (.int (10 ^ 50)) := by
    rw [dPow_some]
    exact ⟨rfl, by decide +kernel⟩
  have h2 : dPowB (.int (10 ^ 50)) (.int 8) = some (.int M9) := by
    rw [dPowB_some]
    exact ⟨rfl, powOkB_50⟩
  rw [oE_e2, oE_e2, oE_c, oE_c]
  apply propext
  constructor
  · rintro ⟨z, e1, h⟩
    rw [h1] at e1
    cases e1
    rw [oE_c] at h
    obtain ⟨z, e1, h⟩ := h
    rw [h2] at e1
    cases e1
    exact h
  · intro h
    refine ⟨_, h1, ?_⟩
    rw [oE_c]
    exact ⟨_, h2, h⟩
theorem fdiv_dvd {g a : Int} (hg : 0 < g) (h : g ∣ a) : (a.fdiv g).natAbs ≤ a.natAbs := by
  obtain ⟨c, rfl⟩ := h
  rw [fdiv_gcd (by omega), Int.natAbs_mul]
  exact Nat.le_mul_of_pos_left _ (by omega)
theorem gcd_le9 {a b : Int} (h : a ≠ 0 ∨ b ≠ 0) : 0 < (Int.gcd a b : Int) ∧ Int.gcd a b ≤ a.natAbs + b.natAbs := by
  by_cases q : b = 0
  · subst q
    rw [Int.gcd_zero_right]
    have : a ≠ 0 := h.resolve_right (fun z => z rfl)
    omega
  · have := Int.gcd_pos_of_ne_zero_right a q
    have := Int.gcd_le_natAbs_right a q
    omega
theorem rail_wp9 {ns : List Int} {a : Addr} {n : Nat} {t : Dk} {Q : D → Dk → Prop} {X : Str → Fds → Dk → Prop} (g : Gd ns a n t) (hc : n < 10000000000) (h : ∀ (p q : Int) (t' : Dk), p.natAbs ≤ 1000000 → q.natAbs ≤ 1000000 → Gd ns a (n + 10) t' → Q (.tup [.int p, .int q]) t') :
    oE (m__law_rail [.at a] t) Q X := by
  have ix : ∀ k : Int, 0 ≤ k → k < 3 → ∃ z : Int, atI [D.int 1, .int 5, .int 1000000] k = some (.int z) ∧ 0 ≤ z ∧ z ≤ 1000000 := fun k k0 k1 => by
    have : k = 0 ∨ k = 1 ∨ k = 2 := by omega
    rcases this with rfl | rfl | rfl
    · exact ⟨1, rfl, by decide, by decide⟩
    · exact ⟨5, rfl, by decide, by decide⟩
    · exact ⟨1000000, rfl, by decide, by decide⟩
  unfold m__law_rail b__law_rail
  simp
  refine take_wp g (by omega) (many_of (by decide) (by decide)) fun k t1 k0 k1 g1 => ?_
  obtain ⟨z, e, z0, z1⟩ := ix k k0 k1
  refine ⟨_, e, number_wp g1 (by omega) z0 z1 fun p t2 p0 p1 g2 => ?_⟩
  unfold Nxt
  simp
  refine take_wp g2 (by omega) (many_of (by decide) (by decide)) fun k t3 k0 k1 g3 => ?_
  obtain ⟨w, e, w0, w1⟩ := ix k k0 k1
  refine ⟨_, e, number_wp g3 (by omega) w0 w1 fun q t4 q0 q1 g4 => ?_⟩
  unfold Nxt
  simp
  by_cases hz : p = 0 ∧ q = 0
  · refine .inr ⟨hz.1, ?_⟩
    simp [hz.2]
    exact h 0 (-1) _ (by decide) (by decide) (g4.le (by omega))
  · obtain ⟨gp, gl⟩ := gcd_le9 (a := p) (b := q) (by omega)
    have d1 := fdiv_dvd gp (Int.gcd_dvd_left ..)
    have d2 := fdiv_dvd gp (Int.gcd_dvd_right ..)
    have od : ∀ x, divOk x (Int.gcd p q : Int) = true := fun x => small_div (b := 60) (by omega) (by omega) (by decide) (by decide)
    have fin : Nxt (sSeq (sAsg (gN 3) (eCall m__law_gcd [] (aCons (eVar 1) (aCons (eVar 2) aNil)))) (sRet (eTup (aCons (e2 dDiv (eVarW 1) (eVarW 3)) (aCons (e2 dDiv (eVarW 2) (eVarW 3)) aNil))))) [.val (.at a), .val (.int p), .val (.int q), .no] t4 { nx := fun _ t => Q .non t, rt := Q, ex := fun n fs _ t => X n fs t } := by
      unfold Nxt
      simp [law_gcd_ok]
      unfold Nxt
      simp
      generalize (Int.gcd p q : Int) = G at *
      exact ⟨od _, od _, h _ _ _ (by omega) (by omega) (g4.le (by omega))⟩
    by_cases hp : p = 0
    · exact .inr ⟨hp, .inl ⟨fun z => hz ⟨hp, z⟩, fin⟩⟩
    · exact .inl ⟨hp, fin⟩
def massG (l : Int) : D → Bool
  | .int m => decide (l ≤ m) && decide (m ≤ 1000000)
  | _ => false
theorem massG_form {l : Int} {d : D} (h : massG l d = true) : ∃ m : Int, d = .int m ∧ l ≤ m ∧ m ≤ 1000000 := by
  unfold massG at h
  split at h
  · rename_i m
    obtain ⟨h1, h2⟩ := Bool.and_eq_true_iff.mp h
    exact ⟨m, rfl, of_decide_eq_true h1, of_decide_eq_true h2⟩
  · cases h
theorem massG_mass {l : Int} (hl : 0 ≤ l) {d : D} (h : massG l d = true) : massB d = true := by
  obtain ⟨m, rfl, h1, h2⟩ := massG_form h
  unfold massB
  simp
  omega
def wrG (l : Int) (nr : Bool) (a b c r p s : D) : Nat :=
  if nameB a = false then 1 else if shpB b = false then 2 else if massG l c = false then 3 else if ((isN r && nr) || (!isN r && (zeroB c || !railB r))) = true then 4 else if fineS p = false then 5 else if (!fineS s || !goesB c r s) = true then 6 else 0
theorem look_partsG {l : Int} {nr : Bool} (hl0 : 0 ≤ l) {a b c r p s : D} (h : Any9 a b c r p s) {Q : D → Unit → Prop} {X : Str → Fds → Unit → Prop} (h1 : wrG l nr a b c r p s = 0 → Q (.tup [a, .tup ((pts9 b).map pt), c, r, p, s]) ())
    (h2 : ∀ w, wrG l nr a b c r p s = w → w ≠ 0 → X "BadRow" (some (["part"], [.str (pn9 w)])) ()) : oE (m_look_parts [.tup [a, b, c, r, p, s], .int l, .bl nr] ()) Q X := by
  unfold m_look_parts b_look_parts
  simp [fIsi, isi_tupT]
  unfold Nxt
  simp
  unfold Nxt
  simp [name9 h.na]
  have ok1 : ∀ z : Str, z.length ≤ 1000 → okS1 [D.str z] = true := fun z hz => decide_eq_true hz
  cases e1 : nameB a with
  | false =>
    simp
    refine ⟨by decide, h2 1 ?_ (by decide)⟩
    unfold wrG
    rw [if_pos e1]
  | true =>
    simp
    unfold Nxt
    simp
    refine look_corners9 h.co (fun e2 => ?_) fun e2 => h2 2 (by unfold wrG; rw [if_neg (by rw [e1]; decide), if_pos e2]) (by decide)
    unfold Nxt
    simp [is_whole_ok h.ma, oE_eChain]
    cases e3 : massG l c with
    | false =>
      have w : X "BadRow" (some (["part"], [.str "mass"])) () := h2 3 (by unfold wrG; rw [if_neg (by rw [e1]; decide), if_neg (by rw [e2]; decide), if_pos e3]) (by decide)
      cases c with
      | int i =>
        simp [isWh]
        by_cases q : l ≤ i
        · refine .inl ⟨q, .inl ⟨?_, by decide, w⟩⟩
          apply Classical.byContradiction
          intro z
          have : massG l (.int i) = true := by unfold massG; simp; omega
          rw [this] at e3
          cases e3
        · exact .inr ⟨by omega, by decide, w⟩
      | _ => simp [isWh]; exact ⟨by decide, w⟩
    | true =>
      obtain ⟨m, rfl, m0, m1⟩ := massG_form e3
      have d1 : dIs r .non = some (.bl (isN r)) := rfl
      have d2 : dIsnt r .non = some (.bl (!isN r)) := rfl
      have z0 : zeroB (.int m) = decide (m = 0) := rfl
      by_cases good : (isN r = true ∧ nr = false) ∨ (isN r = false ∧ m ≠ 0 ∧ railB r = true)
      · have w4 : ¬ ((isN r && nr) || (!isN r && (zeroB (.int m) || !railB r))) = true := by
          rcases good with ⟨g, gn⟩ | ⟨g1, g2, g3⟩
          · simp [g, gn]
          · simp [g1, g3, z0, g2]
        have hr : r = .non ∨ railB r = true := by
          rcases good with ⟨g, gn⟩ | ⟨g1, g2, g3⟩
          · cases r <;> first | exact .inl rfl | cases g
          · exact .inr g3
        have wf : wrG l nr a b (.int m) r p s = if fineS p = false then 5 else if (!fineS s || !goesB (.int m) r s) = true then 6 else 0 := by
          unfold wrG
          rw [if_neg (by rw [e1]; decide), if_neg (by rw [e2]; decide), if_neg (by rw [e3]; decide), if_neg w4]
        rw [wf] at h1 h2
        simp [isWh, m0, m1]
        unfold Nxt
        have key : ∀ {c : Prop} {k : Prop}, (c → k) → c → k := fun f => f
        rcases good with ⟨g, gn⟩ | ⟨g1, g2, g3⟩
        · simp [d1, d2, g, gn]
          unfold Nxt
          simp [fine_spot9 h.pl]
          cases e5 : fineS p with
          | false =>
            simp
            exact ⟨by decide, h2 5 (by rw [if_pos e5]) (by decide)⟩
          | true =>
            simp
            unfold Nxt
            simp [fine_spot9 h.sp]
            cases e6 : fineS s with
            | false =>
              simp
              exact ⟨by decide, h2 6 (by rw [if_neg (by rw [e5]; decide), e6]; rfl) (by decide)⟩
            | true =>
              simp [may_go9 (massG_mass hl0 e3) hr e6]
              cases e7 : goesB (.int m) r s with
              | false =>
                simp
                exact ⟨by decide, h2 6 (by rw [if_neg (by rw [e5]; decide), e6, e7]; rfl) (by decide)⟩
              | true =>
                simp
                unfold Nxt
                simp
                exact h1 (by rw [if_neg (by rw [e5]; decide), e6, e7]; rfl)
        · simp [d1, d2, g1, g2, is_rail9 h.ra, g3]
          unfold Nxt
          simp [fine_spot9 h.pl]
          cases e5 : fineS p with
          | false =>
            simp
            exact ⟨by decide, h2 5 (by rw [if_pos e5]) (by decide)⟩
          | true =>
            simp
            unfold Nxt
            simp [fine_spot9 h.sp]
            cases e6 : fineS s with
            | false =>
              simp
              exact ⟨by decide, h2 6 (by rw [if_neg (by rw [e5]; decide), e6]; rfl) (by decide)⟩
            | true =>
              simp [may_go9 (massG_mass hl0 e3) hr e6]
              cases e7 : goesB (.int m) r s with
              | false =>
                simp
                exact ⟨by decide, h2 6 (by rw [if_neg (by rw [e5]; decide), e6, e7]; rfl) (by decide)⟩
              | true =>
                simp
                unfold Nxt
                simp
                exact h1 (by rw [if_neg (by rw [e5]; decide), e6, e7]; rfl)
      · have w : X "BadRow" (some (["part"], [.str "rail"])) () := h2 4 (by
          unfold wrG
          rw [if_neg (by rw [e1]; decide), if_neg (by rw [e2]; decide), if_neg (by rw [e3]; decide), if_pos]
          cases g1 : isN r with
          | true =>
            cases gn : nr with
            | false => exact absurd (.inl ⟨g1, gn⟩) good
            | true => simp
          | false =>
            rw [z0]
            by_cases q : m = 0
            · simp [q]
            · cases e : railB r with
              | true => exact absurd (.inr ⟨g1, q, e⟩) good
              | false => simp) (by decide)
        simp [isWh, m0, m1]
        unfold Nxt
        cases g1 : isN r with
        | true =>
          cases gn : nr with
          | false => exact absurd (.inl ⟨g1, gn⟩) good
          | true =>
            simp [d1, d2, g1]
            exact ⟨by decide, w⟩
        | false =>
          simp [d1, d2, g1, is_rail9 h.ra]
          by_cases q : m = 0
          · simp [q]
            exact ⟨by decide, w⟩
          · cases e : railB r with
            | true => exact absurd (.inr ⟨g1, q, e⟩) good
            | false =>
              simp [q]
              exact ⟨by decide, w⟩
theorem sqv_turn {ps : List (Int × Int)} (hl : 3 ≤ ps.length) : sqv ps = ((List.range ps.length).all fun k => (List.range (ps.length - 2)).all fun t => decide (0 < lf (ps.getD k (0, 0)) (ps.getD ((k + 1) % ps.length) (0, 0)) (ps.getD ((k + (t + 2)) % ps.length) (0, 0)))) := by
  rw [Bool.eq_iff_iff]
  unfold sqv
  rw [List.all_eq_true, List.all_eq_true]
  have md : ∀ {a r : Nat}, a < ps.length → r < ps.length → (a + r) % ps.length = if a + r < ps.length then a + r else a + r - ps.length := fun {a r} ha hr => by
    split
    · exact Nat.mod_eq_of_lt (by assumption)
    · rw [Nat.mod_eq_sub_mod (by omega)]
      exact Nat.mod_eq_of_lt (by omega)
  constructor
  · intro h k hk
    have hk' := List.mem_range.mp hk
    have h := List.all_eq_true.mp (h k hk)
    refine List.all_eq_true.mpr fun t ht => ?_
    have ht := List.mem_range.mp ht
    have e1 := md (a := k) (r := t + 2) hk' (by omega)
    have e2 := md (a := k) (r := 1) hk' (by omega)
    have := h ((k + (t + 2)) % ps.length) (List.mem_range.mpr (Nat.mod_lt _ (by omega)))
    unfold lfAt at this
    have n1 : ¬ (k + (t + 2)) % ps.length = k := by rw [e1]; split <;> omega
    have n2 : ¬ (k + (t + 2)) % ps.length = (k + 1) % ps.length := by rw [e1, e2]; split <;> split <;> omega
    rw [decide_eq_false n1, decide_eq_false n2, Bool.false_or, Bool.false_or] at this
    exact this
  · intro h k hk
    have hk' := List.mem_range.mp hk
    have h := List.all_eq_true.mp (h k hk)
    refine List.all_eq_true.mpr fun j hj => ?_
    have hj := List.mem_range.mp hj
    unfold lfAt
    have e2 := md (a := k) (r := 1) hk' (by omega)
    by_cases q1 : j = k
    · simp [q1]
    by_cases q2 : j = (k + 1) % ps.length
    · simp [q2]
    rw [e2] at q2
    have key : ∃ t, t < ps.length - 2 ∧ (k + (t + 2)) % ps.length = j := by
      by_cases q : k < j
      · refine ⟨j - k - 2, ?_, ?_⟩
        · split at q2 <;> omega
        · have : k + (j - k - 2 + 2) = j := by split at q2 <;> omega
          rw [this]
          exact Nat.mod_eq_of_lt hj
      · refine ⟨j + ps.length - k - 2, ?_, ?_⟩
        · split at q2 <;> omega
        · have : k + (j + ps.length - k - 2 + 2) = j + ps.length := by split at q2 <;> omega
          rw [this, Nat.add_mod_right]
          exact Nat.mod_eq_of_lt hj
    obtain ⟨t, ht, e⟩ := key
    have := h t (List.mem_range.mpr ht)
    rw [e] at this
    rw [this, Bool.or_true, Bool.or_true]
theorem crn_pt9 {q : Int × Int} (h : Pb9 q) : crn (pt q) = true := by
  obtain ⟨h1, h2⟩ := h
  show (cN (.int q.1) && cN (.int q.2)) = true
  unfold cN
  simp
  omega
theorem rng2_ok {i j : Int} (h1 : -1000000 ≤ i) (h2 : i ≤ 1000000) (h3 : -1000000 ≤ j) (h4 : j ≤ 1000000) : fRng2 [.int i, .int j] = some (rngD i (j - i).toNat) := by
  have e : (2 : Int) ^ 62 = 4611686018427387904 := by decide +kernel
  have key : ∀ P : Int, P = 4611686018427387904 → (if -P ≤ i ∧ i < P ∧ -P ≤ j ∧ j < P then some (rngD i (j - i).toNat) else none) = some (rngD i (j - i).toNat) := fun P hP => by
    rw [if_pos (by omega)]
  exact key _ e
theorem at10 {ps : List (Int × Int)} {k : Nat} (h : k < ps.length) : atI (ps.map pt) (k : Int) = some (pt ps[k]) ∧ ps.getD k (0, 0) = ps[k] := ⟨atI_nat (by rw [List.getElem?_map, List.getElem?_eq_getElem h]; rfl), getD9 (List.getElem?_eq_getElem h)⟩
theorem left10 {a b c : Int × Int} (ha : Pb9 a) (hb : Pb9 b) (hc : Pb9 c) : m__law_left [pt a, pt b, pt c] () = .ok (.int (lf a b c)) () := by
  have := law_left9 (a := pt a) (b := pt b) (c := pt c) rfl rfl rfl (crn_pt9 ha) (crn_pt9 hb) (crn_pt9 hc)
  exact this
def rndB (ps : List (Int × Int)) : Bool := (decide (3 ≤ ps.length) && decide (ps.length ≤ 8)) && sqv ps
theorem round10 {ps : List (Int × Int)} (hp : ∀ p ∈ ps, Pb9 p) (hlen : ps.length ≤ 1000) : m__law_is_round [.lst (ps.map pt)] () = .ok (.bl (rndB ps)) () := by
  apply oE_eq
  unfold m__law_is_round b__law_is_round
  obtain ⟨fr, hfr⟩ : ∃ fr, fr = fRng1 := ⟨_, rfl⟩
  obtain ⟨fs, hfs⟩ : ∃ fs, fs = fRng2 := ⟨_, rfl⟩
  rw [← hfr, ← hfs]
  have er : rndB ps = ((decide (3 ≤ ps.length) && decide (ps.length ≤ 8)) && sqv ps) := rfl
  simp
  unfold Nxt
  by_cases hl : 3 ≤ ps.length ∧ ps.length ≤ 8
  · have g1 : ¬ ((ps.length : Nat) : Int) < 3 := by omega
    have g2 : ¬ (8 : Int) < (ps.length : Nat) := by omega
    rw [decide_eq_true hl.1, decide_eq_true hl.2, Bool.true_and, Bool.true_and, sqv_turn hl.1] at er
    generalize rndB ps = R at er ⊢
    have e1 : fr [.int (ps.length : Nat)] = some ((List.range ps.length).map fun j : Nat => .int (0 + (j : Nat))) := by
      obtain ⟨z, h1, h2⟩ := (ex_rng (j := (ps.length : Nat)) (Q := fun z => z = rngD 0 ((ps.length : Nat) : Int).toNat)).mpr ⟨⟨by omega, by omega⟩, rfl⟩
      rw [hfr, h1, h2, Int.toNat_natCast]
      rfl
    have e2 : fs [.int 2, .int (ps.length : Nat)] = some ((List.range (ps.length - 2)).map fun j : Nat => .int (2 + (j : Nat))) := by
      rw [hfs, rng2_ok (by decide) (by decide) (by omega) (by omega)]
      rw [show (((ps.length : Nat) : Int) - 2).toNat = ps.length - 2 by omega]
      rfl
    clear hfr hfs
    simp [g1, g2]
    unfold Nxt
    simp [e1]
    obtain ⟨I, hI⟩ : ∃ I : List Nat → List Nat → Rho → Unit → Prop, I = fun dn _ ρ _ => (∃ s2 s3, ρ = [.val (.lst (ps.map pt)), .val (.int (ps.length : Nat)), s2, s3]) ∧ ∀ k, k < dn.length → ((List.range (ps.length - 2)).all fun t => decide (0 < lf (ps.getD k (0, 0)) (ps.getD ((k + 1) % ps.length) (0, 0)) (ps.getD ((k + (t + 2)) % ps.length) (0, 0)))) = true := ⟨_, rfl⟩
    refine oS_loopE (enc := fun j : Nat => D.int (j : Nat)) I (List.range ps.length) (by rw [hI]; exact ⟨⟨_, _, rfl⟩, fun k hk => absurd hk (Nat.not_lt_zero _)⟩) ?_ ?_
    · intro dn k td ρ t eq hh
      rw [hI] at hh
      obtain ⟨⟨s2, s3, rfl⟩, hd⟩ := hh
      have rg : ∀ {N : Nat} {dn td : List Nat} {k : Nat}, List.range N = dn ++ k :: td → k = dn.length ∧ k < N := fun {N dn td k} eq => by
        have h1 : (List.range N)[dn.length]? = some k := by rw [eq]; simp
        rw [List.getElem?_eq_some_iff] at h1
        obtain ⟨h2, h3⟩ := h1
        rw [List.getElem_range] at h3
        rw [List.length_range] at h2
        exact ⟨h3.symm, by omega⟩
      obtain ⟨hkd, hkl⟩ := rg eq
      refine ⟨_, rfl, ?_⟩
      simp [e2]
      obtain ⟨J, hJ⟩ : ∃ J : List Nat → List Nat → Rho → Unit → Prop, J = fun dn _ ρ _ => (∃ s3, ρ = [.val (.lst (ps.map pt)), .val (.int (ps.length : Nat)), .val (.int (k : Nat)), s3]) ∧ ∀ t, t < dn.length → decide (0 < lf (ps.getD k (0, 0)) (ps.getD ((k + 1) % ps.length) (0, 0)) (ps.getD ((k + (t + 2)) % ps.length) (0, 0))) = true := ⟨_, rfl⟩
      refine oS_loopE (enc := fun j : Nat => D.int (2 + (j : Nat))) J (List.range (ps.length - 2)) (by rw [hJ]; exact ⟨⟨_, rfl⟩, fun k hk => absurd hk (Nat.not_lt_zero _)⟩) ?_ ?_
      · intro dm j te ρ u eq2 hh
        rw [hJ] at hh
        obtain ⟨⟨s3, rfl⟩, hd2⟩ := hh
        obtain ⟨hjd, hjl⟩ := rg eq2
        have b1 : (k + 1) % ps.length < ps.length := Nat.mod_lt _ (by omega)
        have b2 : (k + (j + 2)) % ps.length < ps.length := Nat.mod_lt _ (by omega)
        have em1 : ((k : Int) + 1).fmod (ps.length : Nat) = (((k + 1) % ps.length : Nat) : Int) := by
          rw [show ((k : Int) + 1) = ((k + 1 : Nat) : Int) by omega, fmod_nat]
        have em2 : ((k : Int) + (2 + (j : Int))).fmod (ps.length : Nat) = (((k + (j + 2)) % ps.length : Nat) : Int) := by
          rw [show ((k : Int) + (2 + (j : Int))) = ((k + (j + 2) : Nat) : Int) by omega, fmod_nat]
        have fm : ∀ (A B : Int), 0 ≤ B → A % B = A.fmod B := fun A B h => (Int.fmod_eq_emod_of_nonneg _ h).symm
        have nz : ((ps.length : Nat) : Int) ≠ 0 := by omega
        have ne : ¬ ps = [] := fun z => by rw [z] at hkl; exact absurd hkl (Nat.not_lt_zero _)
        obtain ⟨ak, dk⟩ := at10 hkl
        obtain ⟨a1, d1⟩ := at10 b1
        obtain ⟨a2, d2⟩ := at10 b2
        have hle := left10 (hp _ (List.getElem_mem hkl)) (hp _ (List.getElem_mem b1)) (hp _ (List.getElem_mem b2))
        refine ⟨_, rfl, ?_⟩
        simp [ak, nz]
        simp only [fm _ _ (show (0 : Int) ≤ (ps.length : Nat) by omega), em1, em2]
        refine ⟨ne, _, a1, ne, _, a2, ?_⟩
        rw [hle]
        rw [dk, d1] at hd2 
        have dj : decide (0 < lf ps[k] ps[(k + 1) % ps.length] ps[(k + (j + 2)) % ps.length]) = decide (0 < lf (ps.getD k (0, 0)) (ps.getD ((k + 1) % ps.length) (0, 0)) (ps.getD ((k + (j + 2)) % ps.length) (0, 0))) := by rw [dk, d1, d2]
        generalize lf ps[k] ps[(k + 1) % ps.length] ps[(k + (j + 2)) % ps.length] = L at dj ⊢
        simp
        by_cases q : 0 < L
        · refine .inl ⟨q, ?_⟩
          rw [hJ]
          refine ⟨⟨_, rfl⟩, fun m hm => ?_⟩
          rw [List.length_append, ← hjd] at hm
          have hm : m < j + 1 := hm
          by_cases qm : m = j
          · rw [qm, ← dj]
            exact decide_eq_true q
          · rw [dk, d1]
            exact hd2 m (by omega)
        · refine .inr ⟨by omega, ?_⟩
          cases hR : R with
          | false => rfl
          | true =>
            rw [hR] at er
            have := List.all_eq_true.mp (List.all_eq_true.mp er.symm k (List.mem_range.mpr hkl)) j (List.mem_range.mpr hjl)
            rw [← dj] at this
            exact absurd (of_decide_eq_true this) q
      · intro ρ u hh
        rw [hJ] at hh
        obtain ⟨⟨s3, rfl⟩, hd2⟩ := hh
        show I (dn ++ [k]) td _ u
        rw [hI]
        refine ⟨⟨_, _, rfl⟩, fun m hm => ?_⟩
        rw [List.length_append, ← hkd] at hm
        have hm : m < k + 1 := hm
        by_cases q : m = k
        · rw [q]
          exact List.all_eq_true.mpr fun t ht => hd2 t (by rw [List.length_range]; exact List.mem_range.mp ht)
        · exact hd m (by omega)
    · intro ρ t hh
      rw [hI] at hh
      obtain ⟨⟨s2, s3, rfl⟩, hd⟩ := hh
      have : R = true := by
        rw [er]
        exact List.all_eq_true.mpr fun k hk => hd k (by rw [List.length_range]; exact List.mem_range.mp hk)
      unfold Nxt
      simp [this]
  · have es : rndB ps = false := by
      rw [er]
      by_cases q1 : 3 ≤ ps.length <;> by_cases q2 : ps.length ≤ 8 <;> simp [q1, q2]
      exact absurd ⟨q1, q2⟩ hl
    simp [es]
    omega
theorem M9_lit : M9 = 10000000000000000000000000000000000000000000000000000000000000000000000000000000000000000000000000000000000000000000000000000000000000000000000000000000000000000000000000000000000000000000000000000000000000000000000000000000000000000000000000000000000000000000000000000000000000000000000000000000000000000000000000000000000000000000000000000000000000000000000000000000000000000000000000000000000000000 := by decide +kernel
theorem fineB_M (a b : Int) : fineB (.tup [.int a, .int b]) = ((decide (1 ≤ b) && decide (Int.gcd a b = 1)) && (decide ((a.natAbs : Int) < M9) && decide (b < M9))) := by rw [M9_lit]; rfl
theorem dNe_nil10 {n : Nat} {xs : List D} (h : xs.all (gd n) = true) (hn : n + 1 ≤ 64) : dNe (.lst xs) (.lst []) = some (.bl (!xs.isEmpty)) := by
  obtain ⟨p, h1, h2, h3⟩ := gd_shaped (n := n + 1) (d := .lst xs) h hn
  have h4 : py (.lst []) = some (.list []) := rfl
  have h5 : SeqAt.shaped (.list []) = true := by decide
  unfold dNe eqD
  rw [h1, h4]
  dsimp only
  rw [if_pos ⟨h2, h5⟩]
  cases xs with
  | nil =>
    have : py (.lst []) = some (.list []) := rfl
    rw [this] at h1
    cases h1
    rfl
  | cons x xs =>
    simp only [py, pys] at h1
    cases e : py x with
    | none => rw [e] at h1; cases h1
    | some a =>
      rw [e] at h1
      cases e2 : pys xs with
      | none => rw [e2] at h1; cases h1
      | some as =>
        rw [e2] at h1
        cases h1
        rfl
theorem fineB_no {d : D} (h : ∀ a b : Int, d ≠ .tup [.int a, .int b]) : fineB d = false := by
  unfold fineB
  split
  · rename_i a b
    exact absurd rfl (h a b)
  · rfl
theorem law_spot10 {d : D} (h : plain2 d = true) : m__law_is_spot [d] () = .ok (.bl (fineS d)) () := by
  have ty := plain2_ty h
  apply oE_eq
  unfold m__law_is_spot b__law_is_spot
  by_cases q : ∃ xs, d = .tup xs
  · obtain ⟨xs, rfl⟩ := q
    by_cases hl : xs.length = 2
    · match xs, hl with
      | [x, y], _ =>
        obtain ⟨hx, hy⟩ := Bool.and_eq_true_iff.mp h
        have step : ∀ (z : D) (P : Pt Unit), plain1 z = true → (fineB z = true → P.nx [.val (.tup [x, y]), .val z] ()) → (fineB z = false → P.rt (.bl false) ()) → oS ((sSeq (sIf (tOr2 (tNot1 (e1 truth (e1 fIsi (aCons (eVarW 1) (aCons (eC (.ty "tuple")) aNil))))) (tOr2 (e1 asB (e2 dNe (e1 fLen (aCons (eVarW 1) aNil)) (eC (.int 2)))) (tOr2 (tNot1 (e1 truth (eCall m__law_whole [] (aCons (e2 dIx (eVarW 1) (eC (.int 0))) aNil)))) (tNot1 (e1 truth (eCall m__law_whole [] (aCons (e2 dIx (eVarW 1) (eC (.int 1))) aNil))))))) (sRet (eC (.bl false))) sSkip)
  (sIf (tOr2 (e1 asB (e2 dLt (e2 dIx (eVarW 1) (eC (.int 1))) (eC (.int 1)))) (tOr2 (e1 asB (e2 dNe (eCall m__law_gcd [] (aCons (e2 dIx (eVarW 1) (eC (.int 0))) (aCons (e2 dIx (eVarW 1) (eC (.int 1))) aNil))) (eC (.int 1)))) (e1 asB (e2 dGe (e1 fMax2 (aCons (e1 fAbs (aCons (e2 dIx (eVarW 1) (eC (.int 0))) aNil)) (aCons (e2 dIx (eVarW 1) (eC (.int 1))) aNil))) (e2 dPowB (e2 dPow (eC (.int 10)) (eC (.int 50))) (eC (.int 8))))))) (sRet (eC (.bl false))) sSkip)) [.val (.tup [x, y]), .val z] ()) P := fun z P hz h1 h2 => by
          have tz := plain1_ty hz
          by_cases qz : ∃ xs, z = .tup xs
          · obtain ⟨zs, rfl⟩ := qz
            by_cases hlz : zs.length = 2
            · match zs, hlz with
              | [u, v], _ =>
                obtain ⟨hu, hv⟩ := Bool.and_eq_true_iff.mp hz
                have e0 : atI [u, v] 0 = some u := rfl
                have e1 : atI [u, v] 1 = some v := rfl
                simp [fIsi, isi_tupT, e0, e1, law_whole_any hu, law_whole_any hv]
                cases u with
                | int i =>
                  cases v with
                  | int j =>
                    have fb := fineB_M i j
                    have i0 : atI [D.int i, D.int j] 0 = some (.int i) := rfl
                    have i1 : atI [D.int i, D.int j] 1 = some (.int j) := rfl
                    generalize fineB (.tup [.int i, .int j]) = B at fb h1 h2
                    simp [isWh]
                    unfold Nxt
                    simp [i0, i1, law_gcd_ok, ↓pow9]
                    generalize M9 = M at fb
                    by_cases q1 : 1 ≤ j
                    · refine .inl ⟨q1, ?_⟩
                      by_cases q2 : Int.gcd i j = 1
                      · refine .inl ⟨by omega, ?_⟩
                        by_cases q3 : (i.natAbs : Int) < M ∧ j < M
                        · exact .inl ⟨by omega, h1 (by rw [fb]; simp [q1, q2, q3.1, q3.2])⟩
                        · refine .inr ⟨by omega, h2 (by rw [fb, decide_eq_true q1, decide_eq_true q2, Bool.true_and, Bool.true_and]; by_cases q4 : (i.natAbs : Int) < M <;> by_cases q5 : j < M <;> simp [q4, q5]; exact q3 ⟨q4, q5⟩)⟩
                      · exact .inr ⟨by omega, h2 (by rw [fb]; simp [q2])⟩
                    · exact .inr ⟨by omega, h2 (by rw [fb]; simp [q1])⟩
                  | _ => simp [isWh]; exact h2 (fineB_no fun a b z => by cases z)
                | _ => simp [isWh]; exact h2 (fineB_no fun a b z => by cases z)
            · have hl' : ((zs.length : Nat) : Int) ≠ 2 := by omega
              simp [fIsi, isi_tupT, hl']
              exact h2 (fineB_no fun a b z => by cases z; exact hlz rfl)
          · have e := isi_tup tz fun xs z => qz ⟨xs, z⟩
            simp [fIsi, e]
            exact h2 (fineB_no fun a b z => qz ⟨_, z⟩)
        have fs : fineS (.tup [x, y]) = (fineB x && fineB y) := rfl
        simp only [oE_run, oS_seq, oS_if, oE_or, oE_not, oE_e1, oE_e2, oE_cons, oE_nil, oE_c, oE_varW, oE_var, List.map_cons, List.map_nil, List.cons_append, List.nil_append, List.getElem?_cons_zero]
        simp [fIsi, isi_tupT]
        unfold Nxt
        simp
        rw [oS_loop_cons]
        refine ⟨_, rfl, step x _ hx (fun f1 => ?_) fun f1 => by rw [fs, f1]; rfl⟩
        dsimp only
        rw [oS_loop_cons]
        refine ⟨_, rfl, step y _ hy (fun f2 => ?_) fun f2 => by rw [fs, f1, f2]; rfl⟩
        dsimp only
        rw [oS_loop_nil]
        unfold Nxt
        simp [fs, f1, f2]
    · have hl' : ((xs.length : Nat) : Int) ≠ 2 := by omega
      have es : fineS (.tup xs) = false := by
        match xs, hl with
        | [], _ => rfl
        | [x], _ => rfl
        | [x, y], h => exact absurd rfl h
        | x :: y :: z :: r, _ => rfl
      simp [fIsi, isi_tupT, hl', es]
  · have es : fineS d = false := by
      cases d <;> first
        | rfl
        | exact absurd ⟨_, rfl⟩ q
    have e := isi_tup ty fun xs z => q ⟨xs, z⟩
    simp [fIsi, e, es]
theorem law_rail10 {d : D} (h : okT d = true) : m__law_is_rail [d] () = .ok (.bl (railB d)) () := by
  have ty := okT_ty h
  apply oE_eq
  unfold m__law_is_rail b__law_is_rail
  by_cases q : ∃ xs, d = .tup xs
  · obtain ⟨xs, rfl⟩ := q
    by_cases hl : xs.length = 2
    · match xs, hl with
      | [x, y], _ =>
        have wx := law_whole_any (okT_parts h (e := rfl) x (by simp))
        have wy := law_whole_any (okT_parts h (e := rfl) y (by simp))
        have sx := okT_sc h (e := rfl) x (by simp)
        have sy := okT_sc h (e := rfl) y (by simp)
        have g0 : ∀ z, sc z = true → gd 0 z = true := fun z hz => by cases z <;> first | rfl | cases hz
        simp [fIsi, isi_tupT]
        unfold Nxt
        simp
        have test : ∀ z, z = x ∨ z = y → oE ((tOr2 (tNot1 (e1 truth (eCall m__law_whole [] (aCons (eVar 1) aNil)))) (e1 asB (e2 dGt (e1 fAbs (aCons (eVarW 1) aNil)) (eC (D.int 1000000))))) [Slot.val (D.tup [x, y]), Slot.val z] ()) (fun b t' => b = !cN z ∧ t' = ()) (fun _ _ _ => False) := fun z hz => by
          have wz : m__law_whole [z] () = .ok (.bl (isWh z)) () := by rcases hz with q | q <;> rw [q] <;> assumption
          simp [wz]
          cases z with
          | int i =>
            simp [isWh, cN]
            by_cases h1 : -1000000 ≤ i <;> by_cases h2 : i ≤ 1000000 <;> simp [h1, h2] <;> omega
          | _ => simp [isWh, cN]
        refine comp_filt (α := D) (enc := id) (f := id) (p := fun z => !cN z) (xs := [x, y]) (fun z hz => ⟨_, rfl, test z (by simpa using hz), fun _ => by simp⟩) ?_
        have ga : (([x, y].filter fun z => !cN z).map id).all (gd 0) = true := by
          rw [List.map_id, List.all_eq_true]
          intro z hz
          have := (List.mem_filter.mp hz).1
          simp at this
          rcases this with rfl | rfl
          · exact g0 _ sx
          · exact g0 _ sy
        rw [dNe_nil10 ga (by decide)]
        cases ex : cN x with
        | false =>
          have es : railB (.tup [x, y]) = false := by
            unfold railB
            split
            · rename_i p q e
              cases e
              have : ¬ p.natAbs ≤ 1000000 := fun z => by
                unfold cN at ex
                simp at ex
                omega
              simp [this]
            · rfl
          simp [List.filter, ex, es]
        | true =>
          cases ey : cN y with
          | false =>
            have es : railB (.tup [x, y]) = false := by
              unfold railB
              split
              · rename_i p q e
                cases e
                have : ¬ q.natAbs ≤ 1000000 := fun z => by
                  unfold cN at ey
                  simp at ey
                  omega
                simp [this]
              · rfl
            simp [List.filter, ex, ey, es]
          | true =>
            have c : crn (.tup [x, y]) = true := by show (cN x && cN y) = true; rw [ex, ey]; rfl
            obtain ⟨i, j, e, _, h1, h2, _⟩ := crn_form (d := .tup [x, y]) rfl c
            cases e
            have i0 : atI [D.int i, D.int j] 0 = some (.int i) := rfl
            have i1 : atI [D.int i, D.int j] 1 = some (.int j) := rfl
            simp [List.filter, ex, ey]
            unfold Nxt
            simp [i0, i1, law_gcd_ok, railB, h1, h2]
            omega
    · have hl' : ((xs.length : Nat) : Int) ≠ 2 := by omega
      have es : railB (.tup xs) = false := by
        match xs, hl with
        | [], _ => rfl
        | [x], _ => cases x <;> rfl
        | [x, y], h => exact absurd rfl h
        | x :: y :: z :: r, _ => cases x <;> cases y <;> rfl
      simp [fIsi, isi_tupT, hl', es]
  · have es : railB d = false := by
      cases d <;> first
        | rfl
        | exact absurd ⟨_, rfl⟩ q
    have e := isi_tup ty fun xs z => q ⟨xs, z⟩
    simp [fIsi, e, es]
def wr10 (kind : Int) (a : D) (ps : List (Int × Int)) (c r p s : D) : Nat :=
  if nameB a = false then 1 else if rndB ps = false then 2 else if (decide (0 < kind) && !massG 1 c) = true then 3 else if (decide (kind = 2) && !railB r) = true then 4 else if fineS p = false then 5 else if (decide (0 < kind) && !fineS s) = true then 6 else if (decide (kind = 2) && !decide (upT r s = 0)) = true then 6 else 0
structure Th10 (a : D) (ps : List (Int × Int)) (c r p s : D) : Prop where
  na : T9 4 a = true
  co : (∀ q ∈ ps, Pb9 q) ∧ ps.length ≤ 60
  ma : T9 4 c = true
  ra : okT r = true
  pl : plain2 p = true
  sp : plain2 s = true
theorem law_wrong10 {kind : Int} {a : D} {ps : List (Int × Int)} {c r p s : D} (h : Th10 a ps c r p s) (hk0 : 0 ≤ kind) (hk2 : kind ≤ 2) {Q : D → Unit → Prop} {X : Str → Fds → Unit → Prop} (hq : ∀ w, wr10 kind a ps c r p s = w → Q (.str (pn9 w)) ()) : oE (m__law_wrong [.int kind, .lst [a, .lst (ps.map pt), c, r, p, s]] ()) Q X := by
  have e0 : atI [a, .lst (ps.map pt), c, r, p, s] 0 = some a := rfl
  have e1 : atI [a, .lst (ps.map pt), c, r, p, s] 1 = some (.lst (ps.map pt)) := rfl
  have e2 : atI [a, .lst (ps.map pt), c, r, p, s] 2 = some c := rfl
  have e3 : atI [a, .lst (ps.map pt), c, r, p, s] 3 = some r := rfl
  have e4 : atI [a, .lst (ps.map pt), c, r, p, s] 4 = some p := rfl
  have e5 : atI [a, .lst (ps.map pt), c, r, p, s] 5 = some s := rfl
  have rd := round10 h.co.1 (by have := h.co.2; omega)
  have tyc := T9_ty h.ma
  have H := h.na
  unfold m__law_wrong b__law_wrong
  by_cases q : ∃ z, a = .str z
  · obtain ⟨z, rfl⟩ := q
    obtain ⟨ok, hz⟩ := T9.str_of H
    have f2 := fLen_s9 hz
    have f3 : itS (.str z) = some (z.cps.toList.map sgnD) := rfl
    have sl : z.length = z.cps.toList.length := by show z.cps.size = _; simp
    have f4 : dEqSS (.str z) (.str "") = some (.bl (decide (z.length = 0))) := by
      show some (D.bl (z.cps.toList == (Str.ofString "").cps.toList)) = _
      have : (Str.ofString "").cps.toList = [] := by rfl
      rw [this, sl]
      cases z.cps.toList <;> rfl
    have f1 : fIsi [.str z, .ty "str"] = some (.bl true) := rfl
    by_cases h0 : z.length = 0
    · have g : nameB (.str z) = false := by simp [nameB, h0]
      have w := hq 1 (by unfold wr10; rw [if_pos g])
      simp [e0, f1, f2, f4, h0]
      exact w
    by_cases h1 : 12 < z.length
    · have g : nameB (.str z) = false := by
        have : ¬ z.length ≤ 12 := by omega
        simp [nameB, this]
      have w := hq 1 (by unfold wr10; rw [if_pos g])
      have h1' : (12 : Int) < (z.length : Nat) := by omega
      simp [e0, f1, f2, f4, h0, h1']
      exact w
    have h1' : ¬ (12 : Int) < (z.length : Nat) := by omega
    have g1 : 1 ≤ z.length := by omega
    have g2 : z.length ≤ 12 := by omega
    have gn : nameB (.str z) = z.cps.toList.all inL := by simp [nameB, g1, g2]
    simp [e0, f1, f2, f4, h0, h1']
    unfold Nxt
    simp [e0, f3]
    refine ⟨by show z.cps.size ≤ _; exact hz, ?_⟩
    refine comp_filt (enc := sgnD) (f := sgnD) (p := fun c => !inL c) (fun c hc => ⟨_, rfl, ?_, fun _ => ?_⟩) ?_
    · simp [sgnD, dNotInS, inL, wipeR]
    · simp [wipeR]
    have gds : ((z.cps.toList.filter fun c => !inL c).map sgnD).all (gd 0) = true := by
      rw [List.all_eq_true]
      intro y hy
      obtain ⟨c, hc, rfl⟩ := List.mem_map.mp hy
      have hc := (List.mem_filter.mp hc).1
      have ok : (z.cps.all fun c => decide (c < 1114112)) = true := ok
      rw [← Array.all_toList, List.all_eq_true] at ok
      have := ok c hc
      show ((#[c] : Array Nat).all fun c => decide (c < 1114112)) = true
      rw [← Array.all_toList]
      simpa using this
    rw [dNe_nil10 gds (by decide)]
    have emp : ((z.cps.toList.filter fun c => !inL c).map sgnD).isEmpty = z.cps.toList.all inL := by
      generalize z.cps.toList = cs
      induction cs with
      | nil => rfl
      | cons c cs ih =>
        rw [List.filter_cons, List.all_cons]
        cases inL c with
        | true => simpa using ih
        | false => simp
    rw [emp]
    cases hn : z.cps.toList.all inL with
    | false =>
      rw [hn] at gn
      have w := hq 1 (by unfold wr10; rw [if_pos gn])
      simp
      exact w
    | true =>
      rw [hn] at gn
      simp
      unfold Nxt
      simp [e1, rd]
      cases hr : rndB ps with
      | false =>
        have w := hq 2 (by unfold wr10; rw [if_neg (by rw [gn]; decide), if_pos hr])
        simp
        exact w
      | true =>
        have wf : wr10 kind (.str z) ps c r p s = if (decide (0 < kind) && !massG 1 c) = true then 3 else if (decide (kind = 2) && !railB r) = true then 4 else if fineS p = false then 5 else if (decide (0 < kind) && !fineS s) = true then 6 else if (decide (kind = 2) && !decide (upT r s = 0)) = true then 6 else 0 := by
          unfold wr10
          rw [if_neg (by rw [gn]; decide), if_neg (by rw [hr]; decide)]
        rw [wf] at hq
        clear wf gds emp f4 f3 f2 f1
        simp
        unfold Nxt
        simp [e2]
        unfold Nxt
        have hk : kind = 0 ∨ kind = 1 ∨ kind = 2 := by omega
        rcases hk with rfl | rfl | rfl
        · -- a wall
          simp
          unfold Nxt
          simp
          unfold Nxt
          simp [e4, law_spot10 h.pl]
          cases f5 : fineS p with
          | false =>
            simp
            exact hq 5 (by simp [f5])
          | true =>
            simp
            unfold Nxt
            simp
            unfold Nxt
            simp
            unfold Nxt
            simp
            exact hq 0 (by simp [f5])
        · -- free
          simp [law_whole_any tyc]
          cases f3 : massG 1 c with
          | false =>
            have w : Q (.str "mass") () := hq 3 (by simp [f3])
            cases c with
            | int i =>
              simp [isWh]
              by_cases q : 1 ≤ i
              · refine .inl ⟨q, .inr ⟨?_, w⟩⟩
                apply Classical.byContradiction
                intro z
                have : massG 1 (.int i) = true := by unfold massG; simp; omega
                rw [this] at f3
                cases f3
              · exact .inr ⟨by omega, w⟩
            | _ => simp [isWh]; exact w
          | true =>
            obtain ⟨m, rfl, m0, m1⟩ := massG_form f3
            have n0 : ¬ m < 1 := by omega
            have n1 : ¬ 1000000 < m := by omega
            simp [isWh, n0, n1]
            unfold Nxt
            simp
            unfold Nxt
            simp [e4, law_spot10 h.pl]
            cases f5 : fineS p with
            | false =>
              simp
              exact hq 5 (by simp [f3, f5])
            | true =>
              simp
              unfold Nxt
              simp [e5, law_spot10 h.sp]
              cases f6 : fineS s with
              | false =>
                simp
                exact hq 6 (by simp [f3, f5, f6])
              | true =>
                simp
                unfold Nxt
                simp
                unfold Nxt
                simp
                exact hq 0 (by simp [f3, f5, f6])
        · -- railed
          simp [law_whole_any tyc]
          cases f3 : massG 1 c with
          | false =>
            have w : Q (.str "mass") () := hq 3 (by simp [f3])
            cases c with
            | int i =>
              simp [isWh]
              by_cases q : 1 ≤ i
              · refine .inl ⟨q, .inr ⟨?_, w⟩⟩
                apply Classical.byContradiction
                intro z
                have : massG 1 (.int i) = true := by unfold massG; simp; omega
                rw [this] at f3
                cases f3
              · exact .inr ⟨by omega, w⟩
            | _ => simp [isWh]; exact w
          | true =>
            obtain ⟨m, rfl, m0, m1⟩ := massG_form f3
            have n0 : ¬ m < 1 := by omega
            have n1 : ¬ 1000000 < m := by omega
            simp [isWh, n0, n1]
            unfold Nxt
            simp [e3, law_rail10 h.ra]
            cases f4 : railB r with
            | false =>
              simp
              exact hq 4 (by simp [f3, f4])
            | true =>
              simp
              unfold Nxt
              simp [e4, law_spot10 h.pl]
              cases f5 : fineS p with
              | false =>
                simp
                exact hq 5 (by simp [f3, f4, f5])
              | true =>
                simp
                unfold Nxt
                simp [e5, law_spot10 h.sp]
                cases f6 : fineS s with
                | false =>
                  simp
                  exact hq 6 (by simp [f3, f4, f5, f6])
                | true =>
                  have wq : ∀ b, decide (upT r s = 0) = b → Q (.str (pn9 (if b = false then 6 else 0))) () := fun b hb => hq _ (by simp [f3, f4, f5, f6, hb])
                  obtain ⟨p', q, er, hp, hqq, _⟩ := railB_form f4
                  obtain ⟨x, y, zz, w, es, hb, he, sa, sb, sc, se, _⟩ := fineS_form f6
                  have r0 : dIx r (.int 0) = some (.int p') := by rw [er]; rfl
                  have r1 : dIx r (.int 1) = some (.int q) := by rw [er]; rfl
                  have s0 : dIx s (.int 0) = some (.tup [.int x, .int y]) := by rw [es]; rfl
                  have s1 : dIx s (.int 1) = some (.tup [.int zz, .int w]) := by rw [es]; rfl
                  have x0 : atI [D.int x, D.int y] 0 = some (.int x) := rfl
                  have x1 : atI [D.int x, D.int y] 1 = some (.int y) := rfl
                  have z0 : atI [D.int zz, D.int w] 0 = some (.int zz) := rfl
                  have z1 : atI [D.int zz, D.int w] 1 = some (.int w) := rfl
                  have p1 : p'.natAbs < 2 ^ 20 := by omega
                  have q1 : q.natAbs < 2 ^ 20 := by omega
                  have m1 : mulOk q x = true := small_mul q1 sa (by decide) (by decide) (by decide)
                  have m2 : mulOk (q * x) w = true := small_mul (mul_bits q1 sa) se (by decide) (by decide) (by decide)
                  have m3 : mulOk p' zz = true := small_mul p1 sc (by decide) (by decide) (by decide)
                  have m4 : mulOk (p' * zz) y = true := small_mul (mul_bits p1 sc) sb (by decide) (by decide) (by decide)
                  have eu : upT r s = p' * zz * y - q * x * w := by rw [er, es]; rfl
                  rw [eu] at wq
                  clear hq
                  simp
                  unfold Nxt
                  simp [e5, s0]
                  unfold Nxt
                  simp [e5, s1]
                  unfold Nxt
                  simp [e3, r0, r1, x0, x1, z0, z1, m1, m2, m3, m4]
                  by_cases qe : p' * zz * y = q * x * w
                  · refine .inl ⟨qe, ?_⟩
                    exact wq true (decide_eq_true (by omega))
                  · exact .inr ⟨qe, wq false (decide_eq_false (by omega))⟩
  · have g : nameB a = false := by
      cases a <;> first
        | rfl
        | exact absurd ⟨_, rfl⟩ q
    have w := hq 1 (by unfold wr10; rw [if_pos g])
    have e := isi_str (T9_ty H) fun z hz => q ⟨z, hz⟩
    simp [e0, fIsi, e]
    exact w
abbrev STL : D := .tup [.tup [.int 0, .int 1], .tup [.int 0, .int 1]]
theorem stl_fine : fineS STL = true := by
  show (fineB (.tup [.int 0, .int 1]) && fineB (.tup [.int 0, .int 1])) = true
  have : fineB (.tup [.int 0, .int 1]) = true := by rw [fineB_M]; decide +kernel
  rw [this]; rfl
theorem stl_goes (r : D) : goesB (.int 0) r STL = true := by
  unfold goesB
  rw [if_pos (show zeroB (.int 0) = true from rfl)]
  unfold stlB
  rw [show dEq STL (.tup [.tup [.int 0, .int 1], .tup [.int 0, .int 1]]) = some (.bl true) from dEq_self (n := 2) rfl]
theorem shp_pts (ps : List (Int × Int)) (hp : ∀ q ∈ ps, Pb9 q) : shpB (.lst (ps.map pt)) = rndB ps := by
  have e1 : (ps.map pt).map cpt = ps := by rw [List.map_map]; exact List.map_id'' (fun q => rfl) ps
  have e2 : (ps.map pt).all crn = true := by
    rw [List.all_eq_true]
    intro x hx
    obtain ⟨q, hq, rfl⟩ := List.mem_map.mp hx
    exact crn_pt9 (hp q hq)
  show ((decide (3 ≤ (ps.map pt).length) && decide ((ps.map pt).length ≤ 8)) && ((ps.map pt).all crn && sqv ((ps.map pt).map cpt))) = _
  rw [e1, e2, List.length_map, Bool.true_and]
  rfl
theorem pts_pts (ps : List (Int × Int)) : pts9 (.lst (ps.map pt)) = rotP ps := by
  have e1 : (ps.map pt).map cpt = ps := by rw [List.map_map]; exact List.map_id'' (fun q => rfl) ps
  show rotP ((ps.map pt).map cpt) = _
  rw [e1]
theorem okC_pts (ps : List (Int × Int)) : okC (.lst (ps.map pt)) = true := by
  refine Bool.and_eq_true_iff.mpr ⟨rfl, ?_⟩
  show (ps.map pt).all okT = true
  rw [List.all_eq_true]
  intro x hx
  obtain ⟨q, _, rfl⟩ := List.mem_map.mp hx
  rfl
theorem wr_wall {a : D} {ps : List (Int × Int)} {c r p s : D} (hp : ∀ q ∈ ps, Pb9 q) : wrG 0 false a (.lst (ps.map pt)) (.int 0) .non p STL = wr10 0 a ps c r p s := by
  unfold wrG wr10
  rw [shp_pts ps hp, stl_fine, stl_goes]
  simp [massG, MM.isN]
theorem isN_rail {r : D} (h : railB r = true) : isN r = false := by
  obtain ⟨p, q, rfl, _⟩ := railB_form h
  rfl
theorem zero_mass {c : D} (h : massG 1 c = true) : zeroB c = false := by
  obtain ⟨m, rfl, h1, h2⟩ := massG_form h
  unfold zeroB
  exact decide_eq_false (by omega)
theorem wr_free {a : D} {ps : List (Int × Int)} {c r p s : D} (hp : ∀ q ∈ ps, Pb9 q) : wrG 1 false a (.lst (ps.map pt)) c .non p s = wr10 1 a ps c r p s := by
  unfold wrG wr10
  rw [shp_pts ps hp]
  cases e : massG 1 c with
  | false => simp
  | true =>
    have g : goesB c .non s = true := by
      unfold goesB
      rw [if_neg (by rw [zero_mass e]; decide)]
      rfl
    rw [g]
    simp [MM.isN]
theorem wr_rail {a : D} {ps : List (Int × Int)} {c r p s : D} (hp : ∀ q ∈ ps, Pb9 q) : wrG 1 true a (.lst (ps.map pt)) c r p s = wr10 2 a ps c r p s := by
  unfold wrG wr10
  rw [shp_pts ps hp]
  cases e : massG 1 c with
  | false => simp
  | true =>
    rw [zero_mass e]
    cases er : railB r with
    | false =>
      cases hr : isN r <;> simp
    | true =>
      have g : goesB c r s = decide (upT r s = 0) := by
        unfold goesB
        rw [if_neg (by rw [zero_mass e]; decide)]
        obtain ⟨p, q, rfl, _⟩ := railB_form er
        rfl
      rw [g, isN_rail er]
      simp
      cases fineS s <;> simp
def A10 : Nat → D → Bool
  | _, .non => true
  | _, .int _ => true
  | _, .str z => PyData.canLay0 (.str z)
  | n + 1, .tup xs => decide (xs.length ≤ 64) && xs.all (A10 n)
  | _, _ => false
theorem A10.tup {n : Nat} {xs : List D} (hl : xs.length ≤ 64) (h : ∀ x ∈ xs, A10 n x = true) : A10 (n + 1) (.tup xs) = true := Bool.and_eq_true_iff.mpr ⟨decide_eq_true hl, List.all_eq_true.mpr h⟩
theorem A10.tup_of {n : Nat} {xs : List D} (h : A10 (n + 1) (.tup xs) = true) : xs.length ≤ 64 ∧ ∀ x ∈ xs, A10 n x = true := by
  obtain ⟨h1, h2⟩ := Bool.and_eq_true_iff.mp h
  exact ⟨of_decide_eq_true h1, fun x hx => List.all_eq_true.mp h2 x hx⟩
theorem zip_self10 (xs : List D) : zipD xs xs = xs.map fun x => .tup [x, x] := by
  unfold zipD
  induction xs with
  | nil => rfl
  | cons x xs ih => rw [List.zipWith_cons_cons, List.map_cons, ih]
theorem alike10_scal {mf : List D → Unit → Res Unit D} {d : D} (h : A10 0 d = true) : runB 4 (b__law_alike mf) [d, d] () = .ok (.bl true) () := by
  apply oE_eq
  cases d <;> first
    | (cases h; done)
    | skip
  · have e1 : fIsi [.non, .ty "tuple"] = some (.bl false) := rfl
    have e2 : dIs .non .non = some (.bl true) := rfl
    unfold b__law_alike
    simp [e1]
    unfold Nxt
    simp [e2]
  · rename_i i
    have e1 : fIsi [.int i, .ty "tuple"] = some (.bl false) := rfl
    have e2 : dIs (.int i) .non = some (.bl false) := rfl
    have e5 : fIsi [.int i, .ty "int"] = some (.bl true) := rfl
    have e6 := law_whole_any (d := .int i) rfl
    unfold b__law_alike
    simp [e1]
    unfold Nxt
    simp [e2]
    unfold Nxt
    simp [e5, e6, isWh]
  · rename_i z
    have e1 : fIsi [.str z, .ty "tuple"] = some (.bl false) := rfl
    have e2 : dIs (.str z) .non = some (.bl false) := rfl
    have e5 : fIsi [.str z, .ty "int"] = some (.bl false) := rfl
    have e6 : fIsi [.str z, .ty "str"] = some (.bl true) := rfl
    have e7 : dEq (.str z) (.str z) = some (.bl true) := dEq_self (n := 0) h
    unfold b__law_alike
    simp [e1]
    unfold Nxt
    simp [e2]
    unfold Nxt
    simp [e5]
    unfold Nxt
    simp [e6, e7]
theorem alike10 : ∀ (n : Nat) (d : D), A10 n d = true → mr__law_alike (n + 1) [d, d] () = .ok (.bl true) () := by
  intro n
  induction n with
  | zero => intro d h; exact alike10_scal h
  | succ n ih =>
    intro d h
    show runB 4 (b__law_alike (mr__law_alike (n + 1))) [d, d] () = _
    by_cases q : ∃ xs, d = .tup xs
    · obtain ⟨xs, rfl⟩ := q
      obtain ⟨a, b⟩ := A10.tup_of h
      apply oE_eq
      have e2 : fIsi [.tup xs, .ty "tuple"] = some (.bl true) := rfl
      have e3 : (zipD xs xs).length = xs.length := by rw [zip_self10, List.length_map]
      unfold b__law_alike
      simp [e2]
      unfold Nxt
      simp [e3]
      refine ⟨by omega, ?_⟩
      rw [zip_self10]
      refine comp_map (enc := fun x => .tup [x, x]) (f := fun _ => .bl true) (fun x hx => ⟨_, rfl, ?_⟩) ?_
      · simp [wipeR, ih x (b x hx)]
      · refine ⟨xs.map fun _ => true, bls_all9 xs fun _ => true, by simp⟩
    · refine alike10_scal ?_
      cases d <;> first
        | rfl
        | exact h
        | exact absurd ⟨_, rfl⟩ q
theorem alike_ok10 {d : D} (h : A10 7 d = true) : m__law_alike [d, d] () = .ok (.bl true) () := alike10 7 d h
theorem A10.up : ∀ {n m : Nat} {d : D}, A10 n d = true → n ≤ m → A10 m d = true
  | n, 0, d, h, hm => by rw [Nat.le_zero.mp hm] at h; exact h
  | 0, m + 1, d, h, hm => by
    cases d <;> first
      | rfl
      | (cases h; done)
      | exact h
  | n + 1, m + 1, d, h, hm => by
    cases d <;> first
      | rfl
      | (cases h; done)
      | exact h
      | skip
    obtain ⟨a, b⟩ := A10.tup_of h
    exact A10.tup a fun x hx => A10.up (b x hx) (by omega)
def due10 (kind : Int) (a : D) (ps : List (Int × Int)) (c r p s : D) : D :=
  if kind = 0 then .tup [a, .tup ((rotP ps).map pt), .int 0, .non, p, STL] else if kind = 1 then .tup [a, .tup ((rotP ps).map pt), c, .non, p, s] else .tup [a, .tup ((rotP ps).map pt), c, r, p, s]
theorem law_due10 {kind : Int} {a : D} {ps : List (Int × Int)} {c r p s : D} (h0 : 0 < ps.length) (hl : ps.length ≤ 60) : m__law_due [.int kind, .lst [a, .lst (ps.map pt), c, r, p, s]] () = .ok (due10 kind a ps c r p s) () := by
  have e0 : atI [a, .lst (ps.map pt), c, r, p, s] 0 = some a := rfl
  have e1 : atI [a, .lst (ps.map pt), c, r, p, s] 1 = some (.lst (ps.map pt)) := rfl
  have e2 : atI [a, .lst (ps.map pt), c, r, p, s] 2 = some c := rfl
  have e3 : atI [a, .lst (ps.map pt), c, r, p, s] 3 = some r := rfl
  have e4 : atI [a, .lst (ps.map pt), c, r, p, s] 4 = some p := rfl
  have e5 : atI [a, .lst (ps.map pt), c, r, p, s] 5 = some s := rfl
  obtain ⟨m1, m2⟩ := mn_idx (ps := ps) h0
  have ml := mi_lt (ps := ps) h0
  have c1 := cut9_lo (α := ps.map pt) (j := mi ps) (by rw [List.length_map]; omega)
  have c2 := cut9_hi (α := ps.map pt) (j := mi ps) (by rw [List.length_map]; omega)
  have d1 : dCutA (.lst (ps.map pt)) (some (mi ps : Nat)) none = some (.lst ((ps.map pt).drop (mi ps))) := by rw [← c1]; rfl
  have d2 : dCutA (.lst (ps.map pt)) none (some (mi ps : Nat)) = some (.lst ((ps.map pt).take (mi ps))) := by rw [← c2]; rfl
  have er : (ps.map pt).drop (mi ps) ++ (ps.map pt).take (mi ps) = (rotP ps).map pt := by unfold rotP; rw [List.map_append, List.map_drop, List.map_take]
  have e6 : fTup [.lst ((rotP ps).map pt)] = some (.tup ((rotP ps).map pt)) := rfl
  apply oE_eq
  unfold m__law_due b__law_due
  obtain ⟨R, hR⟩ : ∃ R, R = due10 kind a ps c r p s := ⟨_, rfl⟩
  rw [← hR]
  simp [e1, m1, m2]
  unfold Nxt
  simp [e1, d1, d2]
  refine ⟨by omega, ?_⟩
  rw [er]
  unfold Nxt
  by_cases k0 : kind = 0
  · simp [k0, e0, e4]
    rw [hR, due10, if_pos k0]
  · simp [k0]
    unfold Nxt
    by_cases k1 : kind = 1
    · simp [k1, e0, e4, e2, e5]
      rw [hR, due10, if_neg k0, if_pos k1]
    · simp [k1]
      unfold Nxt
      simp [e0, e2, e3, e4, e5]
      rw [hR, due10, if_neg k0, if_neg k1]
theorem bl3 (x y z u v w : Bool) : dEq (.lst [.bl x, .bl y, .bl z]) (.lst [.bl u, .bl v, .bl w]) = some (.bl (decide (x = u) && (decide (y = v) && decide (z = w)))) := by
  simp [dEq, eqD, py, pys, SeqAt.shaped, PyData.canLay0, PyData.canLayAll0, PyData.depth, PyData.depthAll, PyData.eqv, PyData.eqvAll]
  cases x <;> cases y <;> cases z <;> cases u <;> cases v <;> cases w <;> rfl
def pk (l : Bool) (d e : D) : D := if l = true then d else e
theorem wall10 {a b p : D} {Q : D → Unit → Prop} {X : Str → Fds → Unit → Prop} (h : oE (m_look_parts [.tup [a, b, .int 0, .non, p, STL], .int 0, .bl false] ()) Q X) : oE (m_wall [a, b, p] ()) Q X := by
  unfold m_wall b_wall
  simp
  exact h
theorem free10 {a b c p s : D} {Q : D → Unit → Prop} {X : Str → Fds → Unit → Prop} (h : oE (m_look_parts [.tup [a, b, c, .non, p, s], .int 1, .bl false] ()) Q X) : oE (m_free [a, b, c, p, s] ()) Q X := by
  unfold m_free b_free
  simp [pickL]
  exact h
theorem rail10 {a b r c p s : D} {Q : D → Unit → Prop} {X : Str → Fds → Unit → Prop} (h : oE (m_look_parts [.tup [a, b, c, r, p, s], .int 1, .bl true] ()) Q X) : oE (m_railed [a, b, r, c, p, s] ()) Q X := by
  unfold m_railed b_railed
  simp [pickL]
  exact h
theorem made10 {kind : Int} (hk0 : 0 ≤ kind) (hk2 : kind ≤ 2) {a b c r p s : D} {l0 l1 l2 tu : Bool} {Q : D → Unit → Prop} {X : Str → Fds → Unit → Prop}
    (h0 : kind = 0 → oE (m_look_parts [.tup [a, b, .int 0, .non, pk l1 STL p, STL], .int 0, .bl false] ()) Q X)
    (h1 : kind = 1 → oE (m_look_parts [.tup [a, b, pk l0 (.int 1) c, .non, pk l1 STL p, pk l2 STL s], .int 1, .bl false] ()) Q X)
    (h2 : kind = 2 → oE (m_look_parts [.tup [a, b, pk l0 (.int 1) c, r, pk l1 STL p, pk l2 STL s], .int 1, .bl true] ()) Q X) :
    oE (m__law_made [.int kind, .lst [a, b, c, r, p, s], .lst [.bl l0, .bl l1, .bl l2], .bl tu] ()) Q X := by
  have e0 : atI [a, b, c, r, p, s] 0 = some a := rfl
  have e1 : atI [a, b, c, r, p, s] 1 = some b := rfl
  have e2 : atI [a, b, c, r, p, s] 2 = some c := rfl
  have e3 : atI [a, b, c, r, p, s] 3 = some r := rfl
  have e4 : atI [a, b, c, r, p, s] 4 = some p := rfl
  have e5 : atI [a, b, c, r, p, s] 5 = some s := rfl
  have f1 : atI [D.bl l0, D.bl l1, D.bl l2] 1 = some (.bl l1) := rfl
  unfold m__law_made b__law_made
  have hk : kind = 0 ∨ kind = 1 ∨ kind = 2 := by omega
  rcases hk with rfl | rfl | rfl
  · have h := h0 rfl
    simp
    unfold Nxt
    simp
    unfold Nxt
    cases l1 with
    | true =>
      simp [f1, e0, e1]
      exact wall10 h
    | false =>
      simp [f1, e0, e1]
      unfold Nxt
      simp [e0, e1, e4, pickL]
      exact wall10 h
  · have h := h1 rfl
    simp
    unfold m__law_free_made b__law_free_made
    cases l0 <;> cases l1 <;> cases l2 <;> cases tu
    all_goals
      simp [bl3, e0, e1, e2, e4, e5, pickL]
      repeat (first | exact free10 h | (unfold Nxt; simp [bl3, e0, e1, e2, e4, e5, pickL]))
  · have h := h2 rfl
    simp
    unfold Nxt
    simp
    unfold m__law_railed_made b__law_railed_made
    cases l0 <;> cases l1 <;> cases l2 <;> cases tu
    all_goals
      simp [bl3, e0, e1, e2, e3, e4, e5, pickL]
      repeat (first | exact rail10 h | (unfold Nxt; simp [bl3, e0, e1, e2, e3, e4, e5, pickL]))
theorem dNe_strs10 {x y : Str} (hx : PyData.canLay0 (.str x) = true) (hy : PyData.canLay0 (.str y) = true) (hn : PyData.eqv (.str x) (.str y) = false) : dNe (.str x) (.str y) = some (.bl true) := by
  have sx : SeqAt.shaped (.str x) = true := Bool.and_eq_true_iff.mpr ⟨hx, rfl⟩
  have sy : SeqAt.shaped (.str y) = true := Bool.and_eq_true_iff.mpr ⟨hy, rfl⟩
  show (eqD (.str x) (.str y)).map _ = _
  unfold eqD
  show Option.map _ (if SeqAt.shaped (.str x) = true ∧ SeqAt.shaped (.str y) = true then some (PyData.eqv (.str x) (.str y)) else none) = _
  rw [if_pos ⟨sx, sy⟩, hn]
  rfl
theorem pn_ne10 {w : Nat} (h : w ≠ 0) (h6 : w ≤ 6) : dNe (.str (pn9 w)) (.str "") = some (.bl true) := by
  have : w = 1 ∨ w = 2 ∨ w = 3 ∨ w = 4 ∨ w = 5 ∨ w = 6 := by omega
  rcases this with rfl | rfl | rfl | rfl | rfl | rfl <;> exact dNe_strs10 (by decide +kernel) (by decide +kernel) (by decide +kernel)
theorem pn_T10 (w : Nat) : PyData.canLay0 (.str (pn9 w)) = true := by
  unfold pn9
  split <;> decide +kernel
theorem set_step {l0 l1 l2 l : Bool} {i j : Int} {n : Nat} {d : D} {xs xs' : List D} {md : ME Unit D} {b : MS Unit} {ρ : Rho} {P : Pt Unit} (h2 : ρ[2]? = some (.val (.lst [.bl l0, .bl l1, .bl l2]))) (h4 : ρ[4]? = some (.own xs)) (e : atI [D.bl l0, .bl l1, .bl l2] i = some (.bl l)) (hx : ixN xs.length j = some n) (hd : md ρ () = .ok d ()) (hxs : (if l = true then xs.set n d else xs) = xs') (h : Nxt b (ρ.set 4 (.own xs')) () P) :
    oS (sSeq (sIf (e1 truth (e2 dIx (eVarW 2) (eC (.int i)))) (sSetI 4 md (eC (.int j))) sSkip) b ρ ()) P := by
  rw [← hxs] at h
  have same : ρ.set 4 (.own xs) = ρ := by
    apply List.ext_getElem?
    intro k
    by_cases q : k = 4
    · subst q
      rw [List.getElem?_set_self (by
        apply Classical.byContradiction
        intro z
        rw [List.getElem?_eq_none (by omega)] at h4
        cases h4), h4]
    · rw [List.getElem?_set_ne (fun z => q z.symm)]
  cases l with
  | true =>
    simp [h2, h4, e, hd, hx]
    exact h
  | false =>
    simp [h2, h4, e]
    rw [if_neg (by decide), same] at h
    exact h
theorem nameB_A {a : D} (ht : T9 4 a = true) (h : nameB a = true) : A10 0 a = true := by
  cases a <;> first
    | (cases h; done)
    | exact (T9.str_of ht).1
theorem fineS_A {p : D} (h : fineS p = true) : A10 2 p = true := by
  obtain ⟨a, b, c, e, rfl, _⟩ := fineS_form h
  rfl
theorem rot_A (ps : List (Int × Int)) (hl : ps.length ≤ 60) : A10 2 (.tup ((rotP ps).map pt)) = true := by
  refine A10.tup ?_ fun x hx => ?_
  · unfold rotP
    rw [List.length_map, List.length_append, List.length_drop, List.length_take]
    omega
  · obtain ⟨q, _, rfl⟩ := List.mem_map.mp hx
    rfl
theorem due_A {kind : Int} {a : D} {ps : List (Int × Int)} {c r p s : D} (H : Th10 a ps c r p s) (hk0 : 0 ≤ kind) (hk2 : kind ≤ 2) (w : wr10 kind a ps c r p s = 0) : A10 7 (due10 kind a ps c r p s) = true := by
  have hn : nameB a = true := by
    cases e : nameB a with
    | true => rfl
    | false => unfold wr10 at w; rw [if_pos e] at w; cases w
  have ha := A10.up (nameB_A H.na hn) (show 0 ≤ 6 by decide)
  have hr := A10.up (rot_A ps H.co.2) (show 2 ≤ 6 by decide)
  have hk : kind = 0 ∨ kind = 1 ∨ kind = 2 := by omega
  have hp : fineS p = true := by
    cases e : fineS p with
    | true => rfl
    | false =>
      unfold wr10 at w
      rw [e] at w
      split at w
      · cases w
      split at w
      · cases w
      split at w
      · cases w
      split at w
      · cases w
      · cases w
  have hpa := A10.up (fineS_A hp) (show 2 ≤ 6 by decide)
  rcases hk with rfl | rfl | rfl
  · unfold due10
    rw [if_pos rfl]
    refine A10.tup (by simp) fun x hx => ?_
    simp at hx
    rcases hx with rfl | rfl | rfl | rfl | rfl | rfl
    · exact ha
    · exact hr
    · rfl
    · rfl
    · exact hpa
    · rfl
  · have hm : massG 1 c = true := by
      cases e : massG 1 c with
      | true => rfl
      | false =>
        unfold wr10 at w
        rw [e] at w
        split at w
        · cases w
        split at w
        · cases w
        · cases w
    have hs : fineS s = true := by
      cases e : fineS s with
      | true => rfl
      | false =>
        unfold wr10 at w
        rw [hm, hp, e] at w
        split at w
        · cases w
        split at w
        · cases w
        · cases w
    obtain ⟨m, rfl, _⟩ := massG_form hm
    have hsa := A10.up (fineS_A hs) (show 2 ≤ 6 by decide)
    unfold due10
    rw [if_neg (by decide), if_pos rfl]
    refine A10.tup (by simp) fun x hx => ?_
    simp at hx
    rcases hx with rfl | rfl | rfl | rfl | rfl | rfl
    · exact ha
    · exact hr
    · rfl
    · rfl
    · exact hpa
    · exact hsa
  · have hm : massG 1 c = true := by
      cases e : massG 1 c with
      | true => rfl
      | false =>
        unfold wr10 at w
        rw [e] at w
        split at w
        · cases w
        split at w
        · cases w
        · cases w
    have hrl : railB r = true := by
      cases e : railB r with
      | true => rfl
      | false =>
        unfold wr10 at w
        rw [hm, e] at w
        split at w
        · cases w
        split at w
        · cases w
        · cases w
    have hs : fineS s = true := by
      cases e : fineS s with
      | true => rfl
      | false =>
        unfold wr10 at w
        rw [hm, hrl, hp, e] at w
        split at w
        · cases w
        split at w
        · cases w
        · cases w
    obtain ⟨m, rfl, _⟩ := massG_form hm
    obtain ⟨u, v, rfl, _⟩ := railB_form hrl
    have hsa := A10.up (fineS_A hs) (show 2 ≤ 6 by decide)
    unfold due10
    rw [if_neg (by decide), if_neg (by decide)]
    refine A10.tup (by simp) fun x hx => ?_
    simp at hx
    rcases hx with rfl | rfl | rfl | rfl | rfl | rfl
    · exact ha
    · exact hr
    · rfl
    · rfl
    · exact hpa
    · exact hsa
theorem made_out {kind : Int} (hk0 : 0 ≤ kind) (hk2 : kind ≤ 2) {a : D} {ps : List (Int × Int)} {c r p s : D} {l0 l1 l2 tu : Bool} (H : Th10 a ps c r p s) (H2 : Th10 a ps (pk l0 (.int 1) c) r (pk l1 STL p) (pk l2 STL s)) {Q : D → Unit → Prop} {X : Str → Fds → Unit → Prop}
    (h1 : wr10 kind a ps (pk l0 (.int 1) c) r (pk l1 STL p) (pk l2 STL s) = 0 → Q (due10 kind a ps (pk l0 (.int 1) c) r (pk l1 STL p) (pk l2 STL s)) ())
    (h2 : ∀ w, wr10 kind a ps (pk l0 (.int 1) c) r (pk l1 STL p) (pk l2 STL s) = w → w ≠ 0 → X "BadRow" (some (["part"], [.str (pn9 w)])) ()) :
    oE (m__law_made [.int kind, .lst [a, .lst (ps.map pt), c, r, p, s], .lst [.bl l0, .bl l1, .bl l2], .bl tu] ()) Q X := by
  have pe := pts_pts ps
  refine made10 hk0 hk2 (fun k => ?_) (fun k => ?_) fun k => ?_
  · subst k
    refine look_partsG (by decide) ⟨H.na, okC_pts ps, rfl, rfl, H2.pl, rfl⟩ (fun w => ?_) fun w e => ?_
    · rw [wr_wall (c := pk l0 (.int 1) c) (r := r) (s := pk l2 STL s) H.co.1] at w
      have := h1 w
      rw [due10, if_pos rfl] at this
      rw [pe]
      exact this
    · rw [wr_wall (c := pk l0 (.int 1) c) (r := r) (s := pk l2 STL s) H.co.1] at e
      exact h2 w e
  · subst k
    refine look_partsG (by decide) ⟨H.na, okC_pts ps, T9_ty H2.ma, rfl, H2.pl, H2.sp⟩ (fun w => ?_) fun w e => ?_
    · rw [wr_free (r := r) H.co.1] at w
      have := h1 w
      rw [due10, if_neg (by decide), if_pos rfl] at this
      rw [pe]
      exact this
    · rw [wr_free (r := r) H.co.1] at e
      exact h2 w e
  · subst k
    refine look_partsG (by decide) ⟨H.na, okC_pts ps, T9_ty H2.ma, H2.ra, H2.pl, H2.sp⟩ (fun w => ?_) fun w e => ?_
    · rw [wr_rail H.co.1] at w
      have := h1 w
      rw [due10, if_neg (by decide), if_neg (by decide)] at this
      rw [pe]
      exact this
    · rw [wr_rail H.co.1] at e
      exact h2 w e
theorem th_pk {a : D} {ps : List (Int × Int)} {c r p s : D} (H : Th10 a ps c r p s) (l0 l1 l2 : Bool) : Th10 a ps (pk l0 (.int 1) c) r (pk l1 STL p) (pk l2 STL s) := ⟨H.na, H.co, by cases l0; exact H.ma; rfl, H.ra, by cases l1; exact H.pl; rfl, by cases l2; exact H.sp; rfl⟩
theorem rnd_pos {kind : Int} {a : D} {ps : List (Int × Int)} {c r p s : D} (w : wr10 kind a ps c r p s = 0) : 0 < ps.length := by
  unfold wr10 at w
  split at w
  · cases w
  split at w
  · cases w
  · rename_i h
    unfold rndB at h
    by_cases q : 3 ≤ ps.length
    · omega
    · rw [decide_eq_false q] at h
      simp at h
theorem held10 {kind : Int} (hk0 : 0 ≤ kind) (hk2 : kind ≤ 2) {a : D} {ps : List (Int × Int)} {c r p s : D} {l0 l1 l2 tu : Bool} (H : Th10 a ps c r p s) : m__law_held [.int kind, .lst [a, .lst (ps.map pt), c, r, p, s], .lst [.bl l0, .bl l1, .bl l2], .bl tu] () = .ok (.bl true) () := by
  have H2 := th_pk H l0 l1 l2
  have f1 : fLst [.lst [a, .lst (ps.map pt), c, r, p, s]] = some [a, .lst (ps.map pt), c, r, p, s] := rfl
  have i1 : atI [a, .lst (ps.map pt), c, r, p, s] 1 = some (.lst (ps.map pt)) := rfl
  have f2 : fLst [.lst (ps.map pt)] = some (ps.map pt) := rfl
  have gp : gd 2 (.lst (ps.map pt)) = true := by
    show (ps.map pt).all (gd 1) = true
    rw [List.all_eq_true]
    intro x hx
    obtain ⟨q, _, rfl⟩ := List.mem_map.mp hx
    rfl
  have n1 : dNe (.lst (ps.map pt)) (.lst (ps.map pt)) = some (.bl false) := dNe_self gp
  have hmk := fun Q X h1 h2 => made_out (tu := tu) hk0 hk2 H H2 (Q := Q) (X := X) h1 h2
  apply oE_eq
  unfold m__law_held b__law_held
  rw [oE_run, oS_seq, oS_own]
  simp only [oE_e1, oE_cons, oE_nil, List.map_cons, List.map_nil, List.cons_append, List.nil_append, oE_varW, List.getElem?_cons_succ, List.getElem?_cons_zero, f1, Option.some.injEq, exists_eq_left']
  unfold Nxt
  refine set_step (l := l0) (n := 2) (d := .int 1) (xs' := [a, .lst (ps.map pt), pk l0 (.int 1) c, r, p, s]) rfl rfl rfl rfl rfl (by cases l0 <;> rfl) ?_
  unfold Nxt
  refine set_step (l := l1) (n := 4) (d := STL) (xs' := [a, .lst (ps.map pt), pk l0 (.int 1) c, r, pk l1 STL p, s]) rfl rfl rfl rfl rfl (by cases l1 <;> rfl) ?_
  unfold Nxt
  refine set_step (l := l2) (n := 5) (d := STL) (xs' := [a, .lst (ps.map pt), pk l0 (.int 1) c, r, pk l1 STL p, pk l2 STL s]) rfl rfl rfl rfl rfl (by cases l2 <;> rfl) ?_
  have hd := due_A H2 hk0 hk2
  have ld := fun h => law_due10 (kind := kind) (a := a) (ps := ps) (c := pk l0 (.int 1) c) (r := r) (p := pk l1 STL p) (s := pk l2 STL s) h H.co.2
  have rp := fun w => rnd_pos (kind := kind) (a := a) (ps := ps) (c := pk l0 (.int 1) c) (r := r) (p := pk l1 STL p) (s := pk l2 STL s) w
  have lw := fun Q X h => law_wrong10 H2 hk0 hk2 (Q := Q) (X := X) h
  have wl : wr10 kind a ps (pk l0 (.int 1) c) r (pk l1 STL p) (pk l2 STL s) ≤ 6 := by
    unfold wr10
    repeat (first | split | decide)
  have pl : ps.length ≤ 60 := H.co.2
  generalize pk l0 (.int 1) c = c' at *
  generalize pk l1 STL p = p' at *
  generalize pk l2 STL s = s' at *
  generalize wr10 kind a ps c' r p' s' = w at *
  generalize due10 kind a ps c' r p' s' = U at *
  unfold Nxt
  simp
  refine lw _ _ fun v e => ?_
  subst e
  unfold Nxt
  simp [i1, f2]
  unfold Nxt
  simp
  unfold Nxt
  simp
  unfold Nxt
  simp
  by_cases hw : w = 0
  · refine hmk _ _ (fun _ => ?_) fun v e hv => absurd (e.symm.trans hw) hv
    subst hw
    have ne : dNe (.str (pn9 0)) (.str "") = some (.bl false) := dNe_self (n := 0) (by decide +kernel)
    have d1 : dIs .non .non = some (.bl true) := rfl
    have ld := ld (rp rfl)
    have al := alike_ok10 (hd rfl)
    unfold Nxt
    simp [i1, n1]
    unfold Nxt
    simp [ne]
    unfold Nxt
    simp [d1, ld, al]
  · refine hmk _ _ (fun e => absurd e hw) fun v e hv => ?_
    subst e
    simp
    refine ⟨_, rfl, ?_⟩
    have ne := pn_ne10 hw wl
    have gt : gd 1 (.lst [.str (pn9 w), .bl true, .bl true, .bl false]) = true := by
      show ([D.str (pn9 w), .bl true, .bl true, .bl false]).all (gd 0) = true
      have : gd 0 (.str (pn9 w)) = true := pn_T10 w
      simp [gd, pn_T10]
    have eq : dEq (.lst [.str (pn9 w), .bl true, .bl true, .bl false]) (.lst [.str (pn9 w), .bl true, .bl true, .bl false]) = some (.bl true) := dEq_self gt
    have i0 : atI [D.str (pn9 w), .bl true, .bl true, .bl false] 0 = some (.str (pn9 w)) := rfl
    have is : fIsi [D.str (pn9 w), .ty "str"] = some (.bl true) := rfl
    unfold Nxt
    simp [i1, n1]
    unfold Nxt
    simp [ne, eq, i0, is]
def Sg (d : D) : Prop := ∃ a b : Int, d = .tup [.int a, .int b] ∧ 1 ≤ b ∧ a.natAbs < 2 ^ 300 ∧ b.natAbs < 2 ^ 300
theorem share_wp10 {ns : List Int} {a : Addr} {n : Nat} {t : Dk} {Q : D → Dk → Prop} {X : Str → Fds → Dk → Prop} (g : Gd ns a n t) (hc : n < 10000000000) (h : ∀ (d : D) (t' : Dk), Sg d → Gd ns a (n + 10) t' → Q d t') :
    oE (m__law_share [.at a] t) Q X := by
  have ix : ∀ k : Int, 0 ≤ k → k < 3 → ∃ z : Int, atI [D.int 9, .int 1000000, .int 1000000000000000000000000000000000000000000000000000000000000] k = some (.int z) ∧ 0 ≤ z ∧ z ≤ 1000000000000000000000000000000000000000000000000000000000000 := fun k k0 k1 => by
    have : k = 0 ∨ k = 1 ∨ k = 2 := by omega
    rcases this with rfl | rfl | rfl
    · exact ⟨9, rfl, by decide, by decide⟩
    · exact ⟨1000000, rfl, by decide, by decide⟩
    · exact ⟨_, rfl, by decide, by decide⟩
  unfold m__law_share b__law_share
  simp
  refine ⟨by decide, by decide, ?_⟩
  refine take_wp g (by omega) (many_of (by decide) (by decide)) fun k t1 k0 k1 g1 => ?_
  obtain ⟨z, e, z0, z1⟩ := ix k k0 k1
  refine ⟨_, e, ?_⟩
  unfold Nxt
  simp
  refine ⟨by decide, number_wp g1 (by omega) (by decide) (by decide) fun r t2 r0 r1 g2 => ?_⟩
  refine ⟨by decide, take_wp g2 (by omega) (many_of (by decide) (by decide)) fun s t3 s0 s1 g3 => ?_⟩
  have pb : ((1 + s) ^ (12 : Int).toNat).natAbs < 2 ^ 250 := by
    rw [show (12 : Int).toNat = 12 from rfl, Int.natAbs_pow]
    exact Nat.lt_of_le_of_lt (Nat.pow_le_pow_left (show (1 + s).natAbs ≤ 2 ^ 20 by omega) 12) (by decide)
  have po : powOk (1 + s) 12 = true := decide_eq_true ⟨by decide, by decide, by omega⟩
  have m1 : mulOk r ((1 + s) ^ (12 : Int).toNat) = true := small_mul (a := 30) (b := 250) (by omega) pb (by decide) (by decide) (by decide)
  have m2 : mulOk 2 z = true := small_mul (a := 8) (b := 250) (by decide) (by omega) (by decide) (by decide) (by decide)
  have d1 : dAdd (.int 1) (.int s) = some (.int (1 + s)) := rfl
  have d2 : dPow (.int (1 + s)) (.int 12) = some (.int ((1 + s) ^ (12 : Int).toNat)) := by rw [dPow_some]; exact ⟨rfl, po⟩
  generalize (1 + s) ^ (12 : Int).toNat = p12 at pb m1 d2
  have d3 : dMulI (.int r) (.int p12) = some (.int (r * p12)) := by rw [dMul_some]; exact ⟨rfl, m1⟩
  generalize r * p12 = w at d3
  have z2 : 2 * z + 1 ≠ 0 := by omega
  have d4 : dMod (.int w) (.int (2 * z + 1)) = some (.int (w.fmod (2 * z + 1))) := by rw [dMod_some]; exact ⟨rfl, z2⟩
  have f := fmod_pos (a := w) (b := 2 * z + 1) (by omega)
  generalize w.fmod (2 * z + 1) = x at d4 f
  refine ⟨_, d1, _, d2, _, d3, m2, _, d4, _, rfl, ?_⟩
  unfold Nxt
  simp
  refine take_wp g3 (by omega) (many_of (by decide) (by decide)) fun u t4 u0 u1 g4 => ?_
  refine ⟨by decide, take_wp g4 (by omega) (many_of (by decide) (by decide)) fun v t5 v0 v1 g5 => ?_⟩
  have uv : u * v < 60 * 1000000 := by
    have h1 : u * v ≤ u * 1000000 := Int.mul_le_mul_of_nonneg_left (by omega) u0
    omega
  have uv0 : 0 ≤ u * v := Int.mul_nonneg u0 v0
  have m5 : mulOk u v = true := small_mul (a := 30) (b := 30) (by omega) (by omega) (by decide) (by decide) (by decide)
  simp [m5]
  generalize u * v = y at uv uv0
  unfold Nxt
  simp [law_gcd_ok]
  unfold Nxt
  simp
  obtain ⟨gp, gl⟩ := gcd_le9 (a := x - z) (b := 1 + y) (.inr (by omega))
  have q1 := fdiv_dvd gp (Int.gcd_dvd_left ..)
  have q2 := fdiv_dvd gp (Int.gcd_dvd_right ..)
  have gl2 := Int.gcd_le_natAbs_right (x - z) (show 1 + y ≠ 0 by omega)
  have od : ∀ x' : Int, divOk x' (Int.gcd (x - z) (1 + y) : Int) = true := fun x' => small_div (b := 60) (by omega) (by omega) (by decide) (by decide)
  have pos : 1 ≤ (1 + y).fdiv (Int.gcd (x - z) (1 + y) : Int) := by
    obtain ⟨c, hcc⟩ : (Int.gcd (x - z) (1 + y) : Int) ∣ (1 + y) := Int.gcd_dvd_right ..
    generalize (Int.gcd (x - z) (1 + y) : Int) = G at gp hcc
    rw [hcc, fdiv_gcd (by omega)]
    apply Classical.byContradiction
    intro hz
    have : G * c ≤ 0 := Int.mul_nonpos_of_nonneg_of_nonpos (by omega) (by omega)
    omega
  generalize (Int.gcd (x - z) (1 + y) : Int) = G at *
  have bz : ∀ {w : Int} {k : Nat}, w.natAbs ≤ k → k < 2 ^ 250 → w.natAbs < 2 ^ 300 := fun h1 h2 => Nat.lt_of_le_of_lt h1 (Nat.lt_trans h2 (by decide))
  refine ⟨od _, od _, h _ _ ⟨_, _, rfl, pos, bz q1 (by omega), bz q2 (by omega)⟩ (g5.le (by omega))⟩
theorem times10 {n : Int} (hn : n.natAbs ≤ 1000000) {x : D} (hx : ∃ a b : Int, x = .tup [.int a, .int b] ∧ 1 ≤ b ∧ a.natAbs < 2 ^ 300 ∧ b.natAbs < 2 ^ 300) : ∃ a b : Int, m__law_times [.int n, x] () = .ok (.tup [.int a, .int b]) () := by
  obtain ⟨a, b, rfl, hb, h1, h2⟩ := hx
  have e0 : atI [D.int a, D.int b] 0 = some (.int a) := rfl
  have e1 : atI [D.int a, D.int b] 1 = some (.int b) := rfl
  have m1 : mulOk n a = true := small_mul (a := 21) (b := 300) (by omega) h1 (by decide) (by decide) (by decide)
  have gp := Int.gcd_pos_of_ne_zero_right (n * a) (show b ≠ 0 by omega)
  have gl2 := Int.gcd_le_natAbs_right (n * a) (show b ≠ 0 by omega)
  have od : ∀ x' : Int, divOk x' (Int.gcd (n * a) b : Int) = true := fun x' => small_div (b := 300) (by omega) (by
    have : ((Int.gcd (n * a) b : Int)).natAbs = Int.gcd (n * a) b := rfl
    rw [this]
    exact Nat.lt_of_le_of_lt gl2 h2) (by decide) (by decide)
  refine ⟨(n * a).fdiv (Int.gcd (n * a) b : Int), b.fdiv (Int.gcd (n * a) b : Int), oE_eq ?_⟩
  unfold m__law_times b__law_times
  simp [e0, e1, law_gcd_ok]
  refine ⟨m1, ?_⟩
  unfold Nxt
  simp [e0, e1, m1, od]
theorem half_okP {P9 : Int × Int → Prop} (hP : ∀ p, P9 p → Ptb p) {ps : List (Int × Int)} (hp : ∀ p ∈ ps, P9 p) (hl : ps.length ≤ 1000) : ∃ qs : List (Int × Int), m__law_half [.lst (ps.map pt)] () = .ok (.lst (qs.map pt)) () ∧ (∀ q ∈ qs, P9 q) ∧ qs.length ≤ ps.length := by
  have key : oE (m__law_half [.lst (ps.map pt)] ()) (fun d _ => ∃ qs : List (Int × Int), d = .lst (qs.map pt) ∧ (∀ q ∈ qs, P9 q) ∧ qs.length ≤ ps.length) (fun _ _ _ => False) := by
    unfold m__law_half b__law_half
    simp
    unfold Nxt
    simp
    obtain ⟨I, hI⟩ : ∃ I : List D → Rho → Unit → Prop, I = fun ds ρ t => (∀ d ∈ ds, ∃ p, d = pt p ∧ P9 p) ∧ ∃ (qs : List (Int × Int)) (s2 : Slot), ρ = [.val (.lst (ps.map pt)), .val (.lst (qs.map pt)), s2] ∧ (∀ q ∈ qs, P9 q) ∧ qs.length + ds.length ≤ ps.length := ⟨_, rfl⟩
    refine oS_loop I _ _ _ (by
      rw [hI]
      refine ⟨fun d hd => ?_, [], _, rfl, fun q hq => (nomatch hq), by simp⟩
      obtain ⟨p, h, rfl⟩ := List.mem_map.mp hd
      exact ⟨p, rfl, hp p h⟩) ?_ ?_
    · intro d ds ρ t h2
      rw [hI] at h2
      obtain ⟨hd, qs, s2, rfl, hq, hql⟩ := h2
      rw [List.length_cons] at hql
      obtain ⟨p, rfl, hb⟩ := hd d List.mem_cons_self
      refine ⟨_, rfl, ?_⟩
      rw [oS_seq]
      refine oS_while (fun n ρ t => ∃ qs : List (Int × Int), n = qs.length ∧ ρ = [.val (.lst (ps.map pt)), .val (.lst (qs.map pt)), .val (pt p)] ∧ (∀ q ∈ qs, P9 q) ∧ qs.length + (ds.length + 1) ≤ ps.length) ?_ qs.length _ _ ⟨qs, rfl, rfl, hq, hql⟩
      rintro n ρ t ⟨qs, rfl, rfl, hq, hql⟩
      have fin : ∀ P : Pt Unit, P.nx = I ds → Nxt (sAsg (gN 1) (e2 dAdd (eVarW 1) (eLst (e1 lim (aCons (eVar 2) aNil))))) [.val (.lst (ps.map pt)), .val (.lst (qs.map pt)), .val (pt p)] t P := fun P hP => by
        unfold Nxt
        simp
        rw [hP, hI]
        refine ⟨by omega, fun d h => hd d (List.mem_cons_of_mem _ h), qs ++ [p], .val (pt p), by simp, fun q h => ?_, by simp; omega⟩
        rcases List.mem_append.mp h with h | h
        · exact hq q h
        · rw [List.mem_singleton.mp h]; exact hb
      by_cases h2 : 2 ≤ qs.length
      · obtain ⟨a, ha, b, hb', ea, eb⟩ := at_last2 h2
        simp [ea, eb, left_ok (hP _ (hq a ha)) (hP _ (hq b hb')) (hP _ hb)]
        right
        refine ⟨by omega, ?_⟩
        by_cases hs : (b.1 - a.1) * (p.2 - a.2) - (b.2 - a.2) * (p.1 - a.1) ≤ 0
        · right
          refine ⟨hs, qs.length - 1, by omega, qs.dropLast, by simp, by rw [cut_last, List.map_dropLast], fun a b h => hq _ (List.dropLast_subset _ h), by simp; omega⟩
        · left
          exact ⟨by omega, fin _ rfl⟩
      · simp
        left
        exact ⟨by omega, fin _ rfl⟩
    · intro ρ t h2
      rw [hI] at h2
      obtain ⟨hd, qs, s2, rfl, hq, hql⟩ := h2
      unfold Nxt
      simp [cut_last]
      refine ⟨qs.dropLast, by rw [List.map_dropLast], fun a b h => hq _ (List.dropLast_subset _ h), by simp at hql ⊢; omega⟩
  cases e : m__law_half [.lst (ps.map pt)] () with
  | ok d u =>
    rw [e] at key
    obtain ⟨qs, rfl, h1, h2⟩ := key
    exact ⟨qs, rfl, h1, h2⟩
  | ex n fs u => rw [e] at key; exact key.elim
  | bad => rw [e] at key; exact key.elim
theorem hull_ok9P {P9 : Int × Int → Prop} (hP : ∀ p, P9 p → Ptb p) (t1 : P9 (0, 0)) (t2 : P9 (2, 0)) (t3 : P9 (0, 2)) {ps : List (Int × Int)} (hp : ∀ p ∈ ps, P9 p) (hl : ps.length ≤ 1000) : ∃ qs : List (Int × Int), m__law_hull [.lst (ps.map pt)] () = .ok (.lst (qs.map pt)) () ∧ (∀ q ∈ qs, P9 q) ∧ qs.length ≤ 2 * ps.length + 3 ∧ 3 ≤ qs.length := by
  obtain ⟨rs, e1, pm⟩ := sort_pts ps
  have hr : ∀ p ∈ rs, P9 p := fun p h => hp p (pm.mem_iff.mp h)
  have rl := pm.length_eq
  obtain ⟨us, e2, h2, l2⟩ := half_okP hP hr (by omega)
  obtain ⟨vs, e3, h3, l3⟩ := half_okP hP (ps := rs.reverse) (fun p h => hr p (List.mem_reverse.mp h)) (by rw [List.length_reverse]; omega)
  rw [List.length_reverse] at l3
  rw [List.map_reverse] at e3
  have e4 : dRev (.lst (rs.map pt)) = some ((rs.map pt).reverse) := rfl
  by_cases h : us.length + vs.length < 3
  · refine ⟨[(0, 0), (2, 0), (0, 2)], ?_, fun q hq => ?_, by simp, by simp⟩
    · apply oE_eq
      unfold m__law_hull b__law_hull
      simp [e1]
      unfold Nxt
      simp [e2, e3, e4]
      unfold Nxt
      simp
      exact ⟨by omega, .inr ⟨by omega, rfl⟩⟩
    · rcases List.mem_cons.mp hq with rfl | hq
      · exact t1
      · rcases List.mem_cons.mp hq with rfl | hq
        · exact t2
        · rw [List.mem_singleton.mp hq]; exact t3
  · refine ⟨us ++ vs, ?_, fun q hq => ?_, by simp; omega, by simp; omega⟩
    · apply oE_eq
      unfold m__law_hull b__law_hull
      simp [e1]
      unfold Nxt
      simp [e2, e3, e4]
      unfold Nxt
      simp
      refine ⟨by omega, .inl ⟨by omega, ?_⟩⟩
      unfold Nxt
      simp
    · rcases List.mem_append.mp hq with h | h
      · exact h2 q h
      · exact h3 q h
structure Go10 (a : D) (ps : List (Int × Int)) (c r p s : D) : Prop where
  na : ∃ z, a = .str z ∧ Nm 12 z
  co : (∀ q ∈ ps, Pb9 q) ∧ ps.length ≤ 30
  ma : ∃ m : Int, c = .int m
  ra : ∃ p q : Int, r = .tup [.int p, .int q]
  pl : ∃ x y : D, p = .tup [x, y] ∧ (∃ a b : Int, x = .tup [.int a, .int b]) ∧ ∃ a b : Int, y = .tup [.int a, .int b]
  sp : ∃ x y : D, s = .tup [x, y] ∧ (∃ a b : Int, x = .tup [.int a, .int b]) ∧ ∃ a b : Int, y = .tup [.int a, .int b]
theorem sg_pair {d : D} (h : Sg d) : ∃ a b : Int, d = .tup [.int a, .int b] := by
  obtain ⟨a, b, e, _⟩ := h
  exact ⟨a, b, e⟩
theorem things_wp10 {ns : List Int} {ad : Addr} {n : Nat} {t : Dk} {kind : Int} {Q : D → Dk → Prop} {X : Str → Fds → Dk → Prop} (g : Gd ns ad n t) (hc : n < 1000000000) (h : ∀ (a : D) (ps : List (Int × Int)) (c r p s : D) (t' : Dk), Go10 a ps c r p s → Gd ns ad (n + 400) t' → Q (.lst [a, .lst (ps.map pt), c, r, p, s]) t') :
    oE (m__law_things [.at ad, .int kind] t) Q X := by
  have ix : ∀ k : Int, 0 ≤ k → k < 5 → ∃ z : Int, atI [D.int 1, .int 2, .int 5, .int 11, .int 12] k = some (.int z) ∧ 0 ≤ z ∧ z ≤ 12 := fun k k0 k1 => by
    have : k = 0 ∨ k = 1 ∨ k = 2 ∨ k = 3 ∨ k = 4 := by omega
    rcases this with rfl | rfl | rfl | rfl | rfl
    · exact ⟨1, rfl, by decide, by decide⟩
    · exact ⟨2, rfl, by decide, by decide⟩
    · exact ⟨5, rfl, by decide, by decide⟩
    · exact ⟨11, rfl, by decide, by decide⟩
    · exact ⟨12, rfl, by decide, by decide⟩
  have ix2 : ∀ k : Int, 0 ≤ k → k < 4 → ∃ z : Int, atI [D.int 3, .int 9, .int 1000, .int 1000000] k = some (.int z) ∧ 0 ≤ z ∧ z ≤ 1000000 := fun k k0 k1 => by
    have : k = 0 ∨ k = 1 ∨ k = 2 ∨ k = 3 := by omega
    rcases this with rfl | rfl | rfl | rfl
    · exact ⟨3, rfl, by decide, by decide⟩
    · exact ⟨9, rfl, by decide, by decide⟩
    · exact ⟨1000, rfl, by decide, by decide⟩
    · exact ⟨1000000, rfl, by decide, by decide⟩
  unfold m__law_things b__law_things
  simp
  refine take_wp g (by omega) (many_of (by decide) (by decide)) fun k t1 k0 k1 g1 => ?_
  obtain ⟨z, e, z0, z1⟩ := ix k k0 k1
  refine ⟨_, e, name_wp g1 (by omega) z0 (by omega) fun x t2 hx g2 => ?_⟩
  have hx := hx.mono (show z.toNat ≤ 12 by omega)
  unfold Nxt
  simp
  refine take_wp g2 (by omega) (many_of (by decide) (by decide)) fun k t3 k0 k1 g3 => ?_
  obtain ⟨z2, e, z20, z21⟩ := ix2 k k0 k1
  refine ⟨_, e, ?_⟩
  unfold Nxt
  simp
  refine take_wp g3 (by omega) (many_of (by decide) (by decide)) fun m t4 m0 m1 g4 => ?_
  simp
  obtain ⟨w, hw⟩ : ∃ w : Nat, 3 + m = (w : Int) := ⟨(3 + m).toNat, by omega⟩
  rw [hw]
  have hw3 : 3 ≤ w ∧ w ≤ 8 := by omega
  have g4 : Gd ns ad (n + 20) t4 := g4.le (by omega)
  unfold Nxt
  simp
  have hlen : (rngD 0 w).length = w := by simp [rngD]
  refine ⟨by omega, by rw [hlen]; omega, comp_wp (p := fun _ y => ∃ p : Int × Int, y = pt p ∧ Ptb p ∧ Pb9 p) (k := 4) (B := n + 200) _ (fun d hd m t1 g1 hm => ⟨_, rfl, ?_⟩) _ t4 g4 (by rw [hlen]; omega) fun ys t5 hys g5 => ?_⟩
  · simp [wipeR]
    refine number_wp g1 (by omega) z20 z21 fun x t4 x0 x1 g4 => number_wp g4 (by omega) z20 z21 fun y t5 y0 y1 g5 => ?_
    exact ⟨⟨_, _, rfl, ⟨by simp; omega, by simp; omega⟩, by simp; omega, by simp; omega⟩, g5⟩
  rw [hlen] at g5
  have ey : ∃ ps : List (Int × Int), ys = ps.map pt ∧ (∀ p ∈ ps, Pb9 p) ∧ ps.length = w := by
    have : ∀ (ds ys : List D), Pw (fun _ y => ∃ p : Int × Int, y = pt p ∧ Ptb p ∧ Pb9 p) ds ys → ∃ ps : List (Int × Int), ys = ps.map pt ∧ (∀ p ∈ ps, Pb9 p) ∧ ps.length = ds.length := by
      intro ds ys h
      induction h with
      | nil => exact ⟨[], rfl, fun x hx => (nomatch hx), rfl⟩
      | cons a _ ih =>
        obtain ⟨x, rfl, _, hx⟩ := a
        obtain ⟨xs, rfl, h1, h2⟩ := ih
        refine ⟨x :: xs, rfl, fun y hy => ?_, by simp [h2]⟩
        rcases List.mem_cons.mp hy with rfl | hy
        · exact hx
        · exact h1 y hy
    obtain ⟨ps, h1, h2, h3⟩ := this _ _ hys
    exact ⟨ps, h1, h2, by rw [h3, hlen]⟩
  obtain ⟨ps, rfl, hp, hl⟩ := ey
  obtain ⟨qs, eq, hq, ql, q3⟩ := hull_ok9P (P9 := Pb9) (fun p h => ⟨by have := h.1; omega, by have := h.2; omega⟩) ⟨by decide, by decide⟩ ⟨by decide, by decide⟩ ⟨by decide, by decide⟩ hp (by omega)
  simp [eq]
  unfold Nxt
  simp
  refine take_wp g5 (by omega) (many_of (by omega) (by omega)) fun s t6 s0 s1 g6 => ?_
  obtain ⟨j, rfl⟩ : ∃ j : Nat, s = (j : Int) := ⟨s.toNat, by omega⟩
  have c1 := cut9_lo (α := qs.map pt) (j := j) (by rw [List.length_map]; omega)
  have c2 := cut9_hi (α := qs.map pt) (j := j) (by rw [List.length_map]; omega)
  unfold Nxt
  simp [c1, c2]
  refine ⟨by omega, ?_⟩
  have er : (qs.map pt).drop j ++ (qs.map pt).take j = (qs.drop j ++ qs.take j).map pt := by rw [List.map_append, List.map_drop, List.map_take]
  have hr : ∀ q ∈ qs.drop j ++ qs.take j, Pb9 q := fun q hq' => by
    rcases List.mem_append.mp hq' with z | z
    · exact hq _ (List.mem_of_mem_drop z)
    · exact hq _ (List.mem_of_mem_take z)
  have hrl : (qs.drop j ++ qs.take j).length = qs.length := by rw [List.length_append, List.length_drop, List.length_take]; omega
  try rw [er]
  generalize qs.drop j ++ qs.take j = rs at hr hrl ⊢
  have g6 : Gd ns ad (n + 100) t6 := g6.le (by omega)
  unfold Nxt
  simp
  refine take_wp g6 (by omega) (many_of (by decide) (by decide)) fun m t7 m0 m1 g7 => ?_
  simp
  refine take_wp g7 (by omega) (many_of (by decide) (by decide)) fun l t8 l0 l1 g8 => ?_
  have ex : ∃ v : Int, atI [D.int 1, .int 2, .int 1000000, .int (1 + m)] l = some (.int v) := by
    have : l = 0 ∨ l = 1 ∨ l = 2 ∨ l = 3 := by omega
    rcases this with rfl | rfl | rfl | rfl <;> exact ⟨_, rfl⟩
  obtain ⟨v, ev⟩ := ex
  refine ⟨_, ev, ?_⟩
  unfold Nxt
  simp
  refine rail_wp9 g8 (by omega) fun p q t9 hpp hqq g9 => ?_
  unfold Nxt
  simp
  refine share_wp10 g9 (by omega) fun p1 t10 hp1 g10 => share_wp10 g10 (by omega) fun p2 t11 hp2 g11 => ?_
  unfold Nxt
  simp
  refine share_wp10 g11 (by omega) fun s1' t12 hs1 g12 => share_wp10 g12 (by omega) fun s2' t13 hs2 g13 => ?_
  unfold Nxt
  by_cases hk : kind = 2
  · obtain ⟨a1, b1, ta⟩ := times10 hpp hs1
    obtain ⟨a2, b2, tb⟩ := times10 hqq hs1
    have e0 : atI [D.int p, D.int q] 0 = some (.int p) := rfl
    have e1 : atI [D.int p, D.int q] 1 = some (.int q) := rfl
    have e2 : atI [s1', s2'] 0 = some s1' := rfl
    simp [hk, e0, e1, e2, ta, tb]
    unfold Nxt
    simp
    exact h _ _ _ _ _ _ _ ⟨⟨x, rfl, hx⟩, ⟨hr, by omega⟩, ⟨_, rfl⟩, ⟨_, _, rfl⟩, ⟨_, _, rfl, sg_pair hp1, sg_pair hp2⟩, ⟨_, _, rfl, ⟨_, _, rfl⟩, ⟨_, _, rfl⟩⟩⟩ (g13.le (by omega))
  · simp [hk]
    unfold Nxt
    simp
    exact h _ _ _ _ _ _ _ ⟨⟨x, rfl, hx⟩, ⟨hr, by omega⟩, ⟨_, rfl⟩, ⟨_, _, rfl⟩, ⟨_, _, rfl, sg_pair hp1, sg_pair hp2⟩, ⟨_, _, rfl, sg_pair hs1, sg_pair hs2⟩⟩ (g13.le (by omega))
structure Sq10 (k : Int) (d : D) : Prop where
  k0 : k = 0 → T9 4 d = true
  k1 : k = 1 → ∃ qs : List (Int × Int), d = .lst (qs.map pt) ∧ (∀ q ∈ qs, Pb9 q) ∧ qs.length ≤ 60
  k2 : k = 2 → T9 4 d = true
  k3 : k = 3 → okT d = true
  k4 : 4 ≤ k → plain2 d = true
theorem sq0 {k : Int} {d : D} (hk : k = 0) (h : T9 4 d = true) : Sq10 k d := ⟨fun _ => h, fun z => by omega, fun z => by omega, fun z => by omega, fun z => by omega⟩
theorem sq1 {k : Int} {qs : List (Int × Int)} (hk : k = 1) (h : ∀ q ∈ qs, Pb9 q) (hl : qs.length ≤ 60) : Sq10 k (.lst (qs.map pt)) := ⟨fun z => by omega, fun _ => ⟨qs, rfl, h, hl⟩, fun z => by omega, fun z => by omega, fun z => by omega⟩
theorem sq2 {k : Int} {d : D} (hk : k = 2) (h : T9 4 d = true) : Sq10 k d := ⟨fun z => by omega, fun z => by omega, fun _ => h, fun z => by omega, fun z => by omega⟩
theorem sq3 {k : Int} {d : D} (hk : k = 3) (h : okT d = true) : Sq10 k d := ⟨fun z => by omega, fun z => by omega, fun z => by omega, fun _ => h, fun z => by omega⟩
theorem sq4 {k : Int} {d : D} (hk : 4 ≤ k) (h : plain2 d = true) : Sq10 k d := ⟨fun z => by omega, fun z => by omega, fun z => by omega, fun z => by omega, fun _ => h⟩
theorem atI_mem10 {xs : List D} {k : Int} (h0 : 0 ≤ k) (h1 : k < (xs.length : Nat)) : ∃ x ∈ xs, atI xs k = some x := by
  obtain ⟨j, rfl⟩ : ∃ j : Nat, k = (j : Int) := ⟨k.toNat, by omega⟩
  have hj : j < xs.length := by omega
  exact ⟨xs[j], List.getElem_mem _, atI_nat (by rw [List.getElem?_eq_getElem hj])⟩
theorem nm_T {n : Nat} {x : Str} (h : Nm n x) (hn : n ≤ 1000) : T9 4 (.str x) = true := Bool.and_eq_true_iff.mpr ⟨h.ok, decide_eq_true (by have := h.le; omega)⟩
theorem cutP (qs : List (Int × Int)) (lo hi : Option Int) : ∃ rs : List (Int × Int), cutD (qs.map pt) lo hi = rs.map pt ∧ (∀ q ∈ rs, q ∈ qs) ∧ rs.length ≤ qs.length := by
  refine ⟨(qs.drop (HT.sIx (qs.map pt).length 0 lo)).take (HT.sIx (qs.map pt).length (qs.map pt).length hi - HT.sIx (qs.map pt).length 0 lo), ?_, fun q hq => List.mem_of_mem_drop (List.mem_of_mem_take hq), ?_⟩
  · unfold cutD
    rw [List.map_take, List.map_drop]
  · rw [List.length_take, List.length_drop]; omega
theorem spoil_wp {ns : List Int} {ad : Addr} {n : Nat} {t : Dk} {k : Int} {d : D} {Q : D → Dk → Prop} {X : Str → Fds → Dk → Prop} (g : Gd ns ad n t) (hc : n < 100000000) (h0 : 0 ≤ k) (h6 : k < 6)
    (d1 : k = 1 → ∃ ps : List (Int × Int), d = .lst (ps.map pt) ∧ (∀ q ∈ ps, Pb9 q) ∧ ps.length ≤ 30) (d4 : 4 ≤ k → ∃ x y : D, d = .tup [x, y] ∧ (∃ a b : Int, x = .tup [.int a, .int b]) ∧ ∃ a b : Int, y = .tup [.int a, .int b])
    (h : ∀ (e : D) (t' : Dk), Sq10 k e → Gd ns ad (n + 60) t' → Q e t') : oE (m__law_spoil [.at ad, .int k, d] t) Q X := by
  have pick : ∀ (xs : List D) (t1 : Dk) (m : Nat) (ρ : Rho), Gd ns ad m t1 → m ≤ n + 50 → ρ[3]? = some (.val (.lst xs)) → ρ[0]? = some (.val (.at ad)) → 1 ≤ xs.length → xs.length ≤ 100 → (∀ x ∈ xs, Sq10 k x) → Nxt (sRet (e2 dIx (eVarW 3) (eCallS m__law_take [] (aCons (eVar 0) (aCons (e1 fLen (aCons (eVarW 3) aNil)) aNil))))) ρ t1 { nx := fun _ t => Q .non t, rt := Q, ex := fun n fs _ t => X n fs t } := fun xs t1 m ρ g1 hm e3 e0 l1 l2 hx => by
    unfold Nxt
    simp [e3, e0]
    refine take_wp g1 (by omega) (many_of (by omega) (by omega)) fun i t2 i0 i1 g2 => ?_
    obtain ⟨v, hv, ev⟩ := atI_mem10 i0 i1
    exact ⟨v, ev, h _ _ (hx v hv) (g2.le (by omega))⟩
  unfold m__law_spoil b__law_spoil
  by_cases q0 : k = 0
  · subst q0
    simp
    refine name_wp g (by omega) (by decide) (by decide) fun a t1 ha g1 => name_wp g1 (by omega) (by decide) (by decide) fun b t2 hb g2 => name_wp g2 (by omega) (by decide) (by decide) fun c t3 hcn g3 => ?_
    have hs : ∃ z, dAdd (.str c) (.str " ") = some (.str z) ∧ T9 4 (.str z) = true := by
      refine ⟨c ++ " ", ?_, ?_⟩
      · show (if lim2 (c.length + (Str.ofString " ").length) = true then some (D.str (c ++ " ")) else none) = _
        rw [if_pos (show lim2 (c.length + (Str.ofString " ").length) = true from decide_eq_true (by
          have := hcn.le
          have : (Str.ofString " ").length = 1 := rfl
          omega))]
      · have el : (c ++ (" " : Str)).cps.toList = c.cps.toList ++ (" " : Str).cps.toList := TL.tl_append c " "
        have l : ∀ z : Str, z.length = z.cps.toList.length := fun z => by show z.cps.size = _; simp
        refine Bool.and_eq_true_iff.mpr ⟨?_, decide_eq_true ?_⟩
        · have h1 : (c.cps.all fun c => decide (c < 1114112)) = true := hcn.ok
          show ((c ++ (" " : Str)).cps.all fun c => decide (c < 1114112)) = true
          rw [← Array.all_toList] at *
          rw [el, List.all_append, h1]
          decide
        · rw [l, el, List.length_append]
          have := hcn.le
          rw [l] at this
          have : (" " : Str).cps.toList.length = 1 := rfl
          omega
    obtain ⟨z, ez, hz⟩ := hs
    refine ⟨_, ez, ?_⟩
    refine pick [.str "", .str "Ab", .str "a1", .str a, .str b, .non, .int 7, .str z] t3 _ _ g3 (by first | omega | (simp; done) | (simp; omega)) rfl rfl (by simp) (by simp) fun x hx => sq0 rfl ?_
    simp at hx
    rcases hx with rfl | rfl | rfl | rfl | rfl | rfl | rfl | rfl
    · decide +kernel
    · decide +kernel
    · decide +kernel
    · exact nm_T ha (by decide)
    · exact nm_T hb (by decide)
    · rfl
    · rfl
    · exact hz
  by_cases q1 : k = 1
  · obtain ⟨ps, rfl, hp, hl⟩ := d1 q1
    subst q1
    have e9 : fRng1 [.int 9] = some ((List.range 9).map fun i : Nat => .int (0 + (i : Nat))) := by
      obtain ⟨z, h1, h2⟩ := (ex_rng (j := 9) (Q := fun z => z = rngD 0 (9 : Int).toNat)).mpr ⟨⟨by decide, by decide⟩, rfl⟩
      rw [h1, h2]
      rfl
    obtain ⟨fr, hfr⟩ : ∃ fr, fr = fRng1 := ⟨_, rfl⟩
    rw [← hfr]
    rw [← hfr] at e9
    clear hfr
    simp [e9]
    refine comp_map (enc := fun i : Nat => .int (i : Nat)) (f := fun i => pt ((i : Int), (i : Int) * (i : Int))) (fun i hi => ⟨_, rfl, ?_⟩) ?_
    · have hi := List.mem_range.mp hi
      simp [pt, wipeR]
      exact small_mul (a := 8) (b := 8) (by omega) (by omega) (by decide) (by decide) (by decide)
    rw [show ((List.range 9).map fun i : Nat => pt ((i : Int), (i : Int) * (i : Int))) = ((List.range 9).map fun i : Nat => (((i : Int), (i : Int) * (i : Int)) : Int × Int)).map pt from by rw [List.map_map]; rfl]
    have hb : ∀ q ∈ ((List.range 9).map fun i : Nat => (((i : Int), (i : Int) * (i : Int)) : Int × Int)), Pb9 q := fun q hq => by
      obtain ⟨i, hi, rfl⟩ := List.mem_map.mp hq
      have hi := List.mem_range.mp hi
      have h1 : (i : Int) * (i : Int) ≤ 8 * (i : Int) := Int.mul_le_mul_of_nonneg_right (by omega) (by omega)
      have h0 : 0 ≤ (i : Int) * (i : Int) := Int.mul_nonneg (by omega) (by omega)
      exact ⟨by simp; omega, by simp only; omega⟩
    have bl : ((List.range 9).map fun i : Nat => (((i : Int), (i : Int) * (i : Int)) : Int × Int)).length = 9 := by simp
    generalize (List.range 9).map (fun i : Nat => (((i : Int), (i : Int) * (i : Int)) : Int × Int)) = bs at hb bl ⊢
    obtain ⟨r1, c1, i1, L1⟩ := cutP ps none (some 2)
    obtain ⟨r2, c2, i2, L2⟩ := cutP ps none (some 1)
    obtain ⟨r3, c3, i3, L3⟩ := cutP bs none (some 8)
    obtain ⟨r4, c4, i4, L4⟩ := cutP ps (some 1) none
    obtain ⟨r5, c5, i5, L5⟩ := cutP ps (some 1) (some 2)
    have v1 : dRev (.lst (ps.map pt)) = some (ps.reverse.map pt) := by rw [List.map_reverse]; rfl
    have v2 : dRev (.lst (bs.map pt)) = some (bs.reverse.map pt) := by rw [List.map_reverse]; rfl
    have ea : (r4.map pt) ++ (r5.map pt) = (r4 ++ r5).map pt := by rw [List.map_append]
    unfold Nxt
    simp [c1, c2, c3, c4, c5, v1, v2]
    refine ⟨by omega, ?_⟩
    refine take_wp g (by omega) (many_of (by decide) (by decide)) fun i t2 i0 i1' g2 => ?_
    obtain ⟨x, hx, ev⟩ := atI_mem10 (xs := [D.lst (r1.map pt), .lst [], .lst (r2.map pt), .lst (ps.map pt).reverse, .lst (bs.map pt), .lst (r3.map pt), .lst (bs.map pt).reverse, .lst (r4.map pt ++ r5.map pt)]) i0 i1'
    refine ⟨x, ev, h _ _ ?_ (g2.le (by omega))⟩
    rw [ea, ← List.map_reverse, ← List.map_reverse] at hx
    simp only [List.mem_cons, List.not_mem_nil, or_false] at hx
    rcases hx with rfl | rfl | rfl | rfl | rfl | rfl | rfl | rfl
    · exact sq1 rfl (fun q hq => hp q (i1 q hq)) (by omega)
    · exact sq1 (qs := []) rfl (fun q hq => (nomatch hq)) (by simp)
    · exact sq1 rfl (fun q hq => hp q (i2 q hq)) (by omega)
    · exact sq1 rfl (fun q hq => hp q (List.mem_reverse.mp hq)) (by rw [List.length_reverse]; omega)
    · exact sq1 rfl hb (by omega)
    · exact sq1 rfl (fun q hq => hb q (i3 q hq)) (by omega)
    · exact sq1 rfl (fun q hq => hb q (List.mem_reverse.mp hq)) (by rw [List.length_reverse]; omega)
    · refine sq1 rfl (fun q hq => ?_) (by rw [List.length_append]; omega)
      rcases List.mem_append.mp hq with z | z
      · exact hp q (i4 q z)
      · exact hp q (i5 q z)
  by_cases q2 : k = 2
  · subst q2
    simp
    refine pick [.int 0, .int 0, .int 0, .int (-1), .bl true, .bl false, .non, .int 1000000, .int 1000001, .str "1", .tup [.int 0, .int 1]] t _ _ g (by omega) rfl rfl (by simp) (by simp) fun x hx => sq2 rfl ?_
    simp only [List.mem_cons, List.not_mem_nil, or_false] at hx
    rcases hx with rfl | rfl | rfl | rfl | rfl | rfl | rfl | rfl | rfl | rfl | rfl
    all_goals first
      | rfl
      | decide +kernel
  by_cases q3 : k = 3
  · subst q3
    simp
    refine pick [.non, .non, .non, .tup [.int 0, .int 0], .tup [.int 2, .int 0], .tup [.int 1000001, .int 1], .tup [.int 1, .int 0], .lst [.int 1, .int 0], .tup [.int 1], .tup [.bl true, .int 0]] t _ _ g (by omega) rfl rfl (by simp) (by simp) fun x hx => sq3 rfl ?_
    simp only [List.mem_cons, List.not_mem_nil, or_false] at hx
    rcases hx with rfl | rfl | rfl | rfl | rfl | rfl | rfl | rfl | rfl | rfl <;> rfl
  · have k4 : 4 ≤ k := by omega
    obtain ⟨x, y, rfl, ⟨xa, xb, rfl⟩, ⟨ya, yb, rfl⟩⟩ := d4 k4
    have e0 : atI [D.tup [.int xa, .int xb], D.tup [.int ya, .int yb]] 0 = some (.tup [.int xa, .int xb]) := rfl
    have e1 : atI [D.tup [.int xa, .int xb], D.tup [.int ya, .int yb]] 1 = some (.tup [.int ya, .int yb]) := rfl
    simp [q0, q1, q2, q3, e0, e1]
    unfold Nxt
    simp [e0, e1]
    unfold Nxt
    rw [oS_seq, oS_asg, pow9]
    generalize M9 = M
    unfold Nxt
    simp
    refine take_wp g (by omega) (many_of (by decide) (by decide)) fun i t2 i0 i1 g2 => ?_
    obtain ⟨v, hv, ev⟩ := atI_mem10 (xs := [D.non, D.tup [D.tup [D.int 0, D.int 1]], D.lst [D.tup [D.int xa, D.int xb], D.tup [D.int ya, D.int yb]], D.tup [D.tup [D.int 2, D.int 2], D.tup [D.int 0, D.int 1]], D.tup [D.tup [D.int 0, D.int 1], D.tup [D.int 1, D.int 0]], D.tup [D.tup [D.int 0, D.int 1], D.tup [D.int 0, D.int 1]], D.tup [D.tup [D.int xa, D.int xb], D.tup [D.int 1, D.int 1]], D.tup [D.tup [D.int 1, D.int 1], D.tup [D.int ya, D.int yb]], D.tup [D.tup [D.int 1, D.int 1], D.tup [D.int 1, D.bl true]], D.str (Str.ofString "still"), D.tup [D.tup [D.int M, D.int 1], D.tup [D.int 0, D.int 1]], D.tup [D.tup [D.int 0, D.int 1], D.tup [D.int 1, D.int M]], D.tup [D.tup [D.int (1 - M), D.int 1], D.tup [D.int 0, D.int 1]], D.tup [D.tup [D.int 0, D.int 1], D.tup [D.int (-1), D.int (M - 1)]]]) i0 i1
    refine ⟨v, ev, h _ _ (sq4 k4 ?_) (g2.le (Nat.add_le_add_left (by decide) n))⟩
    simp only [List.mem_cons, List.not_mem_nil, or_false] at hv
    rcases hv with rfl | rfl | rfl | rfl | rfl | rfl | rfl | rfl | rfl | rfl | rfl | rfl | rfl | rfl <;> rfl

-- opts: kinds=_law_hull|sorted(_law_points)|d;_law_is_spot|(10 ** 50) ** 8|b;_law_spoil|(10 ** 50) ** 8|b;is_name|thing|S;is_name|sign in LETTERS|S;_law_wrong|_law_things_here[0]|S;_law_wrong|_law_things_here[0] == ''|z ## cut=a ## kwx=1
theorem go_th {a : D} {ps : List (Int × Int)} {c r p s : D} (h : Go10 a ps c r p s) : Th10 a ps c r p s := by
  obtain ⟨z, rfl, hz⟩ := h.na
  obtain ⟨m, rfl⟩ := h.ma
  obtain ⟨u, v, rfl⟩ := h.ra
  obtain ⟨x, y, rfl, ⟨xa, xb, rfl⟩, ⟨ya, yb, rfl⟩⟩ := h.pl
  obtain ⟨x, y, rfl, ⟨sa, sb, rfl⟩, ⟨ta, tb, rfl⟩⟩ := h.sp
  exact ⟨nm_T hz (by decide), ⟨h.co.1, by have := h.co.2; omega⟩, rfl, rfl, rfl, rfl⟩
theorem th_set {a : D} {ps : List (Int × Int)} {c r p s d : D} {k : Int} (H : Th10 a ps c r p s) (h0 : 0 ≤ k) (h6 : k < 6) (q : Sq10 k d) : ∃ (n : Nat) (a' : D) (ps' : List (Int × Int)) (c' r' p' s' : D), ixN 6 k = some n ∧ [a, .lst (ps.map pt), c, r, p, s].set n d = [a', .lst (ps'.map pt), c', r', p', s'] ∧ Th10 a' ps' c' r' p' s' := by
  have hk : k = 0 ∨ k = 1 ∨ k = 2 ∨ k = 3 ∨ k = 4 ∨ k = 5 := by omega
  rcases hk with rfl | rfl | rfl | rfl | rfl | rfl
  · exact ⟨0, d, ps, c, r, p, s, rfl, rfl, ⟨q.k0 rfl, H.co, H.ma, H.ra, H.pl, H.sp⟩⟩
  · obtain ⟨qs, rfl, h1, h2⟩ := q.k1 rfl
    exact ⟨1, a, qs, c, r, p, s, rfl, rfl, ⟨H.na, ⟨h1, h2⟩, H.ma, H.ra, H.pl, H.sp⟩⟩
  · exact ⟨2, a, ps, d, r, p, s, rfl, rfl, ⟨H.na, H.co, q.k2 rfl, H.ra, H.pl, H.sp⟩⟩
  · exact ⟨3, a, ps, c, d, p, s, rfl, rfl, ⟨H.na, H.co, H.ma, q.k3 rfl, H.pl, H.sp⟩⟩
  · exact ⟨4, a, ps, c, r, d, s, rfl, rfl, ⟨H.na, H.co, H.ma, H.ra, q.k4 (by decide), H.sp⟩⟩
  · exact ⟨5, a, ps, c, r, p, d, rfl, rfl, ⟨H.na, H.co, H.ma, H.ra, H.pl, q.k4 (by decide)⟩⟩
theorem go_at {a : D} {ps : List (Int × Int)} {c r p s : D} {k : Int} (H : Go10 a ps c r p s) (h0 : 0 ≤ k) (h6 : k < 6) : ∃ d, atI [a, .lst (ps.map pt), c, r, p, s] k = some d ∧ (k = 1 → ∃ ps : List (Int × Int), d = .lst (ps.map pt) ∧ (∀ q ∈ ps, Pb9 q) ∧ ps.length ≤ 30) ∧ (4 ≤ k → ∃ x y : D, d = .tup [x, y] ∧ (∃ a b : Int, x = .tup [.int a, .int b]) ∧ ∃ a b : Int, y = .tup [.int a, .int b]) := by
  have hk : k = 0 ∨ k = 1 ∨ k = 2 ∨ k = 3 ∨ k = 4 ∨ k = 5 := by omega
  rcases hk with rfl | rfl | rfl | rfl | rfl | rfl
  · exact ⟨_, rfl, fun z => by omega, fun z => by omega⟩
  · exact ⟨_, rfl, fun _ => ⟨ps, rfl, H.co⟩, fun z => by omega⟩
  · exact ⟨_, rfl, fun z => by omega, fun z => by omega⟩
  · exact ⟨_, rfl, fun z => by omega, fun z => by omega⟩
  · exact ⟨_, rfl, fun z => by omega, fun _ => H.pl⟩
  · exact ⟨_, rfl, fun z => by omega, fun _ => H.sp⟩
theorem law_good (ns : List Int) (hl : ns.length ≤ 63) (hb : ∀ z ∈ ns, Builtin.Int.intBits z ≤ 1048576) : lawIs 9 m__law_deck b_law ns := by
  obtain ⟨big, eb⟩ := deck_ok ns hl
  refine ⟨_, big, eb, fun a b => ?_⟩
  have key : oS (b_law ((Slot.val (.scr ns) :: List.replicate (9 - 1) .no).set 1 (.val (.at a))) ⟨a, b, .scr ns, big, 0, 0⟩) { nx := fun _ _ => False, rt := fun d _ => d = .bl true } := by
    unfold b_law
    simp
    refine take_wp (n := 0) ⟨rfl, rfl, Nat.zero_le _⟩ (by omega) (many_of (by decide) (by decide)) fun kind t1 kk0 kk1 g1 => ?_
    unfold Nxt
    simp
    refine take_wp g1 (by omega) (many_of (by decide) (by decide)) fun sp t2 sp0 sp1 g2 => ?_
    unfold Nxt
    simp
    refine take_wp g2 (by omega) (many_of (by decide) (by decide)) fun k t3 k0 k1 g3 => take_wp g3 (by omega) (many_of (by decide) (by decide)) fun m t4 m0 m1 g4 => ?_
    unfold Nxt
    simp
    refine take_wp g4 (by omega) (many_of (by decide) (by decide)) fun x1 t5 x10 x11 g5 => ?_
    refine ⟨_, dEq_int, take_wp g5 (by omega) (many_of (by decide) (by decide)) fun x2 t6 x20 x21 g6 => ⟨_, dEq_int, take_wp g6 (by omega) (many_of (by decide) (by decide)) fun x3 t7 x30 x31 g7 => ?_⟩⟩
    simp
    unfold Nxt
    simp
    refine take_wp g7 (by omega) (many_of (by decide) (by decide)) fun x4 t8 x40 x41 g8 => ?_
    simp
    generalize decide (x1 = 1) = l0
    generalize decide (x2 = 1) = l1
    generalize decide (x3 = 1) = l2
    generalize decide (x4 = 1) = tu
    unfold Nxt
    simp
    refine things_wp10 g8 (by omega) fun a' ps c r p s t9 G g9 => ?_
    have H := go_th G
    have held : ∀ {a'' : D} {ps'' : List (Int × Int)} {c'' r'' p'' s'' : D} (l0 l1 l2 : Bool), Th10 a'' ps'' c'' r'' p'' s'' → m__law_held [.int kind, .lst [a'', .lst (ps''.map pt), c'', r'', p'', s''], .lst [.bl l0, .bl l1, .bl l2], .bl tu] () = .ok (.bl true) () := fun l0 l1 l2 h => held10 kk0 (by omega) h
    have fin : ∀ {a'' : D} {ps'' : List (Int × Int)} {c'' r'' p'' s'' : D} (t : Dk), Th10 a'' ps'' c'' r'' p'' s'' → Nxt (sFrz 8 (sSeq (sIf (tNot1 (e1 truth (eCall m__law_held [] (aCons (eVar 2) (aCons (eVar 8) (aCons (eVar 5) (aCons (eVar 6) aNil))))))) (sRet (eC (.bl false))) sSkip)
  (sRet (eAnd2 (eCall m__law_held [] (aCons (eVar 2) (aCons (eVar 7) (aCons (eVar 5) (aCons (eVar 6) aNil))))) (eCall m__law_held [] (aCons (eVar 2) (aCons (eVar 7) (aCons (eLst (e1 lim (aCons (eC (.bl false)) (aCons (eC (.bl false)) (aCons (eC (.bl false)) aNil))))) (aCons (eVar 6) aNil)))))))))
        [.val (.scr ns), .val (.at a), .val (.int kind), .val (.int sp), .val (.lst [.int k, .int m]), .val (.lst [.bl l0, .bl l1, .bl l2]), .val (.bl tu), .val (.lst [a', .lst (ps.map pt), c, r, p, s]), .own [a'', .lst (ps''.map pt), c'', r'', p'', s'']] t { nx := fun _ _ => False, rt := fun d _ => d = .bl true } := fun t h => by
      unfold Nxt
      simp [held l0 l1 l2 h]
      unfold Nxt
      simp [held l0 l1 l2 H, held false false false H]
    have e0 : atI [D.int k, D.int m] 0 = some (.int k) := rfl
    have e1 : atI [D.int k, D.int m] 1 = some (.int m) := rfl
    have f1 : fLst [.lst [a', .lst (ps.map pt), c, r, p, s]] = some [a', .lst (ps.map pt), c, r, p, s] := rfl
    obtain ⟨dk, edk, ek1, ek4⟩ := go_at G k0 k1
    obtain ⟨dm, edm, em1, em4⟩ := go_at G m0 m1
    unfold Nxt
    simp [f1]
    unfold Nxt
    by_cases q1 : 1 < sp
    · simp [q1, e0, edk]
      refine spoil_wp g9 (by omega) k0 k1 ek1 ek4 fun d1 t10 hq1 g10 => ?_
      obtain ⟨n1, a1, ps1, c1, r1, p1, s1, hn1, hset1, H1⟩ := th_set H k0 k1 hq1
      refine ⟨n1, hn1, ?_⟩
      rw [hset1]
      unfold Nxt
      by_cases q3 : sp = 3
      · by_cases qm : m = k
        · subst qm
          simp [q3, e0, e1]
          have := fin t10 H1
          rw [q3] at this
          exact this
        · simp [q3, e0, e1, qm, edm]
          refine spoil_wp g10 (by omega) m0 m1 em1 em4 fun d2 t11 hq2 g11 => ?_
          obtain ⟨n2, a2, ps2, c2, r2, p2, s2, hn2, hset2, H2⟩ := th_set H1 m0 m1 hq2
          refine ⟨n2, hn2, ?_⟩
          rw [hset2]
          have := fin t11 H2
          rw [q3] at this
          exact this
      · simp [q3]
        exact fin t10 H1
    · have q3 : ¬ sp = 3 := by omega
      simp [q1]
      unfold Nxt
      simp [q3]
      exact fin t9 H
  obtain ⟨d, t, e, rfl⟩ := oS_rtEx key
  exact ⟨t, e⟩

end MM

noncomputable section
namespace MM
open PySem PySem.Spec PyProof.Rows L2
structure Fx (K : Fg) (mg : Str → Option Value) : Prop where
  z_int : mg "int" = none
  z_isinstance : mg "isinstance" = none
  z_bool : mg "bool" = none
  f_is_whole : ∃ fd, FunD K "is_whole" "is_whole" (defArgs (top 11)) (defBody (top 11)) (defScope (top 11)) [] [] (He.ga K "is_whole") fd
  g_is_whole : mg "is_whole" = some (.ref (He.ga K "is_whole"))
  z_abs : mg "abs" = none
  f_divisor : ∃ fd, FunD K "divisor" "divisor" (defArgs (top 12)) (defBody (top 12)) (defScope (top 12)) [] [] (He.ga K "divisor") fd
  g_divisor : mg "divisor" = some (.ref (He.ga K "divisor"))
  z_tuple : mg "tuple" = none
  z_len : mg "len" = none
  f_is_share : ∃ fd, FunD K "is_share" "is_share" (defArgs (top 13)) (defBody (top 13)) (defScope (top 13)) [] [] (He.ga K "is_share") fd
  g_is_share : mg "is_share" = some (.ref (He.ga K "is_share"))
  c_GREATEST : Glc K mg "GREATEST" (.int 10000000000000000000000000000000000000000000000000000000000000000000000000000000000000000000000000000000000000000000000000000000000000000000000000000000000000000000000000000000000000000000000000000000000000000000000000000000000000000000000000000000000000000000000000000000000000000000000000000000000000000000000000000000000000000000000000000000000000000000000000000000000000000000000000000000000000000)
  f_is_fine : ∃ fd, FunD K "is_fine" "is_fine" (defArgs (top 14)) (defBody (top 14)) (defScope (top 14)) [] [] (He.ga K "is_fine") fd
  g_is_fine : mg "is_fine" = some (.ref (He.ga K "is_fine"))
  x_NoShare : ExcF K mg "NoShare"
  f_share : ∃ fd, FunD K "share" "share" (defArgs (top 15)) (defBody (top 15)) (defScope (top 15)) [.int 1] [] (He.ga K "share") fd
  g_share : mg "share" = some (.ref (He.ga K "share"))
  z_all : mg "all" = none
  f_is_spot : ∃ fd, FunD K "is_spot" "is_spot" (defArgs (top 18)) (defBody (top 18)) (defScope (top 18)) [] [] (He.ga K "is_spot") fd
  g_is_spot : mg "is_spot" = some (.ref (He.ga K "is_spot"))
  f_is_fine_spot : ∃ fd, FunD K "is_fine_spot" "is_fine_spot" (defArgs (top 19)) (defBody (top 19)) (defScope (top 19)) [] [] (He.ga K "is_fine_spot") fd
  g_is_fine_spot : mg "is_fine_spot" = some (.ref (He.ga K "is_fine_spot"))
  f_is_way : ∃ fd, FunD K "is_way" "is_way" (defArgs (top 20)) (defBody (top 20)) (defScope (top 20)) [] [] (He.ga K "is_way") fd
  g_is_way : mg "is_way" = some (.ref (He.ga K "is_way"))
  f_along : ∃ fd, FunD K "along" "along" (defArgs (top 21)) (defBody (top 21)) (defScope (top 21)) [] [] (He.ga K "along") fd
  g_along : mg "along" = some (.ref (He.ga K "along"))
  f_across : ∃ fd, FunD K "across" "across" (defArgs (top 22)) (defBody (top 22)) (defScope (top 22)) [] [] (He.ga K "across") fd
  g_across : mg "across" = some (.ref (He.ga K "across"))
  z_list : mg "list" = none
  x_BadShape : ExcF K mg "BadShape"
  c_REACH : Glc K mg "REACH" (.int 1000000)
  f_look_corner : ∃ fd, FunD K "look_corner" "look_corner" (defArgs (top 24)) (defBody (top 24)) (defScope (top 24)) [] [] (He.ga K "look_corner") fd
  g_look_corner : mg "look_corner" = some (.ref (He.ga K "look_corner"))
  f_is_left : ∃ fd, FunD K "is_left" "is_left" (defArgs (top 25)) (defBody (top 25)) (defScope (top 25)) [] [] (He.ga K "is_left") fd
  g_is_left : mg "is_left" = some (.ref (He.ga K "is_left"))
  c_CORNERS : Glc K mg "CORNERS" (.int 8)
  z_enumerate : mg "enumerate" = none
  z_min : mg "min" = none
  f_look_shape : ∃ fd, FunD K "look_shape" "look_shape" (defArgs (top 26)) (defBody (top 26)) (defScope (top 26)) [] [] (He.ga K "look_shape") fd
  g_look_shape : mg "look_shape" = some (.ref (He.ga K "look_shape"))
  z_str : mg "str" = none
  c_LONGEST : Glc K mg "LONGEST" (.int 12)
  c_LETTERS : Glc K mg "LETTERS" (.str "abcdefghijklmnopqrstuvwxyz")
  f_is_name : ∃ fd, FunD K "is_name" "is_name" (defArgs (top 30)) (defBody (top 30)) (defScope (top 30)) [] [] (He.ga K "is_name") fd
  g_is_name : mg "is_name" = some (.ref (He.ga K "is_name"))
  f_is_rail : ∃ fd, FunD K "is_rail" "is_rail" (defArgs (top 31)) (defBody (top 31)) (defScope (top 31)) [] [] (He.ga K "is_rail") fd
  g_is_rail : mg "is_rail" = some (.ref (He.ga K "is_rail"))
  c_STILL : Glc K mg "STILL" (.tup [(.tup [(.int 0), (.int 1)]), (.tup [(.int 0), (.int 1)])])
  c_NOUGHT : Glc K mg "NOUGHT" (.tup [(.int 0), (.int 1)])
  f_may_go : ∃ fd, FunD K "may_go" "may_go" (defArgs (top 32)) (defBody (top 32)) (defScope (top 32)) [] [] (He.ga K "may_go") fd
  g_may_go : mg "may_go" = some (.ref (He.ga K "may_go"))
  g_BadShape : mg "BadShape" = some (.ref (He.ga K "BadShape"))
  m_BadShape_BadShape : PySem.W.exmOne K (.ref (He.ga K "BadShape")) (.ref (He.ga K "BadShape")) = some true
  f_look_corners : ∃ fd, FunD K "look_corners" "look_corners" (defArgs (top 33)) (defBody (top 33)) (defScope (top 33)) [] [] (He.ga K "look_corners") fd
  g_look_corners : mg "look_corners" = some (.ref (He.ga K "look_corners"))
  c_MASS : Glc K mg "MASS" (.int 1000000)
  f_look_parts : ∃ fd, FunD K "look_parts" "look_parts" (defArgs (top 34)) (defBody (top 34)) (defScope (top 34)) [] [("lightest", .int 0), ("needs_rail", .bl false)] (He.ga K "look_parts") fd
  g_look_parts : mg "look_parts" = some (.ref (He.ga K "look_parts"))
  f_wall : ∃ fd, FunD K "wall" "wall" (defArgs (top 35)) (defBody (top 35)) (defScope (top 35)) [] [("at", .ref (He.ga K "STILL"))] (He.ga K "wall") fd
  g_wall : mg "wall" = some (.ref (He.ga K "wall"))
  g_STILL : mg "STILL" = some (.ref (He.ga K "STILL"))
  f_free : ∃ fd, FunD K "free" "free" (defArgs (top 36)) (defBody (top 36)) (defScope (top 36)) [] [("mass", .int 1), ("at", .ref (He.ga K "STILL")), ("speed", .ref (He.ga K "STILL"))] (He.ga K "free") fd
  g_free : mg "free" = some (.ref (He.ga K "free"))
  f_railed : ∃ fd, FunD K "railed" "railed" (defArgs (top 37)) (defBody (top 37)) (defScope (top 37)) [] [("mass", .int 1), ("at", .ref (He.ga K "STILL")), ("speed", .ref (He.ga K "STILL"))] (He.ga K "railed") fd
  g_railed : mg "railed" = some (.ref (He.ga K "railed"))
  f__law_cell : ∃ fd, FunD K "_law_cell" "_law_cell" (defArgs (top 39)) (defBody (top 39)) (defScope (top 39)) [] [] (He.ga K "_law_cell") fd
  g__law_cell : mg "_law_cell" = some (.ref (He.ga K "_law_cell"))
  f__law_mixed : ∃ fd, FunD K "_law_mixed" "_law_mixed" (defArgs (top 40)) (defBody (top 40)) (defScope (top 40)) [] [] (He.ga K "_law_mixed") fd
  g__law_mixed : mg "_law_mixed" = some (.ref (He.ga K "_law_mixed"))
  f__law_deck : ∃ fd, FunD K "_law_deck" "_law_deck" (defArgs (top 41)) (defBody (top 41)) (defScope (top 41)) [] [] (He.ga K "_law_deck") fd
  g__law_deck : mg "_law_deck" = some (.ref (He.ga K "_law_deck"))
  f__law_take : ∃ fd, FunD K "_law_take" "_law_take" (defArgs (top 42)) (defBody (top 42)) (defScope (top 42)) [] [] (He.ga K "_law_take") fd
  g__law_take : mg "_law_take" = some (.ref (He.ga K "_law_take"))
  f__law_gcd : ∃ fd, FunD K "_law_gcd" "_law_gcd" (defArgs (top 43)) (defBody (top 43)) (defScope (top 43)) [] [] (He.ga K "_law_gcd") fd
  g__law_gcd : mg "_law_gcd" = some (.ref (He.ga K "_law_gcd"))
  f__law_left : ∃ fd, FunD K "_law_left" "_law_left" (defArgs (top 44)) (defBody (top 44)) (defScope (top 44)) [] [] (He.ga K "_law_left") fd
  g__law_left : mg "_law_left" = some (.ref (He.ga K "_law_left"))
  f__law_half : ∃ fd, FunD K "_law_half" "_law_half" (defArgs (top 45)) (defBody (top 45)) (defScope (top 45)) [] [] (He.ga K "_law_half") fd
  g__law_half : mg "_law_half" = some (.ref (He.ga K "_law_half"))
  z_sorted : mg "sorted" = none
  f__law_hull : ∃ fd, FunD K "_law_hull" "_law_hull" (defArgs (top 46)) (defBody (top 46)) (defScope (top 46)) [] [] (He.ga K "_law_hull") fd
  g__law_hull : mg "_law_hull" = some (.ref (He.ga K "_law_hull"))
  f__law_number : ∃ fd, FunD K "_law_number" "_law_number" (defArgs (top 47)) (defBody (top 47)) (defScope (top 47)) [] [] (He.ga K "_law_number") fd
  g__law_number : mg "_law_number" = some (.ref (He.ga K "_law_number"))
  f__law_whole : ∃ fd, FunD K "_law_whole" "_law_whole" (defArgs (top 48)) (defBody (top 48)) (defScope (top 48)) [] [] (He.ga K "_law_whole") fd
  g__law_whole : mg "_law_whole" = some (.ref (He.ga K "_law_whole"))
  z_range : mg "range" = none
  f__law_is_round : ∃ fd, FunD K "_law_is_round" "_law_is_round" (defArgs (top 49)) (defBody (top 49)) (defScope (top 49)) [] [] (He.ga K "_law_is_round") fd
  g__law_is_round : mg "_law_is_round" = some (.ref (He.ga K "_law_is_round"))
  z_max : mg "max" = none
  f__law_is_spot : ∃ fd, FunD K "_law_is_spot" "_law_is_spot" (defArgs (top 50)) (defBody (top 50)) (defScope (top 50)) [] [] (He.ga K "_law_is_spot") fd
  g__law_is_spot : mg "_law_is_spot" = some (.ref (He.ga K "_law_is_spot"))
  f__law_is_rail : ∃ fd, FunD K "_law_is_rail" "_law_is_rail" (defArgs (top 51)) (defBody (top 51)) (defScope (top 51)) [] [] (He.ga K "_law_is_rail") fd
  g__law_is_rail : mg "_law_is_rail" = some (.ref (He.ga K "_law_is_rail"))
  f__law_wrong : ∃ fd, FunD K "_law_wrong" "_law_wrong" (defArgs (top 52)) (defBody (top 52)) (defScope (top 52)) [] [] (He.ga K "_law_wrong") fd
  g__law_wrong : mg "_law_wrong" = some (.ref (He.ga K "_law_wrong"))
  f__law_due : ∃ fd, FunD K "_law_due" "_law_due" (defArgs (top 53)) (defBody (top 53)) (defScope (top 53)) [] [] (He.ga K "_law_due") fd
  g__law_due : mg "_law_due" = some (.ref (He.ga K "_law_due"))
  f__law_name : ∃ fd, FunD K "_law_name" "_law_name" (defArgs (top 54)) (defBody (top 54)) (defScope (top 54)) [] [] (He.ga K "_law_name") fd
  g__law_name : mg "_law_name" = some (.ref (He.ga K "_law_name"))
  f__law_share : ∃ fd, FunD K "_law_share" "_law_share" (defArgs (top 55)) (defBody (top 55)) (defScope (top 55)) [] [] (He.ga K "_law_share") fd
  g__law_share : mg "_law_share" = some (.ref (He.ga K "_law_share"))
  f__law_rail : ∃ fd, FunD K "_law_rail" "_law_rail" (defArgs (top 56)) (defBody (top 56)) (defScope (top 56)) [] [] (He.ga K "_law_rail") fd
  g__law_rail : mg "_law_rail" = some (.ref (He.ga K "_law_rail"))
  f__law_times : ∃ fd, FunD K "_law_times" "_law_times" (defArgs (top 57)) (defBody (top 57)) (defScope (top 57)) [] [] (He.ga K "_law_times") fd
  g__law_times : mg "_law_times" = some (.ref (He.ga K "_law_times"))
  f__law_things : ∃ fd, FunD K "_law_things" "_law_things" (defArgs (top 58)) (defBody (top 58)) (defScope (top 58)) [] [] (He.ga K "_law_things") fd
  g__law_things : mg "_law_things" = some (.ref (He.ga K "_law_things"))
  f__law_spoil : ∃ fd, FunD K "_law_spoil" "_law_spoil" (defArgs (top 59)) (defBody (top 59)) (defScope (top 59)) [] [] (He.ga K "_law_spoil") fd
  g__law_spoil : mg "_law_spoil" = some (.ref (He.ga K "_law_spoil"))
  f__law_free_made : ∃ fd, FunD K "_law_free_made" "_law_free_made" (defArgs (top 60)) (defBody (top 60)) (defScope (top 60)) [] [] (He.ga K "_law_free_made") fd
  g__law_free_made : mg "_law_free_made" = some (.ref (He.ga K "_law_free_made"))
  f__law_railed_made : ∃ fd, FunD K "_law_railed_made" "_law_railed_made" (defArgs (top 61)) (defBody (top 61)) (defScope (top 61)) [] [] (He.ga K "_law_railed_made") fd
  g__law_railed_made : mg "_law_railed_made" = some (.ref (He.ga K "_law_railed_made"))
  f__law_made : ∃ fd, FunD K "_law_made" "_law_made" (defArgs (top 62)) (defBody (top 62)) (defScope (top 62)) [] [] (He.ga K "_law_made") fd
  g__law_made : mg "_law_made" = some (.ref (He.ga K "_law_made"))
  z_zip : mg "zip" = none
  f__law_alike : ∃ fd, FunD K "_law_alike" "_law_alike" (defArgs (top 63)) (defBody (top 63)) (defScope (top 63)) [] [] (He.ga K "_law_alike") fd
  g__law_alike : mg "_law_alike" = some (.ref (He.ga K "_law_alike"))
  g_BadRow : mg "BadRow" = some (.ref (He.ga K "BadRow"))
  m_BadRow_BadRow : PySem.W.exmOne K (.ref (He.ga K "BadRow")) (.ref (He.ga K "BadRow")) = some true
  z_ValueError : mg "ValueError" = none
  e_BadRow : ExcC K (He.ga K "BadRow")
  k_BadRow_ValueError : PySem.W.kitOne K (.ref (He.ga K "BadRow")) (.type "ValueError") = some true
  g_BodyError : mg "BodyError" = some (.ref (He.ga K "BodyError"))
  k_BadRow_BodyError : PySem.W.kitOne K (.ref (He.ga K "BadRow")) (.ref (He.ga K "BodyError")) = some true
  ox_BadRow : OexX K mg "BadRow" ["part"]
  k_BadRow_BadShape : PySem.W.kitOne K (.ref (He.ga K "BadRow")) (.ref (He.ga K "BadShape")) = some false
  f__law_held : ∃ fd, FunD K "_law_held" "_law_held" (defArgs (top 64)) (defBody (top 64)) (defScope (top 64)) [] [] (He.ga K "_law_held") fd
  g__law_held : mg "_law_held" = some (.ref (He.ga K "_law_held"))
  f_law : ∃ fd, FunD K "law" "law" (defArgs (top 65)) (defBody (top 65)) (defScope (top 65)) [] [] (He.ga K "law") fd
  g_law : mg "law" = some (.ref (He.ga K "law"))
  f_BadRow__init : ∃ fd, FunD K "__init__" "BadRow.__init__" (defArgs (mth 7 0)) (defBody (mth 7 0)) (defScope (mth 7 0)) [] [] (He.ma K (He.ga K "BadRow") "__init__") fd
  bx_BodyError : BaseX K mg "BodyError"
section
variable {P : Program} {w : World} {K : Fg} {mg : Str → Option Value} {base : Heap}
theorem sc_BadRow__init : FnScope ["self", "part"] ["self", "part"] (defScope (mth 7 0)) := ⟨rfl, rfl, rfl, by decide +kernel, rfl, by decide +kernel, by decide +kernel⟩
theorem ed_BadRow (T : Fx K mg) : ExD P w K mg base "BadRow" ["part"] okS1v := by
  obtain ⟨fd, F⟩ := T.f_BadRow__init
  exact exd_one T.ox_BadRow F sc_BadRow__init rfl rfl (F.bindsN (fun _ _ _ _ _ _ us hl => match us, hl with | [_, _], _ => rfl)) (fun _ _ _ _ h q => hta_cat1 (by decide) h q) (fun cdv A outer s H E hr => pss_cons (ps_expr (pe_beinit T.bx_BodyError (by rfl) (pa_cons (pv 0) (pa_cons (pe_op op_add4 pe_str (pv 1)) pa_nil)))) (pss_one (ps_ost (pv 0) (pv 1))))
theorem edH_BadRow (T : Fx K mg) : ExDH P w K mg base "BadRow" ["part"] okS1v := by
  obtain ⟨fd, F⟩ := T.f_BadRow__init
  exact exd_oneH T.ox_BadRow F sc_BadRow__init rfl rfl (F.bindsN (fun _ _ _ _ _ _ us hl => match us, hl with | [_, _], _ => rfl)) (fun _ _ _ _ h q => hta_cat1 (by decide) h q) (fun cdv A outer s H E p hr => pss_cons (ps_expr (pe_beinit T.bx_BodyError (by rfl) (pa_cons (pv 0) (pa_cons (pe_op op_add4 pe_str (pv 1)) pa_nil)))) (pss_one (ps_ost (pv 0) (pv 1))))
abbrev N_is_whole : List Str := ["thing"]
theorem sc_is_whole : FnScope N_is_whole ["thing"] (defScope (top 11)) := ⟨rfl, rfl, rfl, by decide +kernel, rfl, by decide +kernel, by decide +kernel⟩
theorem w_is_whole (T : Fx K mg) (fd : FuncData) (cdv : Value) (A : Around) (outer : List Env) (s : Shared) (H : Hp) (E : XK) (hr : Room 0 (A.deeper (envOfC "is_whole" (defScope (top 11)) s.heap.objs.size (He.ga K "is_whole") cdv))) :
    PSs (cxOf (L2.CX P w) P w K mg base N_is_whole "is_whole" (defScope (top 11)) (He.ga K "is_whole") cdv A outer s H E) (defBody (top 11)) (tS K (fun cls d _ H => E cls d H) b_is_whole) := by
  have tk := tk_cx (P := P) (w := w) (K := K) (mg := mg) (base := base) (N := N_is_whole) (qual := "is_whole") (scope := defScope (top 11)) (f := He.ga K "is_whole") (cd := cdv) (A := A) (outer := outer) (s := s) (H := H) (E := E)
  exact (mss_one (ms_ret (me_and (me_callB call_isi c_isi (by rfl) T.z_isinstance (by decide +kernel) (maw_cons (me_varW (pv 0)) (maw_cons (weak (me_type (by rfl) T.z_int (by decide +kernel))) maw_nil))) (me_one (me_not (me_callB call_isi c_isi (by rfl) T.z_isinstance (by decide +kernel) (maw_cons (me_varW (pv 0)) (maw_cons (weak (me_type (by rfl) T.z_bool (by decide +kernel))) maw_nil))))))))
theorem d_is_whole (T : Fx K mg) : Def P w K mg base 1 "is_whole" 1 [] m_is_whole := by
  obtain ⟨fd, F⟩ := T.f_is_whole
  exact Def.mk' (ps := ["thing"]) (N := N_is_whole) (k := 0) F T.g_is_whole sc_is_whole b_is_whole ⟨[], [], .nil, F.bindsN (fun _ _ _ _ _ _ us hl => match us, hl with | [_], _ => rfl), fun _ _ => .nil⟩ (fun cdv A outer s H E hr => w_is_whole T fd cdv A outer s H E hr)
abbrev N_divisor : List Str := ["one", "other"]
theorem sc_divisor : FnScope N_divisor ["one", "other"] (defScope (top 12)) := ⟨rfl, rfl, rfl, by decide +kernel, rfl, by decide +kernel, by decide +kernel⟩
theorem w_divisor (T : Fx K mg) (fd : FuncData) (cdv : Value) (A : Around) (outer : List Env) (s : Shared) (H : Hp) (E : XK) (hr : Room 0 (A.deeper (envOfC "divisor" (defScope (top 12)) s.heap.objs.size (He.ga K "divisor") cdv))) :
    PSs (cxOf (L2.CX P w) P w K mg base N_divisor "divisor" (defScope (top 12)) (He.ga K "divisor") cdv A outer s H E) (defBody (top 12)) (tS K (fun cls d _ H => E cls d H) b_divisor) := by
  have tk := tk_cx (P := P) (w := w) (K := K) (mg := mg) (base := base) (N := N_divisor) (qual := "divisor") (scope := defScope (top 12)) (f := He.ga K "divisor") (cd := cdv) (A := A) (outer := outer) (s := s) (H := H) (E := E)
  exact (mss_cons (ms_par (ps_par (i := 0) (j := 1) rfl sc_divisor.nd rfl rfl (by decide) rfl rfl (ma_cons (me_callB call_abs c_abs (by rfl) T.z_abs (by decide +kernel) (maw_cons (me_varW (pv 0)) maw_nil)) (ma_cons (me_callB call_abs c_abs (by rfl) T.z_abs (by decide +kernel) (maw_cons (me_varW (pv 1)) maw_nil)) ma_nil)) (by rfl)))
  (mss_cons (ms_while po_cx (mt_cmp2 op_gt o_gt (me_varW (pv 1)) (weak me_int) (nomark _)) (mss_one (ms_par (ps_par (i := 0) (j := 1) rfl sc_divisor.nd rfl rfl (by decide) rfl rfl (ma_cons (me_var (pv 1)) (ma_cons (me_op2 op_modN o_mod (me_varW (pv 0)) (me_varW (pv 1))) ma_nil)) (by rfl)))))
  (mss_one (ms_ret (me_var (pv 0))))))
theorem d_divisor (T : Fx K mg) : Def P w K mg base 1 "divisor" 2 [] m_divisor := by
  obtain ⟨fd, F⟩ := T.f_divisor
  exact Def.mk' (ps := ["one", "other"]) (N := N_divisor) (k := 0) F T.g_divisor sc_divisor b_divisor ⟨[], [], .nil, F.bindsN (fun _ _ _ _ _ _ us hl => match us, hl with | [_, _], _ => rfl), fun _ _ => .nil⟩ (fun cdv A outer s H E hr => w_divisor T fd cdv A outer s H E hr)
abbrev N_is_share : List Str := ["thing"]
theorem sc_is_share : FnScope N_is_share ["thing"] (defScope (top 13)) := ⟨rfl, rfl, rfl, by decide +kernel, rfl, by decide +kernel, by decide +kernel⟩
theorem w_is_share (T : Fx K mg) (fd : FuncData) (cdv : Value) (A : Around) (outer : List Env) (s : Shared) (H : Hp) (E : XK) (hr : Room 1 (A.deeper (envOfC "is_share" (defScope (top 13)) s.heap.objs.size (He.ga K "is_share") cdv))) :
    PSs (cxOf (L2.CX P w) P w K mg base N_is_share "is_share" (defScope (top 13)) (He.ga K "is_share") cdv A outer s H E) (defBody (top 13)) (tS K (fun cls d _ H => E cls d H) b_is_share) := by
  have tk := tk_cx (P := P) (w := w) (K := K) (mg := mg) (base := base) (N := N_is_share) (qual := "is_share") (scope := defScope (top 13)) (f := He.ga K "is_share") (cd := cdv) (A := A) (outer := outer) (s := s) (H := H) (E := E)
  exact (mss_cons (ms_if (PW.pt (mw_or (mt_not (mt_truth (weak (me_callB call_isi c_isi (by rfl) T.z_isinstance (by decide +kernel) (maw_cons (me_varW (pv 0)) (maw_cons (weak (me_type (by rfl) T.z_tuple (by decide +kernel))) maw_nil)))))) (mw_or1 (mt_cmp2 (op_neD hr.units) o_ne (weak (me_callB call_len3 c_len (by rfl) T.z_len (by decide +kernel) (maw_cons (me_varW (pv 0)) maw_nil))) (weak me_int) (nomark _))))) (mss_one (ms_ret me_bl)) mss_nil)
  (mss_cons (ms_if (PW.pt (mw_or (mt_not (mt_truth (weak (me_call ((d_is_whole T).mono (by decide)) hr tk (by rfl) (alen_cons alen_nil) (ma_cons (me_ix ix_seq o_ix (me_varW (pv 0)) (weak me_int) (fun _ _ => rfl)) ma_nil))))) (mw_or (mt_not (mt_truth (weak (me_call ((d_is_whole T).mono (by decide)) hr tk (by rfl) (alen_cons alen_nil) (ma_cons (me_ix ix_seq o_ix (me_varW (pv 0)) (weak me_int) (fun _ _ => rfl)) ma_nil))))) (mw_or1 (mt_cmp2 op_lt o_lt (weak (me_ix ix_seq o_ix (me_varW (pv 0)) (weak me_int) (fun _ _ => rfl))) (weak me_int) (nomark _)))))) (mss_one (ms_ret me_bl)) mss_nil)
  (mss_one (ms_ret (me_cmp2 (op_eqD hr.units) o_eq (weak (me_call ((d_divisor T).mono (by decide)) hr tk (by rfl) (alen_cons (alen_cons alen_nil)) (ma_cons (me_ix ix_seq o_ix (me_varW (pv 0)) (weak me_int) (fun _ _ => rfl)) (ma_cons (me_ix ix_seq o_ix (me_varW (pv 0)) (weak me_int) (fun _ _ => rfl)) ma_nil)))) (weak me_int) (nomark _))))))
theorem d_is_share (T : Fx K mg) : Def P w K mg base 2 "is_share" 1 [] m_is_share := by
  obtain ⟨fd, F⟩ := T.f_is_share
  exact Def.mk' (ps := ["thing"]) (N := N_is_share) (k := 1) F T.g_is_share sc_is_share b_is_share ⟨[], [], .nil, F.bindsN (fun _ _ _ _ _ _ us hl => match us, hl with | [_], _ => rfl), fun _ _ => .nil⟩ (fun cdv A outer s H E hr => w_is_share T fd cdv A outer s H E hr)
abbrev N_is_fine : List Str := ["thing"]
theorem sc_is_fine : FnScope N_is_fine ["thing"] (defScope (top 14)) := ⟨rfl, rfl, rfl, by decide +kernel, rfl, by decide +kernel, by decide +kernel⟩
theorem w_is_fine (T : Fx K mg) (fd : FuncData) (cdv : Value) (A : Around) (outer : List Env) (s : Shared) (H : Hp) (E : XK) (hr : Room 2 (A.deeper (envOfC "is_fine" (defScope (top 14)) s.heap.objs.size (He.ga K "is_fine") cdv))) :
    PSs (cxOf (L2.CX P w) P w K mg base N_is_fine "is_fine" (defScope (top 14)) (He.ga K "is_fine") cdv A outer s H E) (defBody (top 14)) (tS K (fun cls d _ H => E cls d H) b_is_fine) := by
  have tk := tk_cx (P := P) (w := w) (K := K) (mg := mg) (base := base) (N := N_is_fine) (qual := "is_fine") (scope := defScope (top 14)) (f := He.ga K "is_fine") (cd := cdv) (A := A) (outer := outer) (s := s) (H := H) (E := E)
  exact (mss_one (ms_ret (me_and (me_call ((d_is_share T).mono (by decide)) hr tk (by rfl) (alen_cons alen_nil) (ma_cons (me_var (pv 0)) ma_nil)) (me_and (me_cmp2 op_lt o_lt (weak (me_callB call_abs c_abs (by rfl) T.z_abs (by decide +kernel) (maw_cons (weak (me_ix ix_seq o_ix (me_varW (pv 0)) (weak me_int) (fun _ _ => rfl))) maw_nil))) (weak (me_g T.c_GREATEST (by rfl))) (nomark _)) (me_one (me_cmp2 op_lt o_lt (weak (me_ix ix_seq o_ix (me_varW (pv 0)) (weak me_int) (fun _ _ => rfl))) (weak (me_g T.c_GREATEST (by rfl))) (nomark _)))))))
theorem d_is_fine (T : Fx K mg) : Def P w K mg base 3 "is_fine" 1 [] m_is_fine := by
  obtain ⟨fd, F⟩ := T.f_is_fine
  exact Def.mk' (ps := ["thing"]) (N := N_is_fine) (k := 2) F T.g_is_fine sc_is_fine b_is_fine ⟨[], [], .nil, F.bindsN (fun _ _ _ _ _ _ us hl => match us, hl with | [_], _ => rfl), fun _ _ => .nil⟩ (fun cdv A outer s H E hr => w_is_fine T fd cdv A outer s H E hr)
abbrev N_share : List Str := ["top", "bottom", "part"]
theorem sc_share : FnScope N_share ["top", "bottom"] (defScope (top 15)) := ⟨rfl, rfl, rfl, by decide +kernel, rfl, by decide +kernel, by decide +kernel⟩
theorem w_share (T : Fx K mg) (fd : FuncData) (cdv : Value) (A : Around) (outer : List Env) (s : Shared) (H : Hp) (E : XK) (hr : Room 1 (A.deeper (envOfC "share" (defScope (top 15)) s.heap.objs.size (He.ga K "share") cdv))) :
    PSs (cxOf (L2.CX P w) P w K mg base N_share "share" (defScope (top 15)) (He.ga K "share") cdv A outer s H E) (defBody (top 15)) (tS K (fun cls d _ H => E cls d H) b_share) := by
  have tk := tk_cx (P := P) (w := w) (K := K) (mg := mg) (base := base) (N := N_share) (qual := "share") (scope := defScope (top 15)) (f := He.ga K "share") (cd := cdv) (A := A) (outer := outer) (s := s) (H := H) (E := E)
  exact (mss_cons (ms_if (mt_cmp2 (op_eqD hr.units) o_eq (me_varW (pv 1)) (weak me_int) (nomark _)) (mss_one (ms_raise rfl tk (pmk_own PySem.F.excBase_ValueError T.x_NoShare.x T.x_NoShare.g T.x_NoShare.k (raises_own T.x_NoShare.b T.x_NoShare.t) (by rfl)))) mss_nil)
  (mss_cons (ms_set (ps_set (i := 2) sc_share.nd rfl (Or.inl rfl) (me_call ((d_divisor T).mono (by decide)) hr tk (by rfl) (alen_cons (alen_cons alen_nil)) (ma_cons (me_var (pv 0)) (ma_cons (me_var (pv 1)) ma_nil)))))
  (mss_cons (ms_if (mt_cmp2 op_lt o_lt (me_varW (pv 1)) (weak me_int) (nomark _)) (mss_one (ms_set (ps_set (i := 2) sc_share.nd rfl (Or.inl rfl) (me_un un_neg o_neg (me_varW (pv 2)))))) mss_nil)
  (mss_one (ms_ret (me_tup (ma_cons (me_op2 op_fdivB o_div (me_varW (pv 0)) (me_varW (pv 2))) (ma_cons (me_op2 op_fdivB o_div (me_varW (pv 1)) (me_varW (pv 2))) ma_nil))))))))
theorem d_share (T : Fx K mg) : Def P w K mg base 2 "share" 2 [] m_share := by
  obtain ⟨fd, F⟩ := T.f_share
  exact Def.mk' (ps := ["top", "bottom"]) (N := N_share) (k := 1) F T.g_share sc_share b_share (by
    obtain ⟨ds, h1, h2⟩ := F.binds1 (ps := ["top", "bottom"]) 2 1 (by simp) rfl (fun _ _ _ _ _ _ _ us its hu hi => match us, its, hu, hi with | [_, _], [_], _, _ => ⟨_, rfl, rfl⟩)
    exact ⟨ds, _, h1, h2, fun _ _ => .nil⟩) (fun cdv A outer s H E hr => w_share T fd cdv A outer s H E hr)
abbrev N_is_spot : List Str := ["thing", "one"]
theorem sc_is_spot : FnScope N_is_spot ["thing"] (defScope (top 18)) := ⟨rfl, rfl, rfl, by decide +kernel, rfl, by decide +kernel, by decide +kernel⟩
theorem w_is_spot (T : Fx K mg) (fd : FuncData) (cdv : Value) (A : Around) (outer : List Env) (s : Shared) (H : Hp) (E : XK) (hr : Room 2 (A.deeper (envOfC "is_spot" (defScope (top 18)) s.heap.objs.size (He.ga K "is_spot") cdv))) :
    PSs (cxOf (L2.CX P w) P w K mg base N_is_spot "is_spot" (defScope (top 18)) (He.ga K "is_spot") cdv A outer s H E) (defBody (top 18)) (tS K (fun cls d _ H => E cls d H) b_is_spot) := by
  have tk := tk_cx (P := P) (w := w) (K := K) (mg := mg) (base := base) (N := N_is_spot) (qual := "is_spot") (scope := defScope (top 18)) (f := He.ga K "is_spot") (cd := cdv) (A := A) (outer := outer) (s := s) (H := H) (E := E)
  exact (mss_one (ms_ret (me_and (me_callB call_isi c_isi (by rfl) T.z_isinstance (by decide +kernel) (maw_cons (me_varW (pv 0)) (maw_cons (weak (me_type (by rfl) T.z_tuple (by decide +kernel))) maw_nil))) (me_and (me_cmp2 (op_eqD hr.units) o_eq (weak (me_callB call_len3 c_len (by rfl) T.z_len (by decide +kernel) (maw_cons (me_varW (pv 0)) maw_nil))) (weak me_int) (nomark _)) (me_one (me_callB (cr_all rfl) c_all (by rfl) T.z_all (by decide +kernel) (maw_cons (weak (me_new (mf_lc (own := [("one", 1)]) (ws := [1]) rfl sc_is_spot.nd (toO (mi_seq (me_var (pv 0)))) (blkOk_by (N := N_is_spot) (sc := defScope (top 18)) (by decide +kernel)) (by decide) (fun _ _ _ _ _ => (mg_name (pg_name (i := 1) sc_is_spot.nd rfl (Or.inl rfl)))) (fun _ _ _ _ _ => mts_nil) (fun _ _ _ _ _ => (me_call ((d_is_share T).mono (by decide)) hr takes0 (by rfl) (alen_cons alen_nil) (ma_cons (me_var (pv 1)) ma_nil)))))) maw_nil)))))))
theorem d_is_spot (T : Fx K mg) : Def P w K mg base 3 "is_spot" 1 [] m_is_spot := by
  obtain ⟨fd, F⟩ := T.f_is_spot
  exact Def.mk' (ps := ["thing"]) (N := N_is_spot) (k := 2) F T.g_is_spot sc_is_spot b_is_spot ⟨[], [], .nil, F.bindsN (fun _ _ _ _ _ _ us hl => match us, hl with | [_], _ => rfl), fun _ _ => .nil⟩ (fun cdv A outer s H E hr => w_is_spot T fd cdv A outer s H E hr)
abbrev N_is_fine_spot : List Str := ["thing", "one"]
theorem sc_is_fine_spot : FnScope N_is_fine_spot ["thing"] (defScope (top 19)) := ⟨rfl, rfl, rfl, by decide +kernel, rfl, by decide +kernel, by decide +kernel⟩
theorem w_is_fine_spot (T : Fx K mg) (fd : FuncData) (cdv : Value) (A : Around) (outer : List Env) (s : Shared) (H : Hp) (E : XK) (hr : Room 3 (A.deeper (envOfC "is_fine_spot" (defScope (top 19)) s.heap.objs.size (He.ga K "is_fine_spot") cdv))) :
    PSs (cxOf (L2.CX P w) P w K mg base N_is_fine_spot "is_fine_spot" (defScope (top 19)) (He.ga K "is_fine_spot") cdv A outer s H E) (defBody (top 19)) (tS K (fun cls d _ H => E cls d H) b_is_fine_spot) := by
  have tk := tk_cx (P := P) (w := w) (K := K) (mg := mg) (base := base) (N := N_is_fine_spot) (qual := "is_fine_spot") (scope := defScope (top 19)) (f := He.ga K "is_fine_spot") (cd := cdv) (A := A) (outer := outer) (s := s) (H := H) (E := E)
  exact (mss_one (ms_ret (me_and (me_call ((d_is_spot T).mono (by decide)) hr tk (by rfl) (alen_cons alen_nil) (ma_cons (me_var (pv 0)) ma_nil)) (me_one (me_callB (cr_all rfl) c_all (by rfl) T.z_all (by decide +kernel) (maw_cons (weak (me_new (mf_lc (own := [("one", 1)]) (ws := [1]) rfl sc_is_fine_spot.nd (toO (mi_seq (me_var (pv 0)))) (blkOk_by (N := N_is_fine_spot) (sc := defScope (top 19)) (by decide +kernel)) (by decide) (fun _ _ _ _ _ => (mg_name (pg_name (i := 1) sc_is_fine_spot.nd rfl (Or.inl rfl)))) (fun _ _ _ _ _ => mts_nil) (fun _ _ _ _ _ => (me_call ((d_is_fine T).mono (by decide)) hr takes0 (by rfl) (alen_cons alen_nil) (ma_cons (me_var (pv 1)) ma_nil)))))) maw_nil))))))
theorem d_is_fine_spot (T : Fx K mg) : Def P w K mg base 4 "is_fine_spot" 1 [] m_is_fine_spot := by
  obtain ⟨fd, F⟩ := T.f_is_fine_spot
  exact Def.mk' (ps := ["thing"]) (N := N_is_fine_spot) (k := 3) F T.g_is_fine_spot sc_is_fine_spot b_is_fine_spot ⟨[], [], .nil, F.bindsN (fun _ _ _ _ _ _ us hl => match us, hl with | [_], _ => rfl), fun _ _ => .nil⟩ (fun cdv A outer s H E hr => w_is_fine_spot T fd cdv A outer s H E hr)
abbrev N_is_way : List Str := ["thing", "one"]
theorem sc_is_way : FnScope N_is_way ["thing"] (defScope (top 20)) := ⟨rfl, rfl, rfl, by decide +kernel, rfl, by decide +kernel, by decide +kernel⟩
theorem w_is_way (T : Fx K mg) (fd : FuncData) (cdv : Value) (A : Around) (outer : List Env) (s : Shared) (H : Hp) (E : XK) (hr : Room 1 (A.deeper (envOfC "is_way" (defScope (top 20)) s.heap.objs.size (He.ga K "is_way") cdv))) :
    PSs (cxOf (L2.CX P w) P w K mg base N_is_way "is_way" (defScope (top 20)) (He.ga K "is_way") cdv A outer s H E) (defBody (top 20)) (tS K (fun cls d _ H => E cls d H) b_is_way) := by
  have tk := tk_cx (P := P) (w := w) (K := K) (mg := mg) (base := base) (N := N_is_way) (qual := "is_way") (scope := defScope (top 20)) (f := He.ga K "is_way") (cd := cdv) (A := A) (outer := outer) (s := s) (H := H) (E := E)
  exact (mss_cons (ms_if (PW.pt (mw_or (mt_not (mt_truth (weak (me_callB call_isi c_isi (by rfl) T.z_isinstance (by decide +kernel) (maw_cons (me_varW (pv 0)) (maw_cons (weak (me_type (by rfl) T.z_tuple (by decide +kernel))) maw_nil)))))) (mw_or (mt_cmp2 (op_neD hr.units) o_ne (weak (me_callB call_len3 c_len (by rfl) T.z_len (by decide +kernel) (maw_cons (me_varW (pv 0)) maw_nil))) (weak me_int) (nomark _)) (mw_or1 (mt_not (mt_truth (weak (me_callB (cr_all rfl) c_all (by rfl) T.z_all (by decide +kernel) (maw_cons (weak (me_new (mf_lc (own := [("one", 1)]) (ws := [1]) rfl sc_is_way.nd (toO (mi_seq (me_var (pv 0)))) (blkOk_by (N := N_is_way) (sc := defScope (top 20)) (by decide +kernel)) (by decide) (fun _ _ _ _ _ => (mg_name (pg_name (i := 1) sc_is_way.nd rfl (Or.inl rfl)))) (fun _ _ _ _ _ => mts_nil) (fun _ _ _ _ _ => (me_call ((d_is_whole T).mono (by decide)) hr takes0 (by rfl) (alen_cons alen_nil) (ma_cons (me_var (pv 1)) ma_nil)))))) maw_nil))))))))) (mss_one (ms_ret me_bl)) mss_nil)
  (mss_one (ms_ret (me_cmp2 (op_eqD hr.units) o_eq (weak (me_call ((d_divisor T).mono (by decide)) hr tk (by rfl) (alen_cons (alen_cons alen_nil)) (ma_cons (me_ix ix_seq o_ix (me_varW (pv 0)) (weak me_int) (fun _ _ => rfl)) (ma_cons (me_ix ix_seq o_ix (me_varW (pv 0)) (weak me_int) (fun _ _ => rfl)) ma_nil)))) (weak me_int) (nomark _)))))
theorem d_is_way (T : Fx K mg) : Def P w K mg base 2 "is_way" 1 [] m_is_way := by
  obtain ⟨fd, F⟩ := T.f_is_way
  exact Def.mk' (ps := ["thing"]) (N := N_is_way) (k := 1) F T.g_is_way sc_is_way b_is_way ⟨[], [], .nil, F.bindsN (fun _ _ _ _ _ _ us hl => match us, hl with | [_], _ => rfl), fun _ _ => .nil⟩ (fun cdv A outer s H E hr => w_is_way T fd cdv A outer s H E hr)
abbrev N_along : List Str := ["way", "spot", "a", "b", "c", "d"]
theorem sc_along : FnScope N_along ["way", "spot"] (defScope (top 21)) := ⟨rfl, rfl, rfl, by decide +kernel, rfl, by decide +kernel, by decide +kernel⟩
theorem w_along (T : Fx K mg) (fd : FuncData) (cdv : Value) (A : Around) (outer : List Env) (s : Shared) (H : Hp) (E : XK) (hr : Room 2 (A.deeper (envOfC "along" (defScope (top 21)) s.heap.objs.size (He.ga K "along") cdv))) :
    PSs (cxOf (L2.CX P w) P w K mg base N_along "along" (defScope (top 21)) (He.ga K "along") cdv A outer s H E) (defBody (top 21)) (tS K (fun cls d _ H => E cls d H) b_along) := by
  have tk := tk_cx (P := P) (w := w) (K := K) (mg := mg) (base := base) (N := N_along) (qual := "along") (scope := defScope (top 21)) (f := He.ga K "along") (cd := cdv) (A := A) (outer := outer) (s := s) (H := H) (E := E)
  exact (mss_cons (ms_asg (me_var (pv 1)) (mg_tup rfl (glen_cons (glen_cons glen_nil)) (mgs_cons (mg_tup rfl (glen_cons (glen_cons glen_nil)) (mgs_cons (mg_name (pg_name (i := 2) sc_along.nd rfl (Or.inl rfl))) (mgs_cons (mg_name (pg_name (i := 3) sc_along.nd rfl (Or.inl rfl))) mgs_nil))) (mgs_cons (mg_tup rfl (glen_cons (glen_cons glen_nil)) (mgs_cons (mg_name (pg_name (i := 4) sc_along.nd rfl (Or.inl rfl))) (mgs_cons (mg_name (pg_name (i := 5) sc_along.nd rfl (Or.inl rfl))) mgs_nil))) mgs_nil))))
  (mss_one (ms_ret (me_call ((d_share T).mono (by decide)) hr tk (by rfl) (alen_cons (alen_cons alen_nil)) (ma_cons (me_op2 op_add4 o_add (weak (me_op2 op_mulW o_mul (weak (me_op2 op_mulW o_mul (weak (me_ix ix_seq o_ix (me_varW (pv 0)) (weak me_int) (fun _ _ => rfl))) (me_varW (pv 2)))) (me_varW (pv 5)))) (weak (me_op2 op_mulW o_mul (weak (me_op2 op_mulW o_mul (weak (me_ix ix_seq o_ix (me_varW (pv 0)) (weak me_int) (fun _ _ => rfl))) (me_varW (pv 4)))) (me_varW (pv 3))))) (ma_cons (me_op2 op_mulW o_mul (me_varW (pv 3)) (me_varW (pv 5))) ma_nil))))))
theorem d_along (T : Fx K mg) : Def P w K mg base 3 "along" 2 [] m_along := by
  obtain ⟨fd, F⟩ := T.f_along
  exact Def.mk' (ps := ["way", "spot"]) (N := N_along) (k := 2) F T.g_along sc_along b_along ⟨[], [], .nil, F.bindsN (fun _ _ _ _ _ _ us hl => match us, hl with | [_, _], _ => rfl), fun _ _ => .nil⟩ (fun cdv A outer s H E hr => w_along T fd cdv A outer s H E hr)
abbrev N_across : List Str := ["way", "spot"]
theorem sc_across : FnScope N_across ["way", "spot"] (defScope (top 22)) := ⟨rfl, rfl, rfl, by decide +kernel, rfl, by decide +kernel, by decide +kernel⟩
theorem w_across (T : Fx K mg) (fd : FuncData) (cdv : Value) (A : Around) (outer : List Env) (s : Shared) (H : Hp) (E : XK) (hr : Room 3 (A.deeper (envOfC "across" (defScope (top 22)) s.heap.objs.size (He.ga K "across") cdv))) :
    PSs (cxOf (L2.CX P w) P w K mg base N_across "across" (defScope (top 22)) (He.ga K "across") cdv A outer s H E) (defBody (top 22)) (tS K (fun cls d _ H => E cls d H) b_across) := by
  have tk := tk_cx (P := P) (w := w) (K := K) (mg := mg) (base := base) (N := N_across) (qual := "across") (scope := defScope (top 22)) (f := He.ga K "across") (cd := cdv) (A := A) (outer := outer) (s := s) (H := H) (E := E)
  exact (mss_one (ms_ret (me_call ((d_along T).mono (by decide)) hr tk (by rfl) (alen_cons (alen_cons alen_nil)) (ma_cons (me_tup (ma_cons (me_un un_neg o_neg (weak (me_ix ix_seq o_ix (me_varW (pv 0)) (weak me_int) (fun _ _ => rfl)))) (ma_cons (me_ix ix_seq o_ix (me_varW (pv 0)) (weak me_int) (fun _ _ => rfl)) ma_nil))) (ma_cons (me_var (pv 1)) ma_nil)))))
theorem d_across (T : Fx K mg) : Def P w K mg base 4 "across" 2 [] m_across := by
  obtain ⟨fd, F⟩ := T.f_across
  exact Def.mk' (ps := ["way", "spot"]) (N := N_across) (k := 3) F T.g_across sc_across b_across ⟨[], [], .nil, F.bindsN (fun _ _ _ _ _ _ us hl => match us, hl with | [_, _], _ => rfl), fun _ _ => .nil⟩ (fun cdv A outer s H E hr => w_across T fd cdv A outer s H E hr)
abbrev N_look_corner : List Str := ["thing", "number"]
theorem sc_look_corner : FnScope N_look_corner ["thing"] (defScope (top 24)) := ⟨rfl, rfl, rfl, by decide +kernel, rfl, by decide +kernel, by decide +kernel⟩
theorem w_look_corner (T : Fx K mg) (fd : FuncData) (cdv : Value) (A : Around) (outer : List Env) (s : Shared) (H : Hp) (E : XK) (hr : Room 1 (A.deeper (envOfC "look_corner" (defScope (top 24)) s.heap.objs.size (He.ga K "look_corner") cdv))) :
    PSs (cxOf (L2N.CX P w) P w K mg base N_look_corner "look_corner" (defScope (top 24)) (He.ga K "look_corner") cdv A outer s H E) (defBody (top 24)) (tS K (fun cls d _ H => E cls d H) b_look_corner) := by
  have tk := tk_cxN (P := P) (w := w) (K := K) (mg := mg) (base := base) (N := N_look_corner) (qual := "look_corner") (scope := defScope (top 24)) (f := He.ga K "look_corner") (cd := cdv) (A := A) (outer := outer) (s := s) (H := H) (E := E)
  exact (mss_cons (ms_if (PW.pt (mw_or (mt_not (mt_truth (weak (me_isi2 (by rfl) T.z_isinstance (me_varW (pv 0)) (pe_bltn (v := .ty "list") (by rfl) T.z_list (by decide +kernel) rfl) (pe_bltn (v := .ty "tuple") (by rfl) T.z_tuple (by decide +kernel) rfl))))) (mw_or1 (mt_cmp2 (op_neD hr.units) o_ne (weak (me_callB call_len3 c_len (by rfl) T.z_len (by decide +kernel) (maw_cons (me_varW (pv 0)) maw_nil))) (weak me_int) (nomark _))))) (mss_one (ms_raiseN rfl tk (pmk_ownN PySem.F.excBase_ValueError T.x_BadShape.x T.x_BadShape.g T.x_BadShape.k (raises_own T.x_BadShape.b T.x_BadShape.t) (by rfl)))) mss_nil)
  (mss_cons (ms_for po_cxN rfl (mi_seq (me_var (pv 0))) (mg_name (pg_name (i := 1) sc_look_corner.nd rfl (Or.inl rfl))) (mss_one (ms_if (PW.pt (mw_or (mt_not (mt_truth (weak (me_callQ ((d_is_whole T).mono (by decide)) hr (by rfl) (alen_cons alen_nil) (ma_cons (me_var (pv 1)) ma_nil))))) (mw_or1 (mt_not (mt_chain op_le op_le o_le o_le (weak (me_un un_neg o_neg (weak (me_g T.c_REACH (by rfl))))) (me_varW (pv 1)) (weak (me_g T.c_REACH (by rfl)))))))) (mss_one (ms_raiseN rfl tk (pmk_ownN PySem.F.excBase_ValueError T.x_BadShape.x T.x_BadShape.g T.x_BadShape.k (raises_own T.x_BadShape.b T.x_BadShape.t) (by rfl)))) mss_nil)))
  (mss_one (ms_ret (me_callTy call_tuple_of c_tup (by rfl) T.z_tuple (by decide +kernel) (maw_cons (me_varW (pv 0)) maw_nil))))))
theorem dN_look_corner (T : Fx K mg) : DefN P w K mg base 2 "look_corner" 1 [] m_look_corner := by
  obtain ⟨fd, F⟩ := T.f_look_corner
  exact DefN.mk' (ps := ["thing"]) (N := N_look_corner) (k := 1) F T.g_look_corner sc_look_corner b_look_corner ⟨[], [], .nil, F.bindsN (fun _ _ _ _ _ _ us hl => match us, hl with | [_], _ => rfl), fun _ _ => .nil⟩ (fun cdv A outer s H E hr => w_look_corner T fd cdv A outer s H E hr)
abbrev N_is_left : List Str := ["one", "other", "corner", "a", "b", "c", "d", "x", "y"]
theorem sc_is_left : FnScope N_is_left ["one", "other", "corner"] (defScope (top 25)) := ⟨rfl, rfl, rfl, by decide +kernel, rfl, by decide +kernel, by decide +kernel⟩
theorem w_is_left (T : Fx K mg) (fd : FuncData) (cdv : Value) (A : Around) (outer : List Env) (s : Shared) (H : Hp) (E : XK) (hr : Room 0 (A.deeper (envOfC "is_left" (defScope (top 25)) s.heap.objs.size (He.ga K "is_left") cdv))) :
    PSs (cxOf (L2.CX P w) P w K mg base N_is_left "is_left" (defScope (top 25)) (He.ga K "is_left") cdv A outer s H E) (defBody (top 25)) (tS K (fun cls d _ H => E cls d H) b_is_left) := by
  have tk := tk_cx (P := P) (w := w) (K := K) (mg := mg) (base := base) (N := N_is_left) (qual := "is_left") (scope := defScope (top 25)) (f := He.ga K "is_left") (cd := cdv) (A := A) (outer := outer) (s := s) (H := H) (E := E)
  exact (mss_cons (ms_asg (me_tup (ma_cons (me_var (pv 0)) (ma_cons (me_var (pv 1)) (ma_cons (me_var (pv 2)) ma_nil)))) (mg_tup rfl (glen_cons (glen_cons (glen_cons glen_nil))) (mgs_cons (mg_tup rfl (glen_cons (glen_cons glen_nil)) (mgs_cons (mg_name (pg_name (i := 3) sc_is_left.nd rfl (Or.inl rfl))) (mgs_cons (mg_name (pg_name (i := 4) sc_is_left.nd rfl (Or.inl rfl))) mgs_nil))) (mgs_cons (mg_tup rfl (glen_cons (glen_cons glen_nil)) (mgs_cons (mg_name (pg_name (i := 5) sc_is_left.nd rfl (Or.inl rfl))) (mgs_cons (mg_name (pg_name (i := 6) sc_is_left.nd rfl (Or.inl rfl))) mgs_nil))) (mgs_cons (mg_tup rfl (glen_cons (glen_cons glen_nil)) (mgs_cons (mg_name (pg_name (i := 7) sc_is_left.nd rfl (Or.inl rfl))) (mgs_cons (mg_name (pg_name (i := 8) sc_is_left.nd rfl (Or.inl rfl))) mgs_nil))) mgs_nil)))))
  (mss_one (ms_ret (me_cmp2 op_gt o_gt (weak (me_op2 op_sub o_sub (weak (me_op2 op_mulW o_mul (weak (me_op2 op_sub o_sub (me_varW (pv 5)) (me_varW (pv 3)))) (weak (me_op2 op_sub o_sub (me_varW (pv 8)) (me_varW (pv 4)))))) (weak (me_op2 op_mulW o_mul (weak (me_op2 op_sub o_sub (me_varW (pv 6)) (me_varW (pv 4)))) (weak (me_op2 op_sub o_sub (me_varW (pv 7)) (me_varW (pv 3)))))))) (weak me_int) (nomark _)))))
theorem d_is_left (T : Fx K mg) : Def P w K mg base 1 "is_left" 3 [] m_is_left := by
  obtain ⟨fd, F⟩ := T.f_is_left
  exact Def.mk' (ps := ["one", "other", "corner"]) (N := N_is_left) (k := 0) F T.g_is_left sc_is_left b_is_left ⟨[], [], .nil, F.bindsN (fun _ _ _ _ _ _ us hl => match us, hl with | [_, _, _], _ => rfl), fun _ _ => .nil⟩ (fun cdv A outer s H E hr => w_is_left T fd cdv A outer s H E hr)
abbrev N_look_shape : List Str := ["thing", "corners", "many", "at", "corner", "behind", "others", "first", "one", "k", "other"]
theorem sc_look_shape : FnScope N_look_shape ["thing"] (defScope (top 26)) := ⟨rfl, rfl, rfl, by decide +kernel, rfl, by decide +kernel, by decide +kernel⟩
theorem w_look_shape (T : Fx K mg) (fd : FuncData) (cdv : Value) (A : Around) (outer : List Env) (s : Shared) (H : Hp) (E : XK) (hr : Room 2 (A.deeper (envOfC "look_shape" (defScope (top 26)) s.heap.objs.size (He.ga K "look_shape") cdv))) :
    PSs (cxOf (L2N.CX P w) P w K mg base N_look_shape "look_shape" (defScope (top 26)) (He.ga K "look_shape") cdv A outer s H E) (defBody (top 26)) (tS K (fun cls d _ H => E cls d H) b_look_shape) := by
  have tk := tk_cxN (P := P) (w := w) (K := K) (mg := mg) (base := base) (N := N_look_shape) (qual := "look_shape") (scope := defScope (top 26)) (f := He.ga K "look_shape") (cd := cdv) (A := A) (outer := outer) (s := s) (H := H) (E := E)
  exact (mss_cons (ms_if (PW.pt (mw_or (mt_not (mt_truth (weak (me_isi2 (by rfl) T.z_isinstance (me_varW (pv 0)) (pe_bltn (v := .ty "list") (by rfl) T.z_list (by decide +kernel) rfl) (pe_bltn (v := .ty "tuple") (by rfl) T.z_tuple (by decide +kernel) rfl))))) (mw_or1 (mt_not (mt_chain op_le op_le o_le o_le (weak me_int) (weak (me_callB call_len3 c_len (by rfl) T.z_len (by decide +kernel) (maw_cons (me_varW (pv 0)) maw_nil))) (weak (me_g T.c_CORNERS (by rfl)))))))) (mss_one (ms_raiseN rfl tk (pmk_ownN PySem.F.excBase_ValueError T.x_BadShape.x T.x_BadShape.g T.x_BadShape.k (raises_own T.x_BadShape.b T.x_BadShape.t) (by rfl)))) mss_nil)
  (mss_cons (ms_set (ps_set (i := 1) sc_look_shape.nd rfl (Or.inr rfl) (me_new (mf_lcX (own := [("one", 8)]) (ws := [8]) rfl rfl tk rfl sc_look_shape.nd (toO (mi_seq (me_var (pv 0)))) (blkOk_by (N := N_look_shape) (sc := defScope (top 26)) (by decide +kernel)) (by decide) (fun _ _ _ _ _ => (mg_name (pg_name (i := 8) sc_look_shape.nd rfl (Or.inl rfl)))) (fun _ _ _ _ _ => mts_nil) (fun _ _ _ _ _ xe W tkc => (me_callN ((dN_look_corner T).mono (by decide)) hr tkc (by rfl) (alen_cons alen_nil) (ma_cons (me_var (pv 8)) ma_nil)))))))
  (mss_cons (ms_set (ps_set (i := 2) sc_look_shape.nd rfl (Or.inl rfl) (me_callB call_len3 c_len (by rfl) T.z_len (by decide +kernel) (maw_cons (me_varW (pv 1)) maw_nil))))
  (mss_cons (ms_for po_cxN rfl (mi_enum2 (by rfl) T.z_enumerate (ma_cons (me_var (pv 1)) ma_nil)) (mg_tup rfl (glen_cons (glen_cons glen_nil)) (mgs_cons (mg_name (pg_name (i := 3) sc_look_shape.nd rfl (Or.inr rfl))) (mgs_cons (mg_name (pg_name (i := 4) sc_look_shape.nd rfl (Or.inr rfl))) mgs_nil))) (mss_cons (ms_set (ps_set (i := 5) sc_look_shape.nd rfl (Or.inr rfl) (me_op2 op_modN o_mod (weak (me_op2 op_add4 o_add (me_varW (pv 3)) (weak me_int))) (me_varW (pv 2)))))
  (mss_cons (ms_lc (by decide) (ps_setLc (i := 6) (own := [("k", 9), ("other", 10)]) rfl sc_look_shape.nd rfl rfl (sw_true rfl rfl rfl (by decide +kernel)) (toO (mi_enum2 (by rfl) T.z_enumerate (ma_cons (me_var (pv 1)) ma_nil))) (blkOk_by (N := N_look_shape) (sc := defScope (top 26)) (by decide +kernel)) (fun _ _ _ _ _ => (mg_tup rfl (glen_cons (glen_cons glen_nil)) (mgs_cons (mg_name (pg_name (i := 9) sc_look_shape.nd rfl (Or.inl rfl))) (mgs_cons (mg_name (pg_name (i := 10) sc_look_shape.nd rfl (Or.inl rfl))) mgs_nil)))) (fun _ _ _ _ _ => (mts_one (PW.pt (mw_and (mt_cmp2 (op_neD hr.units) o_ne (me_varW (pv 9)) (me_varW (pv 3)) (nomark _)) (mw_and1 (mt_cmp2 (op_neD hr.units) o_ne (me_varW (pv 9)) (me_varW (pv 5)) (nomark _))))))) (fun _ _ _ _ _ => (me_var (pv 10)))))
  (mss_one (ms_if (mt_not (mt_truth (weak (me_callB (cr_all rfl) c_all (by rfl) T.z_all (by decide +kernel) (maw_cons (weak (me_new (mf_lc (own := [("other", 10)]) (ws := [10]) rfl sc_look_shape.nd (toO (mi_seq (me_var (pv 6)))) (blkOk_by (N := N_look_shape) (sc := defScope (top 26)) (by decide +kernel)) (by decide) (fun _ _ _ _ _ => (mg_name (pg_name (i := 10) sc_look_shape.nd rfl (Or.inl rfl)))) (fun _ _ _ _ _ => mts_nil) (fun _ _ _ _ _ => (me_callQ ((d_is_left T).mono (by decide)) hr (by rfl) (alen_cons (alen_cons (alen_cons alen_nil))) (ma_cons (me_var (pv 4)) (ma_cons (me_ix ix_seq o_ix (me_varW (pv 1)) (me_varW (pv 5)) (fun _ _ => rfl)) (ma_cons (me_var (pv 10)) ma_nil)))))))) maw_nil))))) (mss_one (ms_raiseN rfl tk (pmk_ownN PySem.F.excBase_ValueError T.x_BadShape.x T.x_BadShape.g T.x_BadShape.k (raises_own T.x_BadShape.b T.x_BadShape.t) (by rfl)))) mss_nil)))))
  (mss_cons (ms_set (ps_set (i := 7) sc_look_shape.nd rfl (Or.inl rfl) (me_idx (room65 hr) (me_varW (pv 1)) (weak (me_callB (cr_minD rfl hr.units) c_minD (by rfl) T.z_min (by decide +kernel) (maw_cons (me_varW (pv 1)) maw_nil))))))
  (mss_one (ms_ret (me_callTy call_tuple_of c_tup (by rfl) T.z_tuple (by decide +kernel) (maw_cons (weak (me_op2 op_add4 o_add (weak (me_cutA (me_varW (pv 1)) (mo_some (me_var (pv 7))) mo_none)) (weak (me_cutA (me_varW (pv 1)) mo_none (mo_some (me_var (pv 7))))))) maw_nil)))))))))
theorem dN_look_shape (T : Fx K mg) : DefN P w K mg base 3 "look_shape" 1 [] m_look_shape := by
  obtain ⟨fd, F⟩ := T.f_look_shape
  exact DefN.mk' (ps := ["thing"]) (N := N_look_shape) (k := 2) F T.g_look_shape sc_look_shape b_look_shape ⟨[], [], .nil, F.bindsN (fun _ _ _ _ _ _ us hl => match us, hl with | [_], _ => rfl), fun _ _ => .nil⟩ (fun cdv A outer s H E hr => w_look_shape T fd cdv A outer s H E hr)
abbrev N_is_name : List Str := ["thing", "sign"]
theorem sc_is_name : FnScope N_is_name ["thing"] (defScope (top 30)) := ⟨rfl, rfl, rfl, by decide +kernel, rfl, by decide +kernel, by decide +kernel⟩
theorem w_is_name (T : Fx K mg) (fd : FuncData) (cdv : Value) (A : Around) (outer : List Env) (s : Shared) (H : Hp) (E : XK) (hr : Room 0 (A.deeper (envOfC "is_name" (defScope (top 30)) s.heap.objs.size (He.ga K "is_name") cdv))) :
    PSs (cxOf (L2.CX P w) P w K mg base N_is_name "is_name" (defScope (top 30)) (He.ga K "is_name") cdv A outer s H E) (defBody (top 30)) (tS K (fun cls d _ H => E cls d H) b_is_name) := by
  have tk := tk_cx (P := P) (w := w) (K := K) (mg := mg) (base := base) (N := N_is_name) (qual := "is_name") (scope := defScope (top 30)) (f := He.ga K "is_name") (cd := cdv) (A := A) (outer := outer) (s := s) (H := H) (E := E)
  exact (mss_cons (ms_if (PW.pt (mw_or (mt_not (mt_truth (weak (me_callB call_isi c_isi (by rfl) T.z_isinstance (by decide +kernel) (maw_cons (me_varW (pv 0)) (maw_cons (weak (me_type (by rfl) T.z_str (by decide +kernel))) maw_nil)))))) (mw_or1 (mt_not (mt_chain op_le op_le o_le o_le (weak me_int) (weak (me_callB call_len3 c_len (by rfl) T.z_len (by decide +kernel) (maw_cons (me_varW (pv 0)) maw_nil))) (weak (me_g T.c_LONGEST (by rfl)))))))) (mss_one (ms_ret me_bl)) mss_nil)
  (mss_one (ms_ret (me_callB (cr_all rfl) c_all (by rfl) T.z_all (by decide +kernel) (maw_cons (weak (me_new (mf_lc (own := [("sign", 1)]) (ws := [1]) rfl sc_is_name.nd (toO (mi_str (me_var (pv 0)))) (blkOk_by (N := N_is_name) (sc := defScope (top 30)) (by decide +kernel)) (by decide) (fun _ _ _ _ _ => (mg_name (pg_name (i := 1) sc_is_name.nd rfl (Or.inl rfl)))) (fun _ _ _ _ _ => mts_nil) (fun _ _ _ _ _ => (me_cmp2 op_in_str o_inS (me_varW (pv 1)) (weak (me_g T.c_LETTERS (by rfl))) (by rfl)))))) maw_nil)))))
theorem d_is_name (T : Fx K mg) : Def P w K mg base 1 "is_name" 1 [] m_is_name := by
  obtain ⟨fd, F⟩ := T.f_is_name
  exact Def.mk' (ps := ["thing"]) (N := N_is_name) (k := 0) F T.g_is_name sc_is_name b_is_name ⟨[], [], .nil, F.bindsN (fun _ _ _ _ _ _ us hl => match us, hl with | [_], _ => rfl), fun _ _ => .nil⟩ (fun cdv A outer s H E hr => w_is_name T fd cdv A outer s H E hr)
abbrev N_is_rail : List Str := ["thing", "number"]
theorem sc_is_rail : FnScope N_is_rail ["thing"] (defScope (top 31)) := ⟨rfl, rfl, rfl, by decide +kernel, rfl, by decide +kernel, by decide +kernel⟩
theorem w_is_rail (T : Fx K mg) (fd : FuncData) (cdv : Value) (A : Around) (outer : List Env) (s : Shared) (H : Hp) (E : XK) (hr : Room 2 (A.deeper (envOfC "is_rail" (defScope (top 31)) s.heap.objs.size (He.ga K "is_rail") cdv))) :
    PSs (cxOf (L2.CX P w) P w K mg base N_is_rail "is_rail" (defScope (top 31)) (He.ga K "is_rail") cdv A outer s H E) (defBody (top 31)) (tS K (fun cls d _ H => E cls d H) b_is_rail) := by
  have tk := tk_cx (P := P) (w := w) (K := K) (mg := mg) (base := base) (N := N_is_rail) (qual := "is_rail") (scope := defScope (top 31)) (f := He.ga K "is_rail") (cd := cdv) (A := A) (outer := outer) (s := s) (H := H) (E := E)
  exact (mss_one (ms_ret (me_and (me_call ((d_is_way T).mono (by decide)) hr tk (by rfl) (alen_cons alen_nil) (ma_cons (me_var (pv 0)) ma_nil)) (me_one (me_callB (cr_all rfl) c_all (by rfl) T.z_all (by decide +kernel) (maw_cons (weak (me_new (mf_lc (own := [("number", 1)]) (ws := [1]) rfl sc_is_rail.nd (toO (mi_seq (me_var (pv 0)))) (blkOk_by (N := N_is_rail) (sc := defScope (top 31)) (by decide +kernel)) (by decide) (fun _ _ _ _ _ => (mg_name (pg_name (i := 1) sc_is_rail.nd rfl (Or.inl rfl)))) (fun _ _ _ _ _ => mts_nil) (fun _ _ _ _ _ => (me_cmp2 op_le o_le (weak (me_callB call_abs c_abs (by rfl) T.z_abs (by decide +kernel) (maw_cons (me_varW (pv 1)) maw_nil))) (weak (me_g T.c_REACH (by rfl))) (nomark _)))))) maw_nil))))))
theorem d_is_rail (T : Fx K mg) : Def P w K mg base 3 "is_rail" 1 [] m_is_rail := by
  obtain ⟨fd, F⟩ := T.f_is_rail
  exact Def.mk' (ps := ["thing"]) (N := N_is_rail) (k := 2) F T.g_is_rail sc_is_rail b_is_rail ⟨[], [], .nil, F.bindsN (fun _ _ _ _ _ _ us hl => match us, hl with | [_], _ => rfl), fun _ _ => .nil⟩ (fun cdv A outer s H E hr => w_is_rail T fd cdv A outer s H E hr)
abbrev N_may_go : List Str := ["mass", "rail", "speed"]
theorem sc_may_go : FnScope N_may_go ["mass", "rail", "speed"] (defScope (top 32)) := ⟨rfl, rfl, rfl, by decide +kernel, rfl, by decide +kernel, by decide +kernel⟩
theorem w_may_go (T : Fx K mg) (fd : FuncData) (cdv : Value) (A : Around) (outer : List Env) (s : Shared) (H : Hp) (E : XK) (hr : Room 4 (A.deeper (envOfC "may_go" (defScope (top 32)) s.heap.objs.size (He.ga K "may_go") cdv))) :
    PSs (cxOf (L2.CX P w) P w K mg base N_may_go "may_go" (defScope (top 32)) (He.ga K "may_go") cdv A outer s H E) (defBody (top 32)) (tS K (fun cls d _ H => E cls d H) b_may_go) := by
  have tk := tk_cx (P := P) (w := w) (K := K) (mg := mg) (base := base) (N := N_may_go) (qual := "may_go") (scope := defScope (top 32)) (f := He.ga K "may_go") (cd := cdv) (A := A) (outer := outer) (s := s) (H := H) (E := E)
  exact (mss_cons (ms_if (mt_cmp2 (op_eqD hr.units) o_eq (me_varW (pv 0)) (weak me_int) (nomark _)) (mss_one (ms_ret (me_cmp2 (op_eqD hr.units) o_eq (me_varW (pv 2)) (weak (me_g T.c_STILL (by rfl))) (nomark _)))) mss_nil)
  (mss_one (ms_ret (me_or (me_cmp2 op_isN o_is (me_varW (pv 1)) (weak me_non) (nomark _)) (me_one (me_cmp2 (op_eqD hr.units) o_eq (weak (me_call ((d_across T).mono (by decide)) hr tk (by rfl) (alen_cons (alen_cons alen_nil)) (ma_cons (me_var (pv 1)) (ma_cons (me_var (pv 2)) ma_nil)))) (weak (me_g T.c_NOUGHT (by rfl))) (nomark _)))))))
theorem d_may_go (T : Fx K mg) : Def P w K mg base 5 "may_go" 3 [] m_may_go := by
  obtain ⟨fd, F⟩ := T.f_may_go
  exact Def.mk' (ps := ["mass", "rail", "speed"]) (N := N_may_go) (k := 4) F T.g_may_go sc_may_go b_may_go ⟨[], [], .nil, F.bindsN (fun _ _ _ _ _ _ us hl => match us, hl with | [_, _, _], _ => rfl), fun _ _ => .nil⟩ (fun cdv A outer s H E hr => w_may_go T fd cdv A outer s H E hr)
abbrev N_look_corners : List Str := ["thing", "why"]
theorem sc_look_corners : FnScope N_look_corners ["thing"] (defScope (top 33)) := ⟨rfl, rfl, rfl, by decide +kernel, rfl, by decide +kernel, by decide +kernel⟩
theorem w_look_corners (T : Fx K mg) (fd : FuncData) (cdv : Value) (A : Around) (outer : List Env) (s : Shared) (H : Hp) (E : XK) (hr : Room 3 (A.deeper (envOfC "look_corners" (defScope (top 33)) s.heap.objs.size (He.ga K "look_corners") cdv))) :
    PSs (cxOf (L2.CX P w) P w K mg base N_look_corners "look_corners" (defScope (top 33)) (He.ga K "look_corners") cdv A outer s H E) (defBody (top 33)) (tS K (fun cls d _ H => E cls d H) b_look_corners) := by
  have tk := tk_cx (P := P) (w := w) (K := K) (mg := mg) (base := base) (N := N_look_corners) (qual := "look_corners") (scope := defScope (top 33)) (f := He.ga K "look_corners") (cd := cdv) (A := A) (outer := outer) (s := s) (H := H) (E := E)
  exact (mss_one (ms_tryC (i := 1) rfl rfl sc_look_corners.nd rfl (by rfl) ⟨by rfl, by decide, .inl T.g_BadShape⟩ pa_cx tk T.m_BadShape_BadShape T.x_BadShape.b T.x_BadShape.t (edH_BadRow T) (hr.mono (by decide)) (by rfl) (fun W pn xe tk2 po2 => (mss_one (ms_ret (me_callN ((dN_look_shape T).mono (by decide)) hr (tkC tk2) (by rfl) (alen_cons alen_nil) (ma_cons (me_var (pv 0)) ma_nil))))) (fun a pn xe W tk3 => (ma_cons me_str ma_nil)) (fun r h => okS1_ok r h)))
theorem d_look_corners (T : Fx K mg) : Def P w K mg base 4 "look_corners" 1 [] m_look_corners := by
  obtain ⟨fd, F⟩ := T.f_look_corners
  exact Def.mk' (ps := ["thing"]) (N := N_look_corners) (k := 3) F T.g_look_corners sc_look_corners b_look_corners ⟨[], [], .nil, F.bindsN (fun _ _ _ _ _ _ us hl => match us, hl with | [_], _ => rfl), fun _ _ => .nil⟩ (fun cdv A outer s H E hr => w_look_corners T fd cdv A outer s H E hr)
abbrev N_look_parts : List Str := ["thing", "lightest", "needs_rail", "name", "corners", "mass", "rail", "place", "speed", "shape"]
theorem sc_look_parts : FnScope N_look_parts ["thing", "lightest", "needs_rail"] (defScope (top 34)) := ⟨rfl, rfl, rfl, by decide +kernel, rfl, by decide +kernel, by decide +kernel⟩
theorem w_look_parts (T : Fx K mg) (fd : FuncData) (cdv : Value) (A : Around) (outer : List Env) (s : Shared) (H : Hp) (E : XK) (hr : Room 5 (A.deeper (envOfC "look_parts" (defScope (top 34)) s.heap.objs.size (He.ga K "look_parts") cdv))) :
    PSs (cxOf (L2.CX P w) P w K mg base N_look_parts "look_parts" (defScope (top 34)) (He.ga K "look_parts") cdv A outer s H E) (defBody (top 34)) (tS K (fun cls d _ H => E cls d H) b_look_parts) := by
  have tk := tk_cx (P := P) (w := w) (K := K) (mg := mg) (base := base) (N := N_look_parts) (qual := "look_parts") (scope := defScope (top 34)) (f := He.ga K "look_parts") (cd := cdv) (A := A) (outer := outer) (s := s) (H := H) (E := E)
  exact (mss_cons (ms_if (PW.pt (mw_or (mt_not (mt_truth (weak (me_callB call_isi c_isi (by rfl) T.z_isinstance (by decide +kernel) (maw_cons (me_varW (pv 0)) (maw_cons (weak (me_type (by rfl) T.z_tuple (by decide +kernel))) maw_nil)))))) (mw_or1 (mt_cmp2 (op_neD hr.units) o_ne (weak (me_callB call_len3 c_len (by rfl) T.z_len (by decide +kernel) (maw_cons (me_varW (pv 0)) maw_nil))) (weak me_int) (nomark _))))) (mss_one (ms_raiseX rfl tk (ed_BadRow T) (hr.mono (by decide)) (by rfl) (ma_cons me_str ma_nil) (fun r h => okS1_ok r h))) mss_nil)
  (mss_cons (ms_asg (me_var (pv 0)) (mg_tup rfl (glen_cons (glen_cons (glen_cons (glen_cons (glen_cons (glen_cons glen_nil)))))) (mgs_cons (mg_name (pg_name (i := 3) sc_look_parts.nd rfl (Or.inl rfl))) (mgs_cons (mg_name (pg_name (i := 4) sc_look_parts.nd rfl (Or.inl rfl))) (mgs_cons (mg_name (pg_name (i := 5) sc_look_parts.nd rfl (Or.inl rfl))) (mgs_cons (mg_name (pg_name (i := 6) sc_look_parts.nd rfl (Or.inl rfl))) (mgs_cons (mg_name (pg_name (i := 7) sc_look_parts.nd rfl (Or.inl rfl))) (mgs_cons (mg_name (pg_name (i := 8) sc_look_parts.nd rfl (Or.inl rfl))) mgs_nil))))))))
  (mss_cons (ms_if (mt_not (mt_truth (weak (me_call ((d_is_name T).mono (by decide)) hr tk (by rfl) (alen_cons alen_nil) (ma_cons (me_var (pv 3)) ma_nil))))) (mss_one (ms_raiseX rfl tk (ed_BadRow T) (hr.mono (by decide)) (by rfl) (ma_cons me_str ma_nil) (fun r h => okS1_ok r h))) mss_nil)
  (mss_cons (ms_set (ps_set (i := 9) sc_look_parts.nd rfl (Or.inl rfl) (me_call ((d_look_corners T).mono (by decide)) hr tk (by rfl) (alen_cons alen_nil) (ma_cons (me_var (pv 4)) ma_nil))))
  (mss_cons (ms_if (PW.pt (mw_or (mt_not (mt_truth (weak (me_call ((d_is_whole T).mono (by decide)) hr tk (by rfl) (alen_cons alen_nil) (ma_cons (me_var (pv 5)) ma_nil))))) (mw_or1 (mt_not (mt_chain op_le op_le o_le o_le (me_varW (pv 1)) (me_varW (pv 5)) (weak (me_g T.c_MASS (by rfl)))))))) (mss_one (ms_raiseX rfl tk (ed_BadRow T) (hr.mono (by decide)) (by rfl) (ma_cons me_str ma_nil) (fun r h => okS1_ok r h))) mss_nil)
  (mss_cons (ms_if (PW.pt (mw_or (PW.pt (mw_and (mt_cmp2 op_isN o_is (me_varW (pv 6)) (weak me_non) (nomark _)) (mw_and1 (mt_truth (me_varW (pv 2)))))) (mw_or1 (PW.pt (mw_and (mt_cmp2 op_notN o_isnt (me_varW (pv 6)) (weak me_non) (nomark _)) (mw_and1 (PW.pt (mw_or (mt_cmp2 (op_eqD hr.units) o_eq (me_varW (pv 5)) (weak me_int) (nomark _)) (mw_or1 (mt_not (mt_truth (weak (me_call ((d_is_rail T).mono (by decide)) hr tk (by rfl) (alen_cons alen_nil) (ma_cons (me_var (pv 6)) ma_nil)))))))))))))) (mss_one (ms_raiseX rfl tk (ed_BadRow T) (hr.mono (by decide)) (by rfl) (ma_cons me_str ma_nil) (fun r h => okS1_ok r h))) mss_nil)
  (mss_cons (ms_if (mt_not (mt_truth (weak (me_call ((d_is_fine_spot T).mono (by decide)) hr tk (by rfl) (alen_cons alen_nil) (ma_cons (me_var (pv 7)) ma_nil))))) (mss_one (ms_raiseX rfl tk (ed_BadRow T) (hr.mono (by decide)) (by rfl) (ma_cons me_str ma_nil) (fun r h => okS1_ok r h))) mss_nil)
  (mss_cons (ms_if (PW.pt (mw_or (mt_not (mt_truth (weak (me_call ((d_is_fine_spot T).mono (by decide)) hr tk (by rfl) (alen_cons alen_nil) (ma_cons (me_var (pv 8)) ma_nil))))) (mw_or1 (mt_not (mt_truth (weak (me_call ((d_may_go T).mono (by decide)) hr tk (by rfl) (alen_cons (alen_cons (alen_cons alen_nil))) (ma_cons (me_var (pv 5)) (ma_cons (me_var (pv 6)) (ma_cons (me_var (pv 8)) ma_nil)))))))))) (mss_one (ms_raiseX rfl tk (ed_BadRow T) (hr.mono (by decide)) (by rfl) (ma_cons me_str ma_nil) (fun r h => okS1_ok r h))) mss_nil)
  (mss_one (ms_ret (me_tup (ma_cons (me_var (pv 3)) (ma_cons (me_var (pv 9)) (ma_cons (me_var (pv 5)) (ma_cons (me_var (pv 6)) (ma_cons (me_var (pv 7)) (ma_cons (me_var (pv 8)) ma_nil)))))))))))))))))
theorem d_look_parts_1 (T : Fx K mg) : Def P w K mg base 6 "look_parts" 3 [(.int 0), (.bl false)] m_look_parts := by
  obtain ⟨fd, F⟩ := T.f_look_parts
  exact Def.mk' (ps := ["thing", "lightest", "needs_rail"]) (N := N_look_parts) (k := 5) F T.g_look_parts sc_look_parts b_look_parts (by
    obtain ⟨ds, h1, h2⟩ := F.binds0 (ps := ["thing", "lightest", "needs_rail"]) 1 (by simp) rfl (fun _ _ _ _ _ _ us ks hu hk => match us, ks, hu, hk with | [_], [_, _], _, _ => ⟨_, _, _, _, _, _, rfl, rfl, ⟨_, _, _, _, _, _, rfl, rfl, rfl⟩⟩)
    exact ⟨ds, _, h1, h2, fun _ _ => (.cons (.int _) (.cons (.bl _) .nil))⟩) (fun cdv A outer s H E hr => w_look_parts T fd cdv A outer s H E hr)
theorem dq_look_parts_lightest (T : Fx K mg) : DefQ P w K mg base 6 "look_parts" 3 1 ["lightest"] [(false, 0), (true, 0)] [(.bl false)] m_look_parts := by
  obtain ⟨fd, F⟩ := T.f_look_parts
  obtain ⟨mv, hb⟩ := FunD.kbinds0 (ps := ["thing", "lightest", "needs_rail"]) F 1 ["lightest"] [("needs_rail", .bl false)] [(false, 0), (true, 0)] (by simp) (fun q hq => List.Sublist.mem hq (.cons _ (.cons₂ _ .slnil))) (fun D doc pm an cdv ct us mv ws h1 h2 h3 => match us, mv, ws, h1, h2, h3 with | [_], [_], [_], _, _, _ => ⟨_, _, _, _, _, _, rfl, rfl, rfl⟩)
  exact ⟨fd, ["thing", "lightest", "needs_rail"], _, _, fn_mk (N := N_look_parts) (ps := ["thing", "lightest", "needs_rail"]) (k := 5) F sc_look_parts b_look_parts (fun cdv A outer s H E hr => w_look_parts T fd cdv A outer s H E hr), T.g_look_parts, F.kp, hb, fun _ _ => (.cons (.bl _) .nil)⟩
theorem dq_look_parts_lightest_needs_rail (T : Fx K mg) : DefQ P w K mg base 6 "look_parts" 3 1 ["lightest", "needs_rail"] [(false, 0), (false, 1)] [] m_look_parts := by
  obtain ⟨fd, F⟩ := T.f_look_parts
  obtain ⟨mv, hb⟩ := FunD.kbinds0 (ps := ["thing", "lightest", "needs_rail"]) F 1 ["lightest", "needs_rail"] [] [(false, 0), (false, 1)] (by simp) (fun q hq => List.Sublist.mem hq (.cons _ (.cons _ .slnil))) (fun D doc pm an cdv ct us mv ws h1 h2 h3 => match us, mv, ws, h1, h2, h3 with | [_], [], [_, _], _, _, _ => rfl)
  exact ⟨fd, ["thing", "lightest", "needs_rail"], _, _, fn_mk (N := N_look_parts) (ps := ["thing", "lightest", "needs_rail"]) (k := 5) F sc_look_parts b_look_parts (fun cdv A outer s H E hr => w_look_parts T fd cdv A outer s H E hr), T.g_look_parts, F.kp, hb, fun _ _ => .nil⟩
abbrev N_wall : List Str := ["name", "corners", "at"]
theorem sc_wall : FnScope N_wall ["name", "corners", "at"] (defScope (top 35)) := ⟨rfl, rfl, rfl, by decide +kernel, rfl, by decide +kernel, by decide +kernel⟩
theorem w_wall (T : Fx K mg) (fd : FuncData) (cdv : Value) (A : Around) (outer : List Env) (s : Shared) (H : Hp) (E : XK) (hr : Room 6 (A.deeper (envOfC "wall" (defScope (top 35)) s.heap.objs.size (He.ga K "wall") cdv))) :
    PSs (cxOf (L2.CX P w) P w K mg base N_wall "wall" (defScope (top 35)) (He.ga K "wall") cdv A outer s H E) (defBody (top 35)) (tS K (fun cls d _ H => E cls d H) b_wall) := by
  have tk := tk_cx (P := P) (w := w) (K := K) (mg := mg) (base := base) (N := N_wall) (qual := "wall") (scope := defScope (top 35)) (f := He.ga K "wall") (cd := cdv) (A := A) (outer := outer) (s := s) (H := H) (E := E)
  exact (mss_one (ms_ret (me_call ((d_look_parts_1 T).mono (by decide)) hr tk (by rfl) (alen_cons alen_nil) (ma_cons (me_tup (ma_cons (me_var (pv 0)) (ma_cons (me_var (pv 1)) (ma_cons me_int (ma_cons me_non (ma_cons (me_var (pv 2)) (ma_cons (me_g T.c_STILL (by rfl)) ma_nil))))))) ma_nil))))
theorem d_wall_2 (T : Fx K mg) : Def P w K mg base 7 "wall" 3 [(.tup [(.tup [(.int 0), (.int 1)]), (.tup [(.int 0), (.int 1)])])] m_wall := by
  obtain ⟨fd, F⟩ := T.f_wall
  exact Def.mk' (ps := ["name", "corners", "at"]) (N := N_wall) (k := 6) F T.g_wall sc_wall b_wall (by
    obtain ⟨ds, h1, h2⟩ := F.binds0 (ps := ["name", "corners", "at"]) 2 (by simp) rfl (fun _ _ _ _ _ _ us ks hu hk => match us, ks, hu, hk with | [_, _], [_], _, _ => ⟨_, _, _, _, _, _, rfl, rfl, rfl⟩)
    exact ⟨ds, _, h1, h2, fun _ _ => (.cons (glc_rep T.c_STILL T.g_STILL _ _) .nil)⟩) (fun cdv A outer s H E hr => w_wall T fd cdv A outer s H E hr)
theorem dq_wall_at (T : Fx K mg) : DefQ P w K mg base 7 "wall" 3 2 ["at"] [(false, 0)] [] m_wall := by
  obtain ⟨fd, F⟩ := T.f_wall
  obtain ⟨mv, hb⟩ := FunD.kbinds0 (ps := ["name", "corners", "at"]) F 2 ["at"] [] [(false, 0)] (by simp) (fun q hq => List.Sublist.mem hq (.cons _ .slnil)) (fun D doc pm an cdv ct us mv ws h1 h2 h3 => match us, mv, ws, h1, h2, h3 with | [_, _], [], [_], _, _, _ => rfl)
  exact ⟨fd, ["name", "corners", "at"], _, _, fn_mk (N := N_wall) (ps := ["name", "corners", "at"]) (k := 6) F sc_wall b_wall (fun cdv A outer s H E hr => w_wall T fd cdv A outer s H E hr), T.g_wall, F.kp, hb, fun _ _ => .nil⟩
abbrev N_free : List Str := ["name", "corners", "mass", "at", "speed"]
theorem sc_free : FnScope N_free ["name", "corners", "mass", "at", "speed"] (defScope (top 36)) := ⟨rfl, rfl, rfl, by decide +kernel, rfl, by decide +kernel, by decide +kernel⟩
theorem w_free (T : Fx K mg) (fd : FuncData) (cdv : Value) (A : Around) (outer : List Env) (s : Shared) (H : Hp) (E : XK) (hr : Room 6 (A.deeper (envOfC "free" (defScope (top 36)) s.heap.objs.size (He.ga K "free") cdv))) :
    PSs (cxOf (L2.CX P w) P w K mg base N_free "free" (defScope (top 36)) (He.ga K "free") cdv A outer s H E) (defBody (top 36)) (tS K (fun cls d _ H => E cls d H) b_free) := by
  have tk := tk_cx (P := P) (w := w) (K := K) (mg := mg) (base := base) (N := N_free) (qual := "free") (scope := defScope (top 36)) (f := He.ga K "free") (cd := cdv) (A := A) (outer := outer) (s := s) (H := H) (E := E)
  exact (mss_one (ms_ret (me_callQ2 (dq_look_parts_lightest T) (hr.mono (by decide)) tk (by rfl) (alen_cons alen_nil) (alen_cons alen_nil) (ma_cons (me_tup (ma_cons (me_var (pv 0)) (ma_cons (me_var (pv 1)) (ma_cons (me_var (pv 2)) (ma_cons me_non (ma_cons (me_var (pv 3)) (ma_cons (me_var (pv 4)) ma_nil))))))) ma_nil) (mk_cons me_int mk_nil) (fun es h => match es, h with | [_], _ => rfl))))
theorem d_free_2 (T : Fx K mg) : Def P w K mg base 7 "free" 5 [(.int 1), (.tup [(.tup [(.int 0), (.int 1)]), (.tup [(.int 0), (.int 1)])]), (.tup [(.tup [(.int 0), (.int 1)]), (.tup [(.int 0), (.int 1)])])] m_free := by
  obtain ⟨fd, F⟩ := T.f_free
  exact Def.mk' (ps := ["name", "corners", "mass", "at", "speed"]) (N := N_free) (k := 6) F T.g_free sc_free b_free (by
    obtain ⟨ds, h1, h2⟩ := F.binds0 (ps := ["name", "corners", "mass", "at", "speed"]) 2 (by simp) rfl (fun _ _ _ _ _ _ us ks hu hk => match us, ks, hu, hk with | [_, _], [_, _, _], _, _ => ⟨_, _, _, _, _, _, rfl, rfl, ⟨_, _, _, _, _, _, rfl, rfl, ⟨_, _, _, _, _, _, rfl, rfl, rfl⟩⟩⟩)
    exact ⟨ds, _, h1, h2, fun _ _ => (.cons (.int _) (.cons (glc_rep T.c_STILL T.g_STILL _ _) (.cons (glc_rep T.c_STILL T.g_STILL _ _) .nil)))⟩) (fun cdv A outer s H E hr => w_free T fd cdv A outer s H E hr)
theorem dq_free_at (T : Fx K mg) : DefQ P w K mg base 7 "free" 5 2 ["at"] [(true, 0), (false, 0), (true, 1)] [(.int 1), (.tup [(.tup [(.int 0), (.int 1)]), (.tup [(.int 0), (.int 1)])])] m_free := by
  obtain ⟨fd, F⟩ := T.f_free
  obtain ⟨mv, hb⟩ := FunD.kbinds0 (ps := ["name", "corners", "mass", "at", "speed"]) F 2 ["at"] [("mass", .int 1), ("speed", .ref (He.ga K "STILL"))] [(true, 0), (false, 0), (true, 1)] (by simp) (fun q hq => List.Sublist.mem hq (.cons₂ _ (.cons _ (.cons₂ _ .slnil)))) (fun D doc pm an cdv ct us mv ws h1 h2 h3 => match us, mv, ws, h1, h2, h3 with | [_, _], [_, _], [_], _, _, _ => ⟨_, _, _, _, _, _, rfl, rfl, ⟨_, _, _, _, _, _, rfl, rfl, rfl⟩⟩)
  exact ⟨fd, ["name", "corners", "mass", "at", "speed"], _, _, fn_mk (N := N_free) (ps := ["name", "corners", "mass", "at", "speed"]) (k := 6) F sc_free b_free (fun cdv A outer s H E hr => w_free T fd cdv A outer s H E hr), T.g_free, F.kp, hb, fun _ _ => (.cons (.int _) (.cons (glc_rep T.c_STILL T.g_STILL _ _) .nil))⟩
theorem dq_free_at_mass (T : Fx K mg) : DefQ P w K mg base 7 "free" 5 2 ["at", "mass"] [(false, 1), (false, 0), (true, 0)] [(.tup [(.tup [(.int 0), (.int 1)]), (.tup [(.int 0), (.int 1)])])] m_free := by
  obtain ⟨fd, F⟩ := T.f_free
  obtain ⟨mv, hb⟩ := FunD.kbinds0 (ps := ["name", "corners", "mass", "at", "speed"]) F 2 ["at", "mass"] [("speed", .ref (He.ga K "STILL"))] [(false, 1), (false, 0), (true, 0)] (by simp) (fun q hq => List.Sublist.mem hq (.cons _ (.cons _ (.cons₂ _ .slnil)))) (fun D doc pm an cdv ct us mv ws h1 h2 h3 => match us, mv, ws, h1, h2, h3 with | [_, _], [_], [_, _], _, _, _ => ⟨_, _, _, _, _, _, rfl, rfl, rfl⟩)
  exact ⟨fd, ["name", "corners", "mass", "at", "speed"], _, _, fn_mk (N := N_free) (ps := ["name", "corners", "mass", "at", "speed"]) (k := 6) F sc_free b_free (fun cdv A outer s H E hr => w_free T fd cdv A outer s H E hr), T.g_free, F.kp, hb, fun _ _ => (.cons (glc_rep T.c_STILL T.g_STILL _ _) .nil)⟩
theorem dq_free_mass (T : Fx K mg) : DefQ P w K mg base 7 "free" 5 2 ["mass"] [(false, 0), (true, 0), (true, 1)] [(.tup [(.tup [(.int 0), (.int 1)]), (.tup [(.int 0), (.int 1)])]), (.tup [(.tup [(.int 0), (.int 1)]), (.tup [(.int 0), (.int 1)])])] m_free := by
  obtain ⟨fd, F⟩ := T.f_free
  obtain ⟨mv, hb⟩ := FunD.kbinds0 (ps := ["name", "corners", "mass", "at", "speed"]) F 2 ["mass"] [("at", .ref (He.ga K "STILL")), ("speed", .ref (He.ga K "STILL"))] [(false, 0), (true, 0), (true, 1)] (by simp) (fun q hq => List.Sublist.mem hq (.cons _ (.cons₂ _ (.cons₂ _ .slnil)))) (fun D doc pm an cdv ct us mv ws h1 h2 h3 => match us, mv, ws, h1, h2, h3 with | [_, _], [_, _], [_], _, _, _ => ⟨_, _, _, _, _, _, rfl, rfl, ⟨_, _, _, _, _, _, rfl, rfl, rfl⟩⟩)
  exact ⟨fd, ["name", "corners", "mass", "at", "speed"], _, _, fn_mk (N := N_free) (ps := ["name", "corners", "mass", "at", "speed"]) (k := 6) F sc_free b_free (fun cdv A outer s H E hr => w_free T fd cdv A outer s H E hr), T.g_free, F.kp, hb, fun _ _ => (.cons (glc_rep T.c_STILL T.g_STILL _ _) (.cons (glc_rep T.c_STILL T.g_STILL _ _) .nil))⟩
theorem dq_free_mass_at_speed (T : Fx K mg) : DefQ P w K mg base 7 "free" 5 2 ["mass", "at", "speed"] [(false, 0), (false, 1), (false, 2)] [] m_free := by
  obtain ⟨fd, F⟩ := T.f_free
  obtain ⟨mv, hb⟩ := FunD.kbinds0 (ps := ["name", "corners", "mass", "at", "speed"]) F 2 ["mass", "at", "speed"] [] [(false, 0), (false, 1), (false, 2)] (by simp) (fun q hq => List.Sublist.mem hq (.cons _ (.cons _ (.cons _ .slnil)))) (fun D doc pm an cdv ct us mv ws h1 h2 h3 => match us, mv, ws, h1, h2, h3 with | [_, _], [], [_, _, _], _, _, _ => rfl)
  exact ⟨fd, ["name", "corners", "mass", "at", "speed"], _, _, fn_mk (N := N_free) (ps := ["name", "corners", "mass", "at", "speed"]) (k := 6) F sc_free b_free (fun cdv A outer s H E hr => w_free T fd cdv A outer s H E hr), T.g_free, F.kp, hb, fun _ _ => .nil⟩
theorem dq_free_speed (T : Fx K mg) : DefQ P w K mg base 7 "free" 5 2 ["speed"] [(true, 0), (true, 1), (false, 0)] [(.int 1), (.tup [(.tup [(.int 0), (.int 1)]), (.tup [(.int 0), (.int 1)])])] m_free := by
  obtain ⟨fd, F⟩ := T.f_free
  obtain ⟨mv, hb⟩ := FunD.kbinds0 (ps := ["name", "corners", "mass", "at", "speed"]) F 2 ["speed"] [("mass", .int 1), ("at", .ref (He.ga K "STILL"))] [(true, 0), (true, 1), (false, 0)] (by simp) (fun q hq => List.Sublist.mem hq (.cons₂ _ (.cons₂ _ (.cons _ .slnil)))) (fun D doc pm an cdv ct us mv ws h1 h2 h3 => match us, mv, ws, h1, h2, h3 with | [_, _], [_, _], [_], _, _, _ => ⟨_, _, _, _, _, _, rfl, rfl, ⟨_, _, _, _, _, _, rfl, rfl, rfl⟩⟩)
  exact ⟨fd, ["name", "corners", "mass", "at", "speed"], _, _, fn_mk (N := N_free) (ps := ["name", "corners", "mass", "at", "speed"]) (k := 6) F sc_free b_free (fun cdv A outer s H E hr => w_free T fd cdv A outer s H E hr), T.g_free, F.kp, hb, fun _ _ => (.cons (.int _) (.cons (glc_rep T.c_STILL T.g_STILL _ _) .nil))⟩
theorem dq_free_speed_at (T : Fx K mg) : DefQ P w K mg base 7 "free" 5 2 ["speed", "at"] [(true, 0), (false, 1), (false, 0)] [(.int 1)] m_free := by
  obtain ⟨fd, F⟩ := T.f_free
  obtain ⟨mv, hb⟩ := FunD.kbinds0 (ps := ["name", "corners", "mass", "at", "speed"]) F 2 ["speed", "at"] [("mass", .int 1)] [(true, 0), (false, 1), (false, 0)] (by simp) (fun q hq => List.Sublist.mem hq (.cons₂ _ (.cons _ (.cons _ .slnil)))) (fun D doc pm an cdv ct us mv ws h1 h2 h3 => match us, mv, ws, h1, h2, h3 with | [_, _], [_], [_, _], _, _, _ => ⟨_, _, _, _, _, _, rfl, rfl, rfl⟩)
  exact ⟨fd, ["name", "corners", "mass", "at", "speed"], _, _, fn_mk (N := N_free) (ps := ["name", "corners", "mass", "at", "speed"]) (k := 6) F sc_free b_free (fun cdv A outer s H E hr => w_free T fd cdv A outer s H E hr), T.g_free, F.kp, hb, fun _ _ => (.cons (.int _) .nil)⟩
theorem dq_free_speed_at_mass (T : Fx K mg) : DefQ P w K mg base 7 "free" 5 2 ["speed", "at", "mass"] [(false, 2), (false, 1), (false, 0)] [] m_free := by
  obtain ⟨fd, F⟩ := T.f_free
  obtain ⟨mv, hb⟩ := FunD.kbinds0 (ps := ["name", "corners", "mass", "at", "speed"]) F 2 ["speed", "at", "mass"] [] [(false, 2), (false, 1), (false, 0)] (by simp) (fun q hq => List.Sublist.mem hq (.cons _ (.cons _ (.cons _ .slnil)))) (fun D doc pm an cdv ct us mv ws h1 h2 h3 => match us, mv, ws, h1, h2, h3 with | [_, _], [], [_, _, _], _, _, _ => rfl)
  exact ⟨fd, ["name", "corners", "mass", "at", "speed"], _, _, fn_mk (N := N_free) (ps := ["name", "corners", "mass", "at", "speed"]) (k := 6) F sc_free b_free (fun cdv A outer s H E hr => w_free T fd cdv A outer s H E hr), T.g_free, F.kp, hb, fun _ _ => .nil⟩
theorem dq_free_speed_mass (T : Fx K mg) : DefQ P w K mg base 7 "free" 5 2 ["speed", "mass"] [(false, 1), (true, 0), (false, 0)] [(.tup [(.tup [(.int 0), (.int 1)]), (.tup [(.int 0), (.int 1)])])] m_free := by
  obtain ⟨fd, F⟩ := T.f_free
  obtain ⟨mv, hb⟩ := FunD.kbinds0 (ps := ["name", "corners", "mass", "at", "speed"]) F 2 ["speed", "mass"] [("at", .ref (He.ga K "STILL"))] [(false, 1), (true, 0), (false, 0)] (by simp) (fun q hq => List.Sublist.mem hq (.cons _ (.cons₂ _ (.cons _ .slnil)))) (fun D doc pm an cdv ct us mv ws h1 h2 h3 => match us, mv, ws, h1, h2, h3 with | [_, _], [_], [_, _], _, _, _ => ⟨_, _, _, _, _, _, rfl, rfl, rfl⟩)
  exact ⟨fd, ["name", "corners", "mass", "at", "speed"], _, _, fn_mk (N := N_free) (ps := ["name", "corners", "mass", "at", "speed"]) (k := 6) F sc_free b_free (fun cdv A outer s H E hr => w_free T fd cdv A outer s H E hr), T.g_free, F.kp, hb, fun _ _ => (.cons (glc_rep T.c_STILL T.g_STILL _ _) .nil)⟩
abbrev N_railed : List Str := ["name", "corners", "rail", "mass", "at", "speed"]
theorem sc_railed : FnScope N_railed ["name", "corners", "rail", "mass", "at", "speed"] (defScope (top 37)) := ⟨rfl, rfl, rfl, by decide +kernel, rfl, by decide +kernel, by decide +kernel⟩
theorem w_railed (T : Fx K mg) (fd : FuncData) (cdv : Value) (A : Around) (outer : List Env) (s : Shared) (H : Hp) (E : XK) (hr : Room 6 (A.deeper (envOfC "railed" (defScope (top 37)) s.heap.objs.size (He.ga K "railed") cdv))) :
    PSs (cxOf (L2.CX P w) P w K mg base N_railed "railed" (defScope (top 37)) (He.ga K "railed") cdv A outer s H E) (defBody (top 37)) (tS K (fun cls d _ H => E cls d H) b_railed) := by
  have tk := tk_cx (P := P) (w := w) (K := K) (mg := mg) (base := base) (N := N_railed) (qual := "railed") (scope := defScope (top 37)) (f := He.ga K "railed") (cd := cdv) (A := A) (outer := outer) (s := s) (H := H) (E := E)
  exact (mss_one (ms_ret (me_callQ2 (dq_look_parts_lightest_needs_rail T) (hr.mono (by decide)) tk (by rfl) (alen_cons alen_nil) (alen_cons (alen_cons alen_nil)) (ma_cons (me_tup (ma_cons (me_var (pv 0)) (ma_cons (me_var (pv 1)) (ma_cons (me_var (pv 3)) (ma_cons (me_var (pv 2)) (ma_cons (me_var (pv 4)) (ma_cons (me_var (pv 5)) ma_nil))))))) ma_nil) (mk_cons me_int (mk_cons me_bl mk_nil)) (fun es h => match es, h with | [_, _], _ => rfl))))
theorem dq_railed_at_rail_mass (T : Fx K mg) : DefQ P w K mg base 7 "railed" 6 2 ["at", "rail", "mass"] [(false, 1), (false, 2), (false, 0), (true, 0)] [(.tup [(.tup [(.int 0), (.int 1)]), (.tup [(.int 0), (.int 1)])])] m_railed := by
  obtain ⟨fd, F⟩ := T.f_railed
  obtain ⟨mv, hb⟩ := FunD.kbinds0 (ps := ["name", "corners", "rail", "mass", "at", "speed"]) F 2 ["at", "rail", "mass"] [("speed", .ref (He.ga K "STILL"))] [(false, 1), (false, 2), (false, 0), (true, 0)] (by simp) (fun q hq => List.Sublist.mem hq (.cons _ (.cons _ (.cons₂ _ .slnil)))) (fun D doc pm an cdv ct us mv ws h1 h2 h3 => match us, mv, ws, h1, h2, h3 with | [_, _], [_], [_, _, _], _, _, _ => ⟨_, _, _, _, _, _, rfl, rfl, rfl⟩)
  exact ⟨fd, ["name", "corners", "rail", "mass", "at", "speed"], _, _, fn_mk (N := N_railed) (ps := ["name", "corners", "rail", "mass", "at", "speed"]) (k := 6) F sc_railed b_railed (fun cdv A outer s H E hr => w_railed T fd cdv A outer s H E hr), T.g_railed, F.kp, hb, fun _ _ => (.cons (glc_rep T.c_STILL T.g_STILL _ _) .nil)⟩
theorem dq_railed_mass_rail (T : Fx K mg) : DefQ P w K mg base 7 "railed" 6 2 ["mass", "rail"] [(false, 1), (false, 0), (true, 0), (true, 1)] [(.tup [(.tup [(.int 0), (.int 1)]), (.tup [(.int 0), (.int 1)])]), (.tup [(.tup [(.int 0), (.int 1)]), (.tup [(.int 0), (.int 1)])])] m_railed := by
  obtain ⟨fd, F⟩ := T.f_railed
  obtain ⟨mv, hb⟩ := FunD.kbinds0 (ps := ["name", "corners", "rail", "mass", "at", "speed"]) F 2 ["mass", "rail"] [("at", .ref (He.ga K "STILL")), ("speed", .ref (He.ga K "STILL"))] [(false, 1), (false, 0), (true, 0), (true, 1)] (by simp) (fun q hq => List.Sublist.mem hq (.cons _ (.cons₂ _ (.cons₂ _ .slnil)))) (fun D doc pm an cdv ct us mv ws h1 h2 h3 => match us, mv, ws, h1, h2, h3 with | [_, _], [_, _], [_, _], _, _, _ => ⟨_, _, _, _, _, _, rfl, rfl, ⟨_, _, _, _, _, _, rfl, rfl, rfl⟩⟩)
  exact ⟨fd, ["name", "corners", "rail", "mass", "at", "speed"], _, _, fn_mk (N := N_railed) (ps := ["name", "corners", "rail", "mass", "at", "speed"]) (k := 6) F sc_railed b_railed (fun cdv A outer s H E hr => w_railed T fd cdv A outer s H E hr), T.g_railed, F.kp, hb, fun _ _ => (.cons (glc_rep T.c_STILL T.g_STILL _ _) (.cons (glc_rep T.c_STILL T.g_STILL _ _) .nil))⟩
theorem dq_railed_rail (T : Fx K mg) : DefQ P w K mg base 7 "railed" 6 2 ["rail"] [(false, 0), (true, 0), (true, 1), (true, 2)] [(.int 1), (.tup [(.tup [(.int 0), (.int 1)]), (.tup [(.int 0), (.int 1)])]), (.tup [(.tup [(.int 0), (.int 1)]), (.tup [(.int 0), (.int 1)])])] m_railed := by
  obtain ⟨fd, F⟩ := T.f_railed
  obtain ⟨mv, hb⟩ := FunD.kbinds0 (ps := ["name", "corners", "rail", "mass", "at", "speed"]) F 2 ["rail"] [("mass", .int 1), ("at", .ref (He.ga K "STILL")), ("speed", .ref (He.ga K "STILL"))] [(false, 0), (true, 0), (true, 1), (true, 2)] (by simp) (fun q hq => List.Sublist.mem hq (.cons₂ _ (.cons₂ _ (.cons₂ _ .slnil)))) (fun D doc pm an cdv ct us mv ws h1 h2 h3 => match us, mv, ws, h1, h2, h3 with | [_, _], [_, _, _], [_], _, _, _ => ⟨_, _, _, _, _, _, rfl, rfl, ⟨_, _, _, _, _, _, rfl, rfl, ⟨_, _, _, _, _, _, rfl, rfl, rfl⟩⟩⟩)
  exact ⟨fd, ["name", "corners", "rail", "mass", "at", "speed"], _, _, fn_mk (N := N_railed) (ps := ["name", "corners", "rail", "mass", "at", "speed"]) (k := 6) F sc_railed b_railed (fun cdv A outer s H E hr => w_railed T fd cdv A outer s H E hr), T.g_railed, F.kp, hb, fun _ _ => (.cons (.int _) (.cons (glc_rep T.c_STILL T.g_STILL _ _) (.cons (glc_rep T.c_STILL T.g_STILL _ _) .nil)))⟩
theorem dq_railed_rail_at (T : Fx K mg) : DefQ P w K mg base 7 "railed" 6 2 ["rail", "at"] [(false, 0), (true, 0), (false, 1), (true, 1)] [(.int 1), (.tup [(.tup [(.int 0), (.int 1)]), (.tup [(.int 0), (.int 1)])])] m_railed := by
  obtain ⟨fd, F⟩ := T.f_railed
  obtain ⟨mv, hb⟩ := FunD.kbinds0 (ps := ["name", "corners", "rail", "mass", "at", "speed"]) F 2 ["rail", "at"] [("mass", .int 1), ("speed", .ref (He.ga K "STILL"))] [(false, 0), (true, 0), (false, 1), (true, 1)] (by simp) (fun q hq => List.Sublist.mem hq (.cons₂ _ (.cons _ (.cons₂ _ .slnil)))) (fun D doc pm an cdv ct us mv ws h1 h2 h3 => match us, mv, ws, h1, h2, h3 with | [_, _], [_, _], [_, _], _, _, _ => ⟨_, _, _, _, _, _, rfl, rfl, ⟨_, _, _, _, _, _, rfl, rfl, rfl⟩⟩)
  exact ⟨fd, ["name", "corners", "rail", "mass", "at", "speed"], _, _, fn_mk (N := N_railed) (ps := ["name", "corners", "rail", "mass", "at", "speed"]) (k := 6) F sc_railed b_railed (fun cdv A outer s H E hr => w_railed T fd cdv A outer s H E hr), T.g_railed, F.kp, hb, fun _ _ => (.cons (.int _) (.cons (glc_rep T.c_STILL T.g_STILL _ _) .nil))⟩
theorem dq_railed_rail_mass_at_speed (T : Fx K mg) : DefQ P w K mg base 7 "railed" 6 2 ["rail", "mass", "at", "speed"] [(false, 0), (false, 1), (false, 2), (false, 3)] [] m_railed := by
  obtain ⟨fd, F⟩ := T.f_railed
  obtain ⟨mv, hb⟩ := FunD.kbinds0 (ps := ["name", "corners", "rail", "mass", "at", "speed"]) F 2 ["rail", "mass", "at", "speed"] [] [(false, 0), (false, 1), (false, 2), (false, 3)] (by simp) (fun q hq => List.Sublist.mem hq (.cons _ (.cons _ (.cons _ .slnil)))) (fun D doc pm an cdv ct us mv ws h1 h2 h3 => match us, mv, ws, h1, h2, h3 with | [_, _], [], [_, _, _, _], _, _, _ => rfl)
  exact ⟨fd, ["name", "corners", "rail", "mass", "at", "speed"], _, _, fn_mk (N := N_railed) (ps := ["name", "corners", "rail", "mass", "at", "speed"]) (k := 6) F sc_railed b_railed (fun cdv A outer s H E hr => w_railed T fd cdv A outer s H E hr), T.g_railed, F.kp, hb, fun _ _ => .nil⟩
theorem dq_railed_rail_speed_mass (T : Fx K mg) : DefQ P w K mg base 7 "railed" 6 2 ["rail", "speed", "mass"] [(false, 0), (false, 2), (true, 0), (false, 1)] [(.tup [(.tup [(.int 0), (.int 1)]), (.tup [(.int 0), (.int 1)])])] m_railed := by
  obtain ⟨fd, F⟩ := T.f_railed
  obtain ⟨mv, hb⟩ := FunD.kbinds0 (ps := ["name", "corners", "rail", "mass", "at", "speed"]) F 2 ["rail", "speed", "mass"] [("at", .ref (He.ga K "STILL"))] [(false, 0), (false, 2), (true, 0), (false, 1)] (by simp) (fun q hq => List.Sublist.mem hq (.cons _ (.cons₂ _ (.cons _ .slnil)))) (fun D doc pm an cdv ct us mv ws h1 h2 h3 => match us, mv, ws, h1, h2, h3 with | [_, _], [_], [_, _, _], _, _, _ => ⟨_, _, _, _, _, _, rfl, rfl, rfl⟩)
  exact ⟨fd, ["name", "corners", "rail", "mass", "at", "speed"], _, _, fn_mk (N := N_railed) (ps := ["name", "corners", "rail", "mass", "at", "speed"]) (k := 6) F sc_railed b_railed (fun cdv A outer s H E hr => w_railed T fd cdv A outer s H E hr), T.g_railed, F.kp, hb, fun _ _ => (.cons (glc_rep T.c_STILL T.g_STILL _ _) .nil)⟩
theorem dq_railed_speed_at_mass_rail (T : Fx K mg) : DefQ P w K mg base 7 "railed" 6 2 ["speed", "at", "mass", "rail"] [(false, 3), (false, 2), (false, 1), (false, 0)] [] m_railed := by
  obtain ⟨fd, F⟩ := T.f_railed
  obtain ⟨mv, hb⟩ := FunD.kbinds0 (ps := ["name", "corners", "rail", "mass", "at", "speed"]) F 2 ["speed", "at", "mass", "rail"] [] [(false, 3), (false, 2), (false, 1), (false, 0)] (by simp) (fun q hq => List.Sublist.mem hq (.cons _ (.cons _ (.cons _ .slnil)))) (fun D doc pm an cdv ct us mv ws h1 h2 h3 => match us, mv, ws, h1, h2, h3 with | [_, _], [], [_, _, _, _], _, _, _ => rfl)
  exact ⟨fd, ["name", "corners", "rail", "mass", "at", "speed"], _, _, fn_mk (N := N_railed) (ps := ["name", "corners", "rail", "mass", "at", "speed"]) (k := 6) F sc_railed b_railed (fun cdv A outer s H E hr => w_railed T fd cdv A outer s H E hr), T.g_railed, F.kp, hb, fun _ _ => .nil⟩
theorem dq_railed_speed_at_rail (T : Fx K mg) : DefQ P w K mg base 7 "railed" 6 2 ["speed", "at", "rail"] [(false, 2), (true, 0), (false, 1), (false, 0)] [(.int 1)] m_railed := by
  obtain ⟨fd, F⟩ := T.f_railed
  obtain ⟨mv, hb⟩ := FunD.kbinds0 (ps := ["name", "corners", "rail", "mass", "at", "speed"]) F 2 ["speed", "at", "rail"] [("mass", .int 1)] [(false, 2), (true, 0), (false, 1), (false, 0)] (by simp) (fun q hq => List.Sublist.mem hq (.cons₂ _ (.cons _ (.cons _ .slnil)))) (fun D doc pm an cdv ct us mv ws h1 h2 h3 => match us, mv, ws, h1, h2, h3 with | [_, _], [_], [_, _, _], _, _, _ => ⟨_, _, _, _, _, _, rfl, rfl, rfl⟩)
  exact ⟨fd, ["name", "corners", "rail", "mass", "at", "speed"], _, _, fn_mk (N := N_railed) (ps := ["name", "corners", "rail", "mass", "at", "speed"]) (k := 6) F sc_railed b_railed (fun cdv A outer s H E hr => w_railed T fd cdv A outer s H E hr), T.g_railed, F.kp, hb, fun _ _ => (.cons (.int _) .nil)⟩
theorem dq_railed_speed_rail (T : Fx K mg) : DefQ P w K mg base 7 "railed" 6 2 ["speed", "rail"] [(false, 1), (true, 0), (true, 1), (false, 0)] [(.int 1), (.tup [(.tup [(.int 0), (.int 1)]), (.tup [(.int 0), (.int 1)])])] m_railed := by
  obtain ⟨fd, F⟩ := T.f_railed
  obtain ⟨mv, hb⟩ := FunD.kbinds0 (ps := ["name", "corners", "rail", "mass", "at", "speed"]) F 2 ["speed", "rail"] [("mass", .int 1), ("at", .ref (He.ga K "STILL"))] [(false, 1), (true, 0), (true, 1), (false, 0)] (by simp) (fun q hq => List.Sublist.mem hq (.cons₂ _ (.cons₂ _ (.cons _ .slnil)))) (fun D doc pm an cdv ct us mv ws h1 h2 h3 => match us, mv, ws, h1, h2, h3 with | [_, _], [_, _], [_, _], _, _, _ => ⟨_, _, _, _, _, _, rfl, rfl, ⟨_, _, _, _, _, _, rfl, rfl, rfl⟩⟩)
  exact ⟨fd, ["name", "corners", "rail", "mass", "at", "speed"], _, _, fn_mk (N := N_railed) (ps := ["name", "corners", "rail", "mass", "at", "speed"]) (k := 6) F sc_railed b_railed (fun cdv A outer s H E hr => w_railed T fd cdv A outer s H E hr), T.g_railed, F.kp, hb, fun _ _ => (.cons (.int _) (.cons (glc_rep T.c_STILL T.g_STILL _ _) .nil))⟩
abbrev N__law_cell : List Str := ["_law_script", "_law_k"]
theorem sc__law_cell : FnScope N__law_cell ["_law_script", "_law_k"] (defScope (top 39)) := ⟨rfl, rfl, rfl, by decide +kernel, rfl, by decide +kernel, by decide +kernel⟩
theorem w__law_cell (T : Fx K mg) (fd : FuncData) (cdv : Value) (A : Around) (outer : List Env) (s : Shared) (H : Hp) (E : XK) (hr : Room 0 (A.deeper (envOfC "_law_cell" (defScope (top 39)) s.heap.objs.size (He.ga K "_law_cell") cdv))) :
    PSs (cxOf (L2.CX P w) P w K mg base N__law_cell "_law_cell" (defScope (top 39)) (He.ga K "_law_cell") cdv A outer s H E) (defBody (top 39)) (tS K (fun cls d _ H => E cls d H) b__law_cell) := by
  have tk := tk_cx (P := P) (w := w) (K := K) (mg := mg) (base := base) (N := N__law_cell) (qual := "_law_cell") (scope := defScope (top 39)) (f := He.ga K "_law_cell") (cd := cdv) (A := A) (outer := outer) (s := s) (H := H) (E := E)
  exact (mss_cons (ms_if (mt_cmp2 (op_eqD hr.units) o_eq (weak (me_callB call_len3 c_len (by rfl) T.z_len (by decide +kernel) (maw_cons (me_varW (pv 0)) maw_nil))) (weak me_int) (nomark _)) (mss_one (ms_ret (me_op2 op_add4 o_add (weak (me_op2 op_mulW o_mul (weak me_int) (me_varW (pv 1)))) (weak me_int)))) mss_nil)
  (mss_one (ms_ret (me_callB call_abs c_abs (by rfl) T.z_abs (by decide +kernel) (maw_cons (weak (me_ix ix_seq o_ix (me_varW (pv 0)) (weak (me_op2 op_modN o_mod (me_varW (pv 1)) (weak (me_callB call_len3 c_len (by rfl) T.z_len (by decide +kernel) (maw_cons (me_varW (pv 0)) maw_nil))))) (fun _ _ => rfl))) maw_nil)))))
theorem d__law_cell (T : Fx K mg) : Def P w K mg base 1 "_law_cell" 2 [] m__law_cell := by
  obtain ⟨fd, F⟩ := T.f__law_cell
  exact Def.mk' (ps := ["_law_script", "_law_k"]) (N := N__law_cell) (k := 0) F T.g__law_cell sc__law_cell b__law_cell ⟨[], [], .nil, F.bindsN (fun _ _ _ _ _ _ us hl => match us, hl with | [_, _], _ => rfl), fun _ _ => .nil⟩ (fun cdv A outer s H E hr => w__law_cell T fd cdv A outer s H E hr)
abbrev N__law_mixed : List Str := ["_law_script", "_law_k", "_law_many", "_law_number_here"]
theorem sc__law_mixed : FnScope N__law_mixed ["_law_script", "_law_k", "_law_many"] (defScope (top 40)) := ⟨rfl, rfl, rfl, by decide +kernel, rfl, by decide +kernel, by decide +kernel⟩
theorem w__law_mixed (T : Fx K mg) (fd : FuncData) (cdv : Value) (A : Around) (outer : List Env) (s : Shared) (H : Hp) (E : XK) (hr : Room 1 (A.deeper (envOfC "_law_mixed" (defScope (top 40)) s.heap.objs.size (He.ga K "_law_mixed") cdv))) :
    PSs (cxOf (L2.CX P w) P w K mg base N__law_mixed "_law_mixed" (defScope (top 40)) (He.ga K "_law_mixed") cdv A outer s H E) (defBody (top 40)) (tS K (fun cls d _ H => E cls d H) b__law_mixed) := by
  have tk := tk_cx (P := P) (w := w) (K := K) (mg := mg) (base := base) (N := N__law_mixed) (qual := "_law_mixed") (scope := defScope (top 40)) (f := He.ga K "_law_mixed") (cd := cdv) (A := A) (outer := outer) (s := s) (H := H) (E := E)
  exact (mss_cons (ms_set (ps_set (i := 3) sc__law_mixed.nd rfl (Or.inl rfl) (me_op2 op_modN o_mod (weak (me_op2 op_pow o_pow (weak (me_op2 op_add4 o_add (weak (me_op2 op_mulW o_mul (weak (me_op2 op_add4 o_add (weak (me_op2 op_modN o_mod (weak (me_call ((d__law_cell T).mono (by decide)) hr tk (by rfl) (alen_cons (alen_cons alen_nil)) (ma_cons (me_var (pv 0)) (ma_cons (me_var (pv 1)) ma_nil)))) (weak me_int))) (weak me_int))) (weak (me_op2 op_add4 o_add (me_varW (pv 1)) (weak me_int))))) (weak (me_op2 op_mulW o_mul (weak me_int) (me_varW (pv 1)))))) (weak me_int))) (weak me_int))))
  (mss_one (ms_ret (me_op2 op_modN o_mod (weak (me_op2 op_fdivB o_div (me_varW (pv 3)) (weak me_int))) (me_varW (pv 2))))))
theorem d__law_mixed (T : Fx K mg) : Def P w K mg base 2 "_law_mixed" 3 [] m__law_mixed := by
  obtain ⟨fd, F⟩ := T.f__law_mixed
  exact Def.mk' (ps := ["_law_script", "_law_k", "_law_many"]) (N := N__law_mixed) (k := 1) F T.g__law_mixed sc__law_mixed b__law_mixed ⟨[], [], .nil, F.bindsN (fun _ _ _ _ _ _ us hl => match us, hl with | [_, _, _], _ => rfl), fun _ _ => .nil⟩ (fun cdv A outer s H E hr => w__law_mixed T fd cdv A outer s H E hr)
abbrev N__law_deck : List Str := ["_law_script", "_law_cell_here"]
theorem sc__law_deck : FnScope N__law_deck ["_law_script"] (defScope (top 41)) := ⟨rfl, rfl, rfl, by decide +kernel, rfl, by decide +kernel, by decide +kernel⟩
theorem w__law_deck (T : Fx K mg) (fd : FuncData) (cdv : Value) (A : Around) (outer : List Env) (s : Shared) (H : Hp) (E : XK) (hr : Room 0 (A.deeper (envOfC "_law_deck" (defScope (top 41)) s.heap.objs.size (He.ga K "_law_deck") cdv))) :
    PSs (cxOf (L2.CX P w) P w K mg base N__law_deck "_law_deck" (defScope (top 41)) (He.ga K "_law_deck") cdv A outer s H E) (defBody (top 41)) (tSd K b__law_deck) := by
  have tk := tk_cx (P := P) (w := w) (K := K) (mg := mg) (base := base) (N := N__law_deck) (qual := "_law_deck") (scope := defScope (top 41)) (f := He.ga K "_law_deck") (cd := cdv) (A := A) (outer := outer) (s := s) (H := H) (E := E)
  exact (mss_oneD (ms_retDk (W := fun cls d _ H => E cls d H) (pv 0) (mf_lc (own := [("_law_cell_here", 1)]) (ws := [1]) rfl sc__law_deck.nd (toO (mi_seq (me_var (pv 0)))) (blkOk_by (N := N__law_deck) (sc := defScope (top 41)) (by decide +kernel)) (by decide) (fun _ _ _ _ _ => (mg_name (pg_name (i := 1) sc__law_deck.nd rfl (Or.inl rfl)))) (fun _ _ _ _ _ => (mts_one (mt_cmp2 op_ge o_ge (weak (me_callB call_abs c_abs (by rfl) T.z_abs (by decide +kernel) (maw_cons (me_varW (pv 1)) maw_nil))) (weak (me_op2 op_pow o_pow (weak me_int) (weak me_int))) (nomark _)))) (fun _ _ _ _ _ => (me_callB call_abs c_abs (by rfl) T.z_abs (by decide +kernel) (maw_cons (me_varW (pv 1)) maw_nil))))))
theorem d__law_deck (T : Fx K mg) : DefD P w K mg base 1 "_law_deck" 1 m__law_deck := by
  obtain ⟨fd, F⟩ := T.f__law_deck
  exact DefD.mk' (ps := ["_law_script"]) (N := N__law_deck) (k := 0) F T.g__law_deck sc__law_deck b__law_deck ⟨[], .nil, F.bindsN (fun _ _ _ _ _ _ us hl => match us, hl with | [_], _ => rfl)⟩ (fun cdv A outer s H E hr => w__law_deck T fd cdv A outer s H E hr)
abbrev N__law_take : List Str := ["_law_deck_here", "_law_many", "_law_cell_here"]
theorem sc__law_take : FnScope N__law_take ["_law_deck_here", "_law_many"] (defScope (top 42)) := ⟨rfl, rfl, rfl, by decide +kernel, rfl, by decide +kernel, by decide +kernel⟩
theorem w__law_take (T : Fx K mg) (fd : FuncData) (cdv : Value) (A : Around) (outer : List Env) (s : Shared) (H : Hp) (E : XK) (hr : Room 2 (A.deeper (envOfC "_law_take" (defScope (top 42)) s.heap.objs.size (He.ga K "_law_take") cdv))) :
    PSs (cxOf (L2.CX P w) P w K mg base N__law_take "_law_take" (defScope (top 42)) (He.ga K "_law_take") cdv A outer s H E) (defBody (top 42)) (tS K (fun cls d _ H => E cls d H) b__law_take) := by
  have tk := tk_cx (P := P) (w := w) (K := K) (mg := mg) (base := base) (N := N__law_take) (qual := "_law_take") (scope := defScope (top 42)) (f := He.ga K "_law_take") (cd := cdv) (A := A) (outer := outer) (s := s) (H := H) (E := E)
  exact (mss_cons (ms_while po_cx (mt_cmp2 op_lt o_lt (weak (me_dk (j := 2) (pe_ix ix_list (pv 0) pe_int (fun _ _ => rfl)))) (weak (me_dkLen (pe_callB call_len3 (by rfl) T.z_len (by decide +kernel) (pa_cons (pe_ix ix_list (pv 0) pe_int (fun _ _ => rfl)) pa_nil)))) (nomark _)) (mss_cons (ms_set (ps_set (i := 2) sc__law_take.nd rfl (Or.inl rfl) (me_dkAt (pe_ix ix_list (pe_ix ix_list (pv 0) pe_int (fun _ _ => rfl)) (pe_ix ix_list (pv 0) pe_int (fun _ _ => rfl)) (fun _ _ => rfl)))))
  (mss_cons (ms_if (mt_cmp2 op_gt o_gt (me_varW (pv 2)) (weak me_int) (nomark _)) (mss_cons (ms_dkBig (ps_asg (me_op2 op_fdivB o_div (me_varW (pv 2)) (me_varW (pv 1))) (pg_sub (pe_ix ix_list (pv 0) pe_int (fun _ _ => rfl)) (pe_ix ix_list (pv 0) pe_int (fun _ _ => rfl)) set_list)))
  (mss_one (ms_ret (me_op2 op_modN o_mod (me_varW (pv 2)) (me_varW (pv 1)))))) mss_nil)
  (mss_one (ms_dkSet (j := 2) (ps_asg (me_op2 op_add4 o_add (weak (me_dk (j := 2) (pe_ix ix_list (pv 0) pe_int (fun _ _ => rfl)))) (weak me_int)) (pg_sub (pv 0) pe_int set_list)))))))
  (mss_cons (ms_dkSet (j := 3) (ps_asg (me_op2 op_add4 o_add (weak (me_dk (j := 3) (pe_ix ix_list (pv 0) pe_int (fun _ _ => rfl)))) (weak me_int)) (pg_sub (pv 0) pe_int set_list)))
  (mss_one (ms_ret (me_call ((d__law_mixed T).mono (by decide)) hr tk (by rfl) (alen_cons (alen_cons (alen_cons alen_nil))) (ma_cons (me_dk (j := 0) (pe_ix ix_list (pv 0) pe_int (fun _ _ => rfl))) (ma_cons (me_dk (j := 3) (pe_ix ix_list (pv 0) pe_int (fun _ _ => rfl))) (ma_cons (me_var (pv 1)) ma_nil))))))))
theorem d__law_take (T : Fx K mg) : Def P w K mg base 3 "_law_take" 2 [] m__law_take := by
  obtain ⟨fd, F⟩ := T.f__law_take
  exact Def.mk' (ps := ["_law_deck_here", "_law_many"]) (N := N__law_take) (k := 2) F T.g__law_take sc__law_take b__law_take ⟨[], [], .nil, F.bindsN (fun _ _ _ _ _ _ us hl => match us, hl with | [_, _], _ => rfl), fun _ _ => .nil⟩ (fun cdv A outer s H E hr => w__law_take T fd cdv A outer s H E hr)
abbrev N__law_gcd : List Str := ["_law_one", "_law_other", "_law_rest"]
theorem sc__law_gcd : FnScope N__law_gcd ["_law_one", "_law_other"] (defScope (top 43)) := ⟨rfl, rfl, rfl, by decide +kernel, rfl, by decide +kernel, by decide +kernel⟩
theorem w__law_gcd (T : Fx K mg) (fd : FuncData) (cdv : Value) (A : Around) (outer : List Env) (s : Shared) (H : Hp) (E : XK) (hr : Room 0 (A.deeper (envOfC "_law_gcd" (defScope (top 43)) s.heap.objs.size (He.ga K "_law_gcd") cdv))) :
    PSs (cxOf (L2.CX P w) P w K mg base N__law_gcd "_law_gcd" (defScope (top 43)) (He.ga K "_law_gcd") cdv A outer s H E) (defBody (top 43)) (tS K (fun cls d _ H => E cls d H) b__law_gcd) := by
  have tk := tk_cx (P := P) (w := w) (K := K) (mg := mg) (base := base) (N := N__law_gcd) (qual := "_law_gcd") (scope := defScope (top 43)) (f := He.ga K "_law_gcd") (cd := cdv) (A := A) (outer := outer) (s := s) (H := H) (E := E)
  exact (mss_cons (ms_set (ps_set (i := 0) sc__law_gcd.nd rfl (Or.inl rfl) (me_callB call_abs c_abs (by rfl) T.z_abs (by decide +kernel) (maw_cons (me_varW (pv 0)) maw_nil))))
  (mss_cons (ms_set (ps_set (i := 1) sc__law_gcd.nd rfl (Or.inl rfl) (me_callB call_abs c_abs (by rfl) T.z_abs (by decide +kernel) (maw_cons (me_varW (pv 1)) maw_nil))))
  (mss_cons (ms_while po_cx (mt_cmp2 op_gt o_gt (me_varW (pv 1)) (weak me_int) (nomark _)) (mss_cons (ms_set (ps_set (i := 2) sc__law_gcd.nd rfl (Or.inl rfl) (me_op2 op_modN o_mod (me_varW (pv 0)) (me_varW (pv 1)))))
  (mss_cons (ms_set (ps_set (i := 0) sc__law_gcd.nd rfl (Or.inl rfl) (me_var (pv 1))))
  (mss_one (ms_set (ps_set (i := 1) sc__law_gcd.nd rfl (Or.inl rfl) (me_var (pv 2))))))))
  (mss_one (ms_ret (me_var (pv 0)))))))
theorem d__law_gcd (T : Fx K mg) : Def P w K mg base 1 "_law_gcd" 2 [] m__law_gcd := by
  obtain ⟨fd, F⟩ := T.f__law_gcd
  exact Def.mk' (ps := ["_law_one", "_law_other"]) (N := N__law_gcd) (k := 0) F T.g__law_gcd sc__law_gcd b__law_gcd ⟨[], [], .nil, F.bindsN (fun _ _ _ _ _ _ us hl => match us, hl with | [_, _], _ => rfl), fun _ _ => .nil⟩ (fun cdv A outer s H E hr => w__law_gcd T fd cdv A outer s H E hr)
abbrev N__law_left : List Str := ["_law_a", "_law_b", "_law_c"]
theorem sc__law_left : FnScope N__law_left ["_law_a", "_law_b", "_law_c"] (defScope (top 44)) := ⟨rfl, rfl, rfl, by decide +kernel, rfl, by decide +kernel, by decide +kernel⟩
theorem w__law_left (T : Fx K mg) (fd : FuncData) (cdv : Value) (A : Around) (outer : List Env) (s : Shared) (H : Hp) (E : XK) (hr : Room 0 (A.deeper (envOfC "_law_left" (defScope (top 44)) s.heap.objs.size (He.ga K "_law_left") cdv))) :
    PSs (cxOf (L2.CX P w) P w K mg base N__law_left "_law_left" (defScope (top 44)) (He.ga K "_law_left") cdv A outer s H E) (defBody (top 44)) (tS K (fun cls d _ H => E cls d H) b__law_left) := by
  have tk := tk_cx (P := P) (w := w) (K := K) (mg := mg) (base := base) (N := N__law_left) (qual := "_law_left") (scope := defScope (top 44)) (f := He.ga K "_law_left") (cd := cdv) (A := A) (outer := outer) (s := s) (H := H) (E := E)
  exact (mss_one (ms_ret (me_op2 op_sub o_sub (weak (me_op2 op_mulW o_mul (weak (me_op2 op_sub o_sub (weak (me_ix ix_seq o_ix (me_varW (pv 1)) (weak me_int) (fun _ _ => rfl))) (weak (me_ix ix_seq o_ix (me_varW (pv 0)) (weak me_int) (fun _ _ => rfl))))) (weak (me_op2 op_sub o_sub (weak (me_ix ix_seq o_ix (me_varW (pv 2)) (weak me_int) (fun _ _ => rfl))) (weak (me_ix ix_seq o_ix (me_varW (pv 0)) (weak me_int) (fun _ _ => rfl))))))) (weak (me_op2 op_mulW o_mul (weak (me_op2 op_sub o_sub (weak (me_ix ix_seq o_ix (me_varW (pv 1)) (weak me_int) (fun _ _ => rfl))) (weak (me_ix ix_seq o_ix (me_varW (pv 0)) (weak me_int) (fun _ _ => rfl))))) (weak (me_op2 op_sub o_sub (weak (me_ix ix_seq o_ix (me_varW (pv 2)) (weak me_int) (fun _ _ => rfl))) (weak (me_ix ix_seq o_ix (me_varW (pv 0)) (weak me_int) (fun _ _ => rfl))))))))))
theorem d__law_left (T : Fx K mg) : Def P w K mg base 1 "_law_left" 3 [] m__law_left := by
  obtain ⟨fd, F⟩ := T.f__law_left
  exact Def.mk' (ps := ["_law_a", "_law_b", "_law_c"]) (N := N__law_left) (k := 0) F T.g__law_left sc__law_left b__law_left ⟨[], [], .nil, F.bindsN (fun _ _ _ _ _ _ us hl => match us, hl with | [_, _, _], _ => rfl), fun _ _ => .nil⟩ (fun cdv A outer s H E hr => w__law_left T fd cdv A outer s H E hr)
abbrev N__law_half : List Str := ["_law_points", "_law_found", "_law_point"]
theorem sc__law_half : FnScope N__law_half ["_law_points"] (defScope (top 45)) := ⟨rfl, rfl, rfl, by decide +kernel, rfl, by decide +kernel, by decide +kernel⟩
theorem w__law_half (T : Fx K mg) (fd : FuncData) (cdv : Value) (A : Around) (outer : List Env) (s : Shared) (H : Hp) (E : XK) (hr : Room 1 (A.deeper (envOfC "_law_half" (defScope (top 45)) s.heap.objs.size (He.ga K "_law_half") cdv))) :
    PSs (cxOf (L2.CX P w) P w K mg base N__law_half "_law_half" (defScope (top 45)) (He.ga K "_law_half") cdv A outer s H E) (defBody (top 45)) (tS K (fun cls d _ H => E cls d H) b__law_half) := by
  have tk := tk_cx (P := P) (w := w) (K := K) (mg := mg) (base := base) (N := N__law_half) (qual := "_law_half") (scope := defScope (top 45)) (f := He.ga K "_law_half") (cd := cdv) (A := A) (outer := outer) (s := s) (H := H) (E := E)
  exact (mss_cons (ms_set (ps_set (i := 1) sc__law_half.nd rfl (Or.inl rfl) (me_new (mf_lst ma_nil))))
  (mss_cons (ms_for po_cx rfl (mi_seq (me_var (pv 0))) (mg_name (pg_name (i := 2) sc__law_half.nd rfl (Or.inl rfl))) (mss_cons (ms_while po_cx (PW.pt (mw_and (mt_cmp2 op_gt o_gt (weak (me_callB call_len3 c_len (by rfl) T.z_len (by decide +kernel) (maw_cons (me_varW (pv 1)) maw_nil))) (weak me_int) (nomark _)) (mw_and1 (mt_cmp2 op_le o_le (weak (me_call ((d__law_left T).mono (by decide)) hr tk (by rfl) (alen_cons (alen_cons (alen_cons alen_nil))) (ma_cons (me_ix ix_seq o_ix (me_varW (pv 1)) (weak (me_un un_neg o_neg (weak me_int))) (fun _ _ => rfl)) (ma_cons (me_ix ix_seq o_ix (me_varW (pv 1)) (weak (me_un un_neg o_neg (weak me_int))) (fun _ _ => rfl)) (ma_cons (me_var (pv 2)) ma_nil))))) (weak me_int) (nomark _))))) (mss_one (ms_set (ps_set (i := 1) sc__law_half.nd rfl (Or.inl rfl) (me_cutA (me_varW (pv 1)) mo_none (mo_some (me_un un_neg o_neg (weak me_int))))))))
  (mss_one (ms_set (ps_set (i := 1) sc__law_half.nd rfl (Or.inl rfl) (me_op2 op_add4 o_add (me_varW (pv 1)) (weak (me_new (mf_lst (ma_cons (me_var (pv 2)) ma_nil))))))))))
  (mss_one (ms_ret (me_cutA (me_varW (pv 1)) mo_none (mo_some (me_un un_neg o_neg (weak me_int))))))))
theorem d__law_half (T : Fx K mg) : Def P w K mg base 2 "_law_half" 1 [] m__law_half := by
  obtain ⟨fd, F⟩ := T.f__law_half
  exact Def.mk' (ps := ["_law_points"]) (N := N__law_half) (k := 1) F T.g__law_half sc__law_half b__law_half ⟨[], [], .nil, F.bindsN (fun _ _ _ _ _ _ us hl => match us, hl with | [_], _ => rfl), fun _ _ => .nil⟩ (fun cdv A outer s H E hr => w__law_half T fd cdv A outer s H E hr)
abbrev N__law_hull : List Str := ["_law_points", "_law_rows", "_law_found"]
theorem sc__law_hull : FnScope N__law_hull ["_law_points"] (defScope (top 46)) := ⟨rfl, rfl, rfl, by decide +kernel, rfl, by decide +kernel, by decide +kernel⟩
theorem w__law_hull (T : Fx K mg) (fd : FuncData) (cdv : Value) (A : Around) (outer : List Env) (s : Shared) (H : Hp) (E : XK) (hr : Room 2 (A.deeper (envOfC "_law_hull" (defScope (top 46)) s.heap.objs.size (He.ga K "_law_hull") cdv))) :
    PSs (cxOf (L2.CX P w) P w K mg base N__law_hull "_law_hull" (defScope (top 46)) (He.ga K "_law_hull") cdv A outer s H E) (defBody (top 46)) (tS K (fun cls d _ H => E cls d H) b__law_hull) := by
  have tk := tk_cx (P := P) (w := w) (K := K) (mg := mg) (base := base) (N := N__law_hull) (qual := "_law_hull") (scope := defScope (top 46)) (f := He.ga K "_law_hull") (cd := cdv) (A := A) (outer := outer) (s := s) (H := H) (E := E)
  exact (mss_cons (ms_set (ps_set (i := 1) sc__law_hull.nd rfl (Or.inl rfl) (me_new (mf_sortD hr.units (by rfl) T.z_sorted (maw_cons (me_varW (pv 0)) maw_nil)))))
  (mss_cons (ms_set (ps_set (i := 2) sc__law_hull.nd rfl (Or.inl rfl) (me_op2 op_add4 o_add (weak (me_call ((d__law_half T).mono (by decide)) hr tk (by rfl) (alen_cons alen_nil) (ma_cons (me_var (pv 1)) ma_nil))) (weak (me_call ((d__law_half T).mono (by decide)) hr tk (by rfl) (alen_cons alen_nil) (ma_cons (me_new (mf_rev (me_varW (pv 1)))) ma_nil))))))
  (mss_cons (ms_if (mt_cmp2 op_lt o_lt (weak (me_callB call_len3 c_len (by rfl) T.z_len (by decide +kernel) (maw_cons (me_varW (pv 2)) maw_nil))) (weak me_int) (nomark _)) (mss_one (ms_ret (me_new (mf_lst (ma_cons (me_tup (ma_cons me_int (ma_cons me_int ma_nil))) (ma_cons (me_tup (ma_cons me_int (ma_cons me_int ma_nil))) (ma_cons (me_tup (ma_cons me_int (ma_cons me_int ma_nil))) ma_nil))))))) mss_nil)
  (mss_one (ms_ret (me_var (pv 2)))))))
theorem d__law_hull (T : Fx K mg) : Def P w K mg base 3 "_law_hull" 1 [] m__law_hull := by
  obtain ⟨fd, F⟩ := T.f__law_hull
  exact Def.mk' (ps := ["_law_points"]) (N := N__law_hull) (k := 2) F T.g__law_hull sc__law_hull b__law_hull ⟨[], [], .nil, F.bindsN (fun _ _ _ _ _ _ us hl => match us, hl with | [_], _ => rfl), fun _ _ => .nil⟩ (fun cdv A outer s H E hr => w__law_hull T fd cdv A outer s H E hr)
abbrev N__law_number : List Str := ["_law_deck_here", "_law_span"]
theorem sc__law_number : FnScope N__law_number ["_law_deck_here", "_law_span"] (defScope (top 47)) := ⟨rfl, rfl, rfl, by decide +kernel, rfl, by decide +kernel, by decide +kernel⟩
theorem w__law_number (T : Fx K mg) (fd : FuncData) (cdv : Value) (A : Around) (outer : List Env) (s : Shared) (H : Hp) (E : XK) (hr : Room 3 (A.deeper (envOfC "_law_number" (defScope (top 47)) s.heap.objs.size (He.ga K "_law_number") cdv))) :
    PSs (cxOf (L2.CX P w) P w K mg base N__law_number "_law_number" (defScope (top 47)) (He.ga K "_law_number") cdv A outer s H E) (defBody (top 47)) (tS K (fun cls d _ H => E cls d H) b__law_number) := by
  have tk := tk_cx (P := P) (w := w) (K := K) (mg := mg) (base := base) (N := N__law_number) (qual := "_law_number") (scope := defScope (top 47)) (f := He.ga K "_law_number") (cd := cdv) (A := A) (outer := outer) (s := s) (H := H) (E := E)
  exact (mss_one (ms_ret (me_op2 op_sub o_sub (weak (me_op2 op_modN o_mod (weak (me_op2 op_add4 o_add (weak (me_op2 op_mulW o_mul (weak me_int) (weak (me_callS ((d__law_take T).mono (by decide)) hr tk (by rfl) (alen_cons (alen_cons alen_nil)) (ma_cons (me_var (pv 0)) (ma_cons (me_op2 op_add4 o_add (weak (me_op2 op_mulW o_mul (weak me_int) (me_varW (pv 1)))) (weak me_int)) ma_nil)))))) (weak (me_callS ((d__law_take T).mono (by decide)) hr tk (by rfl) (alen_cons (alen_cons alen_nil)) (ma_cons (me_var (pv 0)) (ma_cons me_int ma_nil)))))) (weak (me_op2 op_add4 o_add (weak (me_op2 op_mulW o_mul (weak me_int) (me_varW (pv 1)))) (weak me_int))))) (me_varW (pv 1)))))
theorem d__law_number (T : Fx K mg) : Def P w K mg base 4 "_law_number" 2 [] m__law_number := by
  obtain ⟨fd, F⟩ := T.f__law_number
  exact Def.mk' (ps := ["_law_deck_here", "_law_span"]) (N := N__law_number) (k := 3) F T.g__law_number sc__law_number b__law_number ⟨[], [], .nil, F.bindsN (fun _ _ _ _ _ _ us hl => match us, hl with | [_, _], _ => rfl), fun _ _ => .nil⟩ (fun cdv A outer s H E hr => w__law_number T fd cdv A outer s H E hr)
abbrev N__law_whole : List Str := ["_law_thing"]
theorem sc__law_whole : FnScope N__law_whole ["_law_thing"] (defScope (top 48)) := ⟨rfl, rfl, rfl, by decide +kernel, rfl, by decide +kernel, by decide +kernel⟩
theorem w__law_whole (T : Fx K mg) (fd : FuncData) (cdv : Value) (A : Around) (outer : List Env) (s : Shared) (H : Hp) (E : XK) (hr : Room 0 (A.deeper (envOfC "_law_whole" (defScope (top 48)) s.heap.objs.size (He.ga K "_law_whole") cdv))) :
    PSs (cxOf (L2.CX P w) P w K mg base N__law_whole "_law_whole" (defScope (top 48)) (He.ga K "_law_whole") cdv A outer s H E) (defBody (top 48)) (tS K (fun cls d _ H => E cls d H) b__law_whole) := by
  have tk := tk_cx (P := P) (w := w) (K := K) (mg := mg) (base := base) (N := N__law_whole) (qual := "_law_whole") (scope := defScope (top 48)) (f := He.ga K "_law_whole") (cd := cdv) (A := A) (outer := outer) (s := s) (H := H) (E := E)
  exact (mss_one (ms_ret (me_and (me_callB call_isi c_isi (by rfl) T.z_isinstance (by decide +kernel) (maw_cons (me_varW (pv 0)) (maw_cons (weak (me_type (by rfl) T.z_int (by decide +kernel))) maw_nil))) (me_one (me_not (me_callB call_isi c_isi (by rfl) T.z_isinstance (by decide +kernel) (maw_cons (me_varW (pv 0)) (maw_cons (weak (me_type (by rfl) T.z_bool (by decide +kernel))) maw_nil))))))))
theorem d__law_whole (T : Fx K mg) : Def P w K mg base 1 "_law_whole" 1 [] m__law_whole := by
  obtain ⟨fd, F⟩ := T.f__law_whole
  exact Def.mk' (ps := ["_law_thing"]) (N := N__law_whole) (k := 0) F T.g__law_whole sc__law_whole b__law_whole ⟨[], [], .nil, F.bindsN (fun _ _ _ _ _ _ us hl => match us, hl with | [_], _ => rfl), fun _ _ => .nil⟩ (fun cdv A outer s H E hr => w__law_whole T fd cdv A outer s H E hr)
abbrev N__law_is_round : List Str := ["_law_corners", "_law_many", "_law_k", "_law_turn"]
theorem sc__law_is_round : FnScope N__law_is_round ["_law_corners"] (defScope (top 49)) := ⟨rfl, rfl, rfl, by decide +kernel, rfl, by decide +kernel, by decide +kernel⟩
theorem w__law_is_round (T : Fx K mg) (fd : FuncData) (cdv : Value) (A : Around) (outer : List Env) (s : Shared) (H : Hp) (E : XK) (hr : Room 1 (A.deeper (envOfC "_law_is_round" (defScope (top 49)) s.heap.objs.size (He.ga K "_law_is_round") cdv))) :
    PSs (cxOf (L2.CX P w) P w K mg base N__law_is_round "_law_is_round" (defScope (top 49)) (He.ga K "_law_is_round") cdv A outer s H E) (defBody (top 49)) (tS K (fun cls d _ H => E cls d H) b__law_is_round) := by
  have tk := tk_cx (P := P) (w := w) (K := K) (mg := mg) (base := base) (N := N__law_is_round) (qual := "_law_is_round") (scope := defScope (top 49)) (f := He.ga K "_law_is_round") (cd := cdv) (A := A) (outer := outer) (s := s) (H := H) (E := E)
  exact (mss_cons (ms_set (ps_set (i := 1) sc__law_is_round.nd rfl (Or.inl rfl) (me_callB call_len3 c_len (by rfl) T.z_len (by decide +kernel) (maw_cons (me_varW (pv 0)) maw_nil))))
  (mss_cons (ms_if (PW.pt (mw_or (mt_cmp2 op_lt o_lt (me_varW (pv 1)) (weak me_int) (nomark _)) (mw_or1 (mt_cmp2 op_gt o_gt (me_varW (pv 1)) (weak me_int) (nomark _))))) (mss_one (ms_ret me_bl)) mss_nil)
  (mss_cons (ms_for po_cx rfl (mi_range1 (by rfl) T.z_range (maw_cons (me_varW (pv 1)) maw_nil)) (mg_name (pg_name (i := 2) sc__law_is_round.nd rfl (Or.inl rfl))) (mss_one (ms_for po_cx rfl (mi_range2 (by rfl) T.z_range (maw_cons (weak me_int) (maw_cons (me_varW (pv 1)) maw_nil))) (mg_name (pg_name (i := 3) sc__law_is_round.nd rfl (Or.inl rfl))) (mss_one (ms_if (mt_cmp2 op_le o_le (weak (me_call ((d__law_left T).mono (by decide)) hr tk (by rfl) (alen_cons (alen_cons (alen_cons alen_nil))) (ma_cons (me_ix ix_seq o_ix (me_varW (pv 0)) (me_varW (pv 2)) (fun _ _ => rfl)) (ma_cons (me_ix ix_seq o_ix (me_varW (pv 0)) (weak (me_op2 op_modN o_mod (weak (me_op2 op_add4 o_add (me_varW (pv 2)) (weak me_int))) (me_varW (pv 1)))) (fun _ _ => rfl)) (ma_cons (me_ix ix_seq o_ix (me_varW (pv 0)) (weak (me_op2 op_modN o_mod (weak (me_op2 op_add4 o_add (me_varW (pv 2)) (me_varW (pv 3)))) (me_varW (pv 1)))) (fun _ _ => rfl)) ma_nil))))) (weak me_int) (nomark _)) (mss_one (ms_ret me_bl)) mss_nil)))))
  (mss_one (ms_ret me_bl)))))
theorem d__law_is_round (T : Fx K mg) : Def P w K mg base 2 "_law_is_round" 1 [] m__law_is_round := by
  obtain ⟨fd, F⟩ := T.f__law_is_round
  exact Def.mk' (ps := ["_law_corners"]) (N := N__law_is_round) (k := 1) F T.g__law_is_round sc__law_is_round b__law_is_round ⟨[], [], .nil, F.bindsN (fun _ _ _ _ _ _ us hl => match us, hl with | [_], _ => rfl), fun _ _ => .nil⟩ (fun cdv A outer s H E hr => w__law_is_round T fd cdv A outer s H E hr)
abbrev N__law_is_spot : List Str := ["_law_thing", "_law_one"]
theorem sc__law_is_spot : FnScope N__law_is_spot ["_law_thing"] (defScope (top 50)) := ⟨rfl, rfl, rfl, by decide +kernel, rfl, by decide +kernel, by decide +kernel⟩
theorem w__law_is_spot (T : Fx K mg) (fd : FuncData) (cdv : Value) (A : Around) (outer : List Env) (s : Shared) (H : Hp) (E : XK) (hr : Room 1 (A.deeper (envOfC "_law_is_spot" (defScope (top 50)) s.heap.objs.size (He.ga K "_law_is_spot") cdv))) :
    PSs (cxOf (L2.CX P w) P w K mg base N__law_is_spot "_law_is_spot" (defScope (top 50)) (He.ga K "_law_is_spot") cdv A outer s H E) (defBody (top 50)) (tS K (fun cls d _ H => E cls d H) b__law_is_spot) := by
  have tk := tk_cx (P := P) (w := w) (K := K) (mg := mg) (base := base) (N := N__law_is_spot) (qual := "_law_is_spot") (scope := defScope (top 50)) (f := He.ga K "_law_is_spot") (cd := cdv) (A := A) (outer := outer) (s := s) (H := H) (E := E)
  exact (mss_cons (ms_if (PW.pt (mw_or (mt_not (mt_truth (weak (me_callB call_isi c_isi (by rfl) T.z_isinstance (by decide +kernel) (maw_cons (me_varW (pv 0)) (maw_cons (weak (me_type (by rfl) T.z_tuple (by decide +kernel))) maw_nil)))))) (mw_or1 (mt_cmp2 (op_neD hr.units) o_ne (weak (me_callB call_len3 c_len (by rfl) T.z_len (by decide +kernel) (maw_cons (me_varW (pv 0)) maw_nil))) (weak me_int) (nomark _))))) (mss_one (ms_ret me_bl)) mss_nil)
  (mss_cons (ms_for po_cx rfl (mi_seq (me_var (pv 0))) (mg_name (pg_name (i := 1) sc__law_is_spot.nd rfl (Or.inl rfl))) (mss_cons (ms_if (PW.pt (mw_or (mt_not (mt_truth (weak (me_callB call_isi c_isi (by rfl) T.z_isinstance (by decide +kernel) (maw_cons (me_varW (pv 1)) (maw_cons (weak (me_type (by rfl) T.z_tuple (by decide +kernel))) maw_nil)))))) (mw_or (mt_cmp2 (op_neD hr.units) o_ne (weak (me_callB call_len3 c_len (by rfl) T.z_len (by decide +kernel) (maw_cons (me_varW (pv 1)) maw_nil))) (weak me_int) (nomark _)) (mw_or (mt_not (mt_truth (weak (me_call ((d__law_whole T).mono (by decide)) hr tk (by rfl) (alen_cons alen_nil) (ma_cons (me_ix ix_seq o_ix (me_varW (pv 1)) (weak me_int) (fun _ _ => rfl)) ma_nil))))) (mw_or1 (mt_not (mt_truth (weak (me_call ((d__law_whole T).mono (by decide)) hr tk (by rfl) (alen_cons alen_nil) (ma_cons (me_ix ix_seq o_ix (me_varW (pv 1)) (weak me_int) (fun _ _ => rfl)) ma_nil)))))))))) (mss_one (ms_ret me_bl)) mss_nil)
  (mss_one (ms_if (PW.pt (mw_or (mt_cmp2 op_lt o_lt (weak (me_ix ix_seq o_ix (me_varW (pv 1)) (weak me_int) (fun _ _ => rfl))) (weak me_int) (nomark _)) (mw_or (mt_cmp2 (op_neD hr.units) o_ne (weak (me_call ((d__law_gcd T).mono (by decide)) hr tk (by rfl) (alen_cons (alen_cons alen_nil)) (ma_cons (me_ix ix_seq o_ix (me_varW (pv 1)) (weak me_int) (fun _ _ => rfl)) (ma_cons (me_ix ix_seq o_ix (me_varW (pv 1)) (weak me_int) (fun _ _ => rfl)) ma_nil)))) (weak me_int) (nomark _)) (mw_or1 (mt_cmp2 op_ge o_ge (weak (me_callB (call_max2 rfl) c_max2 (by rfl) T.z_max (by decide +kernel) (maw_cons (weak (me_callB call_abs c_abs (by rfl) T.z_abs (by decide +kernel) (maw_cons (weak (me_ix ix_seq o_ix (me_varW (pv 1)) (weak me_int) (fun _ _ => rfl))) maw_nil))) (maw_cons (weak (me_ix ix_seq o_ix (me_varW (pv 1)) (weak me_int) (fun _ _ => rfl))) maw_nil)))) (weak (me_op2 op_powB o_powB (weak (me_op2 op_pow o_pow (weak me_int) (weak me_int))) (weak me_int))) (nomark _)))))) (mss_one (ms_ret me_bl)) mss_nil))))
  (mss_one (ms_ret me_bl))))
theorem d__law_is_spot (T : Fx K mg) : Def P w K mg base 2 "_law_is_spot" 1 [] m__law_is_spot := by
  obtain ⟨fd, F⟩ := T.f__law_is_spot
  exact Def.mk' (ps := ["_law_thing"]) (N := N__law_is_spot) (k := 1) F T.g__law_is_spot sc__law_is_spot b__law_is_spot ⟨[], [], .nil, F.bindsN (fun _ _ _ _ _ _ us hl => match us, hl with | [_], _ => rfl), fun _ _ => .nil⟩ (fun cdv A outer s H E hr => w__law_is_spot T fd cdv A outer s H E hr)
abbrev N__law_is_rail : List Str := ["_law_thing", "_law_one"]
theorem sc__law_is_rail : FnScope N__law_is_rail ["_law_thing"] (defScope (top 51)) := ⟨rfl, rfl, rfl, by decide +kernel, rfl, by decide +kernel, by decide +kernel⟩
theorem w__law_is_rail (T : Fx K mg) (fd : FuncData) (cdv : Value) (A : Around) (outer : List Env) (s : Shared) (H : Hp) (E : XK) (hr : Room 1 (A.deeper (envOfC "_law_is_rail" (defScope (top 51)) s.heap.objs.size (He.ga K "_law_is_rail") cdv))) :
    PSs (cxOf (L2.CX P w) P w K mg base N__law_is_rail "_law_is_rail" (defScope (top 51)) (He.ga K "_law_is_rail") cdv A outer s H E) (defBody (top 51)) (tS K (fun cls d _ H => E cls d H) b__law_is_rail) := by
  have tk := tk_cx (P := P) (w := w) (K := K) (mg := mg) (base := base) (N := N__law_is_rail) (qual := "_law_is_rail") (scope := defScope (top 51)) (f := He.ga K "_law_is_rail") (cd := cdv) (A := A) (outer := outer) (s := s) (H := H) (E := E)
  exact (mss_cons (ms_if (PW.pt (mw_or (mt_not (mt_truth (weak (me_callB call_isi c_isi (by rfl) T.z_isinstance (by decide +kernel) (maw_cons (me_varW (pv 0)) (maw_cons (weak (me_type (by rfl) T.z_tuple (by decide +kernel))) maw_nil)))))) (mw_or1 (mt_cmp2 (op_neD hr.units) o_ne (weak (me_callB call_len3 c_len (by rfl) T.z_len (by decide +kernel) (maw_cons (me_varW (pv 0)) maw_nil))) (weak me_int) (nomark _))))) (mss_one (ms_ret me_bl)) mss_nil)
  (mss_cons (ms_if (mt_cmp2 (op_neD hr.units) o_ne (weak (me_new (mf_lc (own := [("_law_one", 1)]) (ws := [1]) rfl sc__law_is_rail.nd (toO (mi_seq (me_var (pv 0)))) (blkOk_by (N := N__law_is_rail) (sc := defScope (top 51)) (by decide +kernel)) (by decide) (fun _ _ _ _ _ => (mg_name (pg_name (i := 1) sc__law_is_rail.nd rfl (Or.inl rfl)))) (fun _ _ _ _ _ => (mts_one (PW.pt (mw_or (mt_not (mt_truth (weak (me_call ((d__law_whole T).mono (by decide)) hr takes0 (by rfl) (alen_cons alen_nil) (ma_cons (me_var (pv 1)) ma_nil))))) (mw_or1 (mt_cmp2 op_gt o_gt (weak (me_callB call_abs c_abs (by rfl) T.z_abs (by decide +kernel) (maw_cons (me_varW (pv 1)) maw_nil))) (weak me_int) (nomark _))))))) (fun _ _ _ _ _ => (me_var (pv 1)))))) (weak (me_new (mf_lst ma_nil))) (nomark _)) (mss_one (ms_ret me_bl)) mss_nil)
  (mss_one (ms_ret (me_cmp2 (op_eqD hr.units) o_eq (weak (me_call ((d__law_gcd T).mono (by decide)) hr tk (by rfl) (alen_cons (alen_cons alen_nil)) (ma_cons (me_ix ix_seq o_ix (me_varW (pv 0)) (weak me_int) (fun _ _ => rfl)) (ma_cons (me_ix ix_seq o_ix (me_varW (pv 0)) (weak me_int) (fun _ _ => rfl)) ma_nil)))) (weak me_int) (nomark _))))))
theorem d__law_is_rail (T : Fx K mg) : Def P w K mg base 2 "_law_is_rail" 1 [] m__law_is_rail := by
  obtain ⟨fd, F⟩ := T.f__law_is_rail
  exact Def.mk' (ps := ["_law_thing"]) (N := N__law_is_rail) (k := 1) F T.g__law_is_rail sc__law_is_rail b__law_is_rail ⟨[], [], .nil, F.bindsN (fun _ _ _ _ _ _ us hl => match us, hl with | [_], _ => rfl), fun _ _ => .nil⟩ (fun cdv A outer s H E hr => w__law_is_rail T fd cdv A outer s H E hr)
abbrev N__law_wrong : List Str := ["_law_kind", "_law_things_here", "_law_heavy", "_law_x", "_law_y", "_law_sign"]
theorem sc__law_wrong : FnScope N__law_wrong ["_law_kind", "_law_things_here"] (defScope (top 52)) := ⟨rfl, rfl, rfl, by decide +kernel, rfl, by decide +kernel, by decide +kernel⟩
theorem w__law_wrong (T : Fx K mg) (fd : FuncData) (cdv : Value) (A : Around) (outer : List Env) (s : Shared) (H : Hp) (E : XK) (hr : Room 2 (A.deeper (envOfC "_law_wrong" (defScope (top 52)) s.heap.objs.size (He.ga K "_law_wrong") cdv))) :
    PSs (cxOf (L2.CX P w) P w K mg base N__law_wrong "_law_wrong" (defScope (top 52)) (He.ga K "_law_wrong") cdv A outer s H E) (defBody (top 52)) (tS K (fun cls d _ H => E cls d H) b__law_wrong) := by
  have tk := tk_cx (P := P) (w := w) (K := K) (mg := mg) (base := base) (N := N__law_wrong) (qual := "_law_wrong") (scope := defScope (top 52)) (f := He.ga K "_law_wrong") (cd := cdv) (A := A) (outer := outer) (s := s) (H := H) (E := E)
  exact (mss_cons (ms_if (PW.pt (mw_or (mt_not (mt_truth (weak (me_callB call_isi c_isi (by rfl) T.z_isinstance (by decide +kernel) (maw_cons (weak (me_ix ix_seq o_ix (me_varW (pv 1)) (weak me_int) (fun _ _ => rfl))) (maw_cons (weak (me_type (by rfl) T.z_str (by decide +kernel))) maw_nil)))))) (mw_or (mt_cmp2 op_eq_ss o_eqSS (weak (me_ix ix_seq o_ix (me_varW (pv 1)) (weak me_int) (fun _ _ => rfl))) (weak me_str) (nomark _)) (mw_or1 (mt_cmp2 op_gt o_gt (weak (me_callB call_len3 c_len (by rfl) T.z_len (by decide +kernel) (maw_cons (weak (me_ix ix_seq o_ix (me_varW (pv 1)) (weak me_int) (fun _ _ => rfl))) maw_nil))) (weak me_int) (nomark _)))))) (mss_one (ms_ret me_str)) mss_nil)
  (mss_cons (ms_if (mt_cmp2 (op_neD hr.units) o_ne (weak (me_new (mf_lc (own := [("_law_sign", 5)]) (ws := [5]) rfl sc__law_wrong.nd (toO (mi_str (me_ix ix_seq o_ix (me_varW (pv 1)) (weak me_int) (fun _ _ => rfl)))) (blkOk_by (N := N__law_wrong) (sc := defScope (top 52)) (by decide +kernel)) (by decide) (fun _ _ _ _ _ => (mg_name (pg_name (i := 5) sc__law_wrong.nd rfl (Or.inl rfl)))) (fun _ _ _ _ _ => (mts_one (mt_cmp2 op_notin_str o_notinS (me_varW (pv 5)) (weak me_str) (by rfl)))) (fun _ _ _ _ _ => (me_var (pv 5)))))) (weak (me_new (mf_lst ma_nil))) (nomark _)) (mss_one (ms_ret me_str)) mss_nil)
  (mss_cons (ms_if (mt_not (mt_truth (weak (me_call ((d__law_is_round T).mono (by decide)) hr tk (by rfl) (alen_cons alen_nil) (ma_cons (me_ix ix_seq o_ix (me_varW (pv 1)) (weak me_int) (fun _ _ => rfl)) ma_nil))))) (mss_one (ms_ret me_str)) mss_nil)
  (mss_cons (ms_set (ps_set (i := 2) sc__law_wrong.nd rfl (Or.inl rfl) (me_ix ix_seq o_ix (me_varW (pv 1)) (weak me_int) (fun _ _ => rfl))))
  (mss_cons (ms_if (PW.pt (mw_and (mt_cmp2 op_gt o_gt (me_varW (pv 0)) (weak me_int) (nomark _)) (mw_and1 (PW.pt (mw_or (mt_not (mt_truth (weak (me_call ((d__law_whole T).mono (by decide)) hr tk (by rfl) (alen_cons alen_nil) (ma_cons (me_var (pv 2)) ma_nil))))) (mw_or (mt_cmp2 op_lt o_lt (me_varW (pv 2)) (weak me_int) (nomark _)) (mw_or1 (mt_cmp2 op_gt o_gt (me_varW (pv 2)) (weak me_int) (nomark _))))))))) (mss_one (ms_ret me_str)) mss_nil)
  (mss_cons (ms_if (PW.pt (mw_and (mt_cmp2 (op_eqD hr.units) o_eq (me_varW (pv 0)) (weak me_int) (nomark _)) (mw_and1 (mt_not (mt_truth (weak (me_call ((d__law_is_rail T).mono (by decide)) hr tk (by rfl) (alen_cons alen_nil) (ma_cons (me_ix ix_seq o_ix (me_varW (pv 1)) (weak me_int) (fun _ _ => rfl)) ma_nil)))))))) (mss_one (ms_ret me_str)) mss_nil)
  (mss_cons (ms_if (mt_not (mt_truth (weak (me_call ((d__law_is_spot T).mono (by decide)) hr tk (by rfl) (alen_cons alen_nil) (ma_cons (me_ix ix_seq o_ix (me_varW (pv 1)) (weak me_int) (fun _ _ => rfl)) ma_nil))))) (mss_one (ms_ret me_str)) mss_nil)
  (mss_cons (ms_if (PW.pt (mw_and (mt_cmp2 op_gt o_gt (me_varW (pv 0)) (weak me_int) (nomark _)) (mw_and1 (mt_not (mt_truth (weak (me_call ((d__law_is_spot T).mono (by decide)) hr tk (by rfl) (alen_cons alen_nil) (ma_cons (me_ix ix_seq o_ix (me_varW (pv 1)) (weak me_int) (fun _ _ => rfl)) ma_nil)))))))) (mss_one (ms_ret me_str)) mss_nil)
  (mss_cons (ms_if (mt_cmp2 (op_eqD hr.units) o_eq (me_varW (pv 0)) (weak me_int) (nomark _)) (mss_cons (ms_set (ps_set (i := 3) sc__law_wrong.nd rfl (Or.inl rfl) (me_ix ix_seq o_ix (weak (me_ix ix_seq o_ix (me_varW (pv 1)) (weak me_int) (fun _ _ => rfl))) (weak me_int) (fun _ _ => rfl))))
  (mss_cons (ms_set (ps_set (i := 4) sc__law_wrong.nd rfl (Or.inl rfl) (me_ix ix_seq o_ix (weak (me_ix ix_seq o_ix (me_varW (pv 1)) (weak me_int) (fun _ _ => rfl))) (weak me_int) (fun _ _ => rfl))))
  (mss_one (ms_if (mt_cmp2 (op_neD hr.units) o_ne (weak (me_op2 op_mulW o_mul (weak (me_op2 op_mulW o_mul (weak (me_ix ix_seq o_ix (weak (me_ix ix_seq o_ix (me_varW (pv 1)) (weak me_int) (fun _ _ => rfl))) (weak me_int) (fun _ _ => rfl))) (weak (me_ix ix_seq o_ix (me_varW (pv 4)) (weak me_int) (fun _ _ => rfl))))) (weak (me_ix ix_seq o_ix (me_varW (pv 3)) (weak me_int) (fun _ _ => rfl))))) (weak (me_op2 op_mulW o_mul (weak (me_op2 op_mulW o_mul (weak (me_ix ix_seq o_ix (weak (me_ix ix_seq o_ix (me_varW (pv 1)) (weak me_int) (fun _ _ => rfl))) (weak me_int) (fun _ _ => rfl))) (weak (me_ix ix_seq o_ix (me_varW (pv 3)) (weak me_int) (fun _ _ => rfl))))) (weak (me_ix ix_seq o_ix (me_varW (pv 4)) (weak me_int) (fun _ _ => rfl))))) (nomark _)) (mss_one (ms_ret me_str)) mss_nil)))) mss_nil)
  (mss_one (ms_ret me_str)))))))))))
theorem d__law_wrong (T : Fx K mg) : Def P w K mg base 3 "_law_wrong" 2 [] m__law_wrong := by
  obtain ⟨fd, F⟩ := T.f__law_wrong
  exact Def.mk' (ps := ["_law_kind", "_law_things_here"]) (N := N__law_wrong) (k := 2) F T.g__law_wrong sc__law_wrong b__law_wrong ⟨[], [], .nil, F.bindsN (fun _ _ _ _ _ _ us hl => match us, hl with | [_, _], _ => rfl), fun _ _ => .nil⟩ (fun cdv A outer s H E hr => w__law_wrong T fd cdv A outer s H E hr)
abbrev N__law_due : List Str := ["_law_kind", "_law_things_here", "_law_start", "_law_shape"]
theorem sc__law_due : FnScope N__law_due ["_law_kind", "_law_things_here"] (defScope (top 53)) := ⟨rfl, rfl, rfl, by decide +kernel, rfl, by decide +kernel, by decide +kernel⟩
theorem w__law_due (T : Fx K mg) (fd : FuncData) (cdv : Value) (A : Around) (outer : List Env) (s : Shared) (H : Hp) (E : XK) (hr : Room 0 (A.deeper (envOfC "_law_due" (defScope (top 53)) s.heap.objs.size (He.ga K "_law_due") cdv))) :
    PSs (cxOf (L2.CX P w) P w K mg base N__law_due "_law_due" (defScope (top 53)) (He.ga K "_law_due") cdv A outer s H E) (defBody (top 53)) (tS K (fun cls d _ H => E cls d H) b__law_due) := by
  have tk := tk_cx (P := P) (w := w) (K := K) (mg := mg) (base := base) (N := N__law_due) (qual := "_law_due") (scope := defScope (top 53)) (f := He.ga K "_law_due") (cd := cdv) (A := A) (outer := outer) (s := s) (H := H) (E := E)
  exact (mss_cons (ms_set (ps_set (i := 2) sc__law_due.nd rfl (Or.inl rfl) (me_idx (room65 hr) (weak (me_ix ix_seq o_ix (me_varW (pv 1)) (weak me_int) (fun _ _ => rfl))) (weak (me_callB (cr_minD rfl hr.units) c_minD (by rfl) T.z_min (by decide +kernel) (maw_cons (weak (me_ix ix_seq o_ix (me_varW (pv 1)) (weak me_int) (fun _ _ => rfl))) maw_nil))))))
  (mss_cons (ms_set (ps_set (i := 3) sc__law_due.nd rfl (Or.inl rfl) (me_callTy call_tuple_of c_tup (by rfl) T.z_tuple (by decide +kernel) (maw_cons (weak (me_op2 op_add4 o_add (weak (me_cutA (weak (me_ix ix_seq o_ix (me_varW (pv 1)) (weak me_int) (fun _ _ => rfl))) (mo_some (me_var (pv 2))) mo_none)) (weak (me_cutA (weak (me_ix ix_seq o_ix (me_varW (pv 1)) (weak me_int) (fun _ _ => rfl))) mo_none (mo_some (me_var (pv 2))))))) maw_nil))))
  (mss_cons (ms_if (mt_cmp2 (op_eqD hr.units) o_eq (me_varW (pv 0)) (weak me_int) (nomark _)) (mss_one (ms_ret (me_tup (ma_cons (me_ix ix_seq o_ix (me_varW (pv 1)) (weak me_int) (fun _ _ => rfl)) (ma_cons (me_var (pv 3)) (ma_cons me_int (ma_cons me_non (ma_cons (me_ix ix_seq o_ix (me_varW (pv 1)) (weak me_int) (fun _ _ => rfl)) (ma_cons (me_tup (ma_cons (me_tup (ma_cons me_int (ma_cons me_int ma_nil))) (ma_cons (me_tup (ma_cons me_int (ma_cons me_int ma_nil))) ma_nil))) ma_nil))))))))) mss_nil)
  (mss_cons (ms_if (mt_cmp2 (op_eqD hr.units) o_eq (me_varW (pv 0)) (weak me_int) (nomark _)) (mss_one (ms_ret (me_tup (ma_cons (me_ix ix_seq o_ix (me_varW (pv 1)) (weak me_int) (fun _ _ => rfl)) (ma_cons (me_var (pv 3)) (ma_cons (me_ix ix_seq o_ix (me_varW (pv 1)) (weak me_int) (fun _ _ => rfl)) (ma_cons me_non (ma_cons (me_ix ix_seq o_ix (me_varW (pv 1)) (weak me_int) (fun _ _ => rfl)) (ma_cons (me_ix ix_seq o_ix (me_varW (pv 1)) (weak me_int) (fun _ _ => rfl)) ma_nil))))))))) mss_nil)
  (mss_one (ms_ret (me_tup (ma_cons (me_ix ix_seq o_ix (me_varW (pv 1)) (weak me_int) (fun _ _ => rfl)) (ma_cons (me_var (pv 3)) (ma_cons (me_ix ix_seq o_ix (me_varW (pv 1)) (weak me_int) (fun _ _ => rfl)) (ma_cons (me_ix ix_seq o_ix (me_varW (pv 1)) (weak me_int) (fun _ _ => rfl)) (ma_cons (me_ix ix_seq o_ix (me_varW (pv 1)) (weak me_int) (fun _ _ => rfl)) (ma_cons (me_ix ix_seq o_ix (me_varW (pv 1)) (weak me_int) (fun _ _ => rfl)) ma_nil)))))))))))))
theorem d__law_due (T : Fx K mg) : Def P w K mg base 1 "_law_due" 2 [] m__law_due := by
  obtain ⟨fd, F⟩ := T.f__law_due
  exact Def.mk' (ps := ["_law_kind", "_law_things_here"]) (N := N__law_due) (k := 0) F T.g__law_due sc__law_due b__law_due ⟨[], [], .nil, F.bindsN (fun _ _ _ _ _ _ us hl => match us, hl with | [_, _], _ => rfl), fun _ _ => .nil⟩ (fun cdv A outer s H E hr => w__law_due T fd cdv A outer s H E hr)
abbrev N__law_name : List Str := ["_law_deck_here", "_law_many", "_law_letters", "_law_k"]
theorem sc__law_name : FnScope N__law_name ["_law_deck_here", "_law_many"] (defScope (top 54)) := ⟨rfl, rfl, rfl, by decide +kernel, rfl, by decide +kernel, by decide +kernel⟩
theorem w__law_name (T : Fx K mg) (fd : FuncData) (cdv : Value) (A : Around) (outer : List Env) (s : Shared) (H : Hp) (E : XK) (hr : Room 3 (A.deeper (envOfC "_law_name" (defScope (top 54)) s.heap.objs.size (He.ga K "_law_name") cdv))) :
    PSs (cxOf (L2.CX P w) P w K mg base N__law_name "_law_name" (defScope (top 54)) (He.ga K "_law_name") cdv A outer s H E) (defBody (top 54)) (tS K (fun cls d _ H => E cls d H) b__law_name) := by
  have tk := tk_cx (P := P) (w := w) (K := K) (mg := mg) (base := base) (N := N__law_name) (qual := "_law_name") (scope := defScope (top 54)) (f := He.ga K "_law_name") (cd := cdv) (A := A) (outer := outer) (s := s) (H := H) (E := E)
  exact (mss_cons (ms_set (ps_set (i := 2) sc__law_name.nd rfl (Or.inr rfl) me_str))
  (mss_one (ms_ret (me_join (weak (me_new (mf_lc (own := [("_law_k", 3)]) (ws := [3]) rfl sc__law_name.nd (toO (mi_range1 (by rfl) T.z_range (maw_cons (me_varW (pv 1)) maw_nil))) (blkOk_by (N := N__law_name) (sc := defScope (top 54)) (by decide +kernel)) (by decide) (fun _ _ _ _ _ => (mg_name (pg_name (i := 3) sc__law_name.nd rfl (Or.inl rfl)))) (fun _ _ _ _ _ => mts_nil) (fun _ _ _ _ _ => (me_ix ix_seq o_ix (me_varW (pv 2)) (weak (me_callS ((d__law_take T).mono (by decide)) hr takes0 (by rfl) (alen_cons (alen_cons alen_nil)) (ma_cons (me_var (pv 0)) (ma_cons me_int ma_nil)))) (fun _ _ => rfl))))))))))
theorem d__law_name (T : Fx K mg) : Def P w K mg base 4 "_law_name" 2 [] m__law_name := by
  obtain ⟨fd, F⟩ := T.f__law_name
  exact Def.mk' (ps := ["_law_deck_here", "_law_many"]) (N := N__law_name) (k := 3) F T.g__law_name sc__law_name b__law_name ⟨[], [], .nil, F.bindsN (fun _ _ _ _ _ _ us hl => match us, hl with | [_, _], _ => rfl), fun _ _ => .nil⟩ (fun cdv A outer s H E hr => w__law_name T fd cdv A outer s H E hr)
abbrev N__law_share : List Str := ["_law_deck_here", "_law_far", "_law_top", "_law_bottom", "_law_part"]
theorem sc__law_share : FnScope N__law_share ["_law_deck_here"] (defScope (top 55)) := ⟨rfl, rfl, rfl, by decide +kernel, rfl, by decide +kernel, by decide +kernel⟩
theorem w__law_share (T : Fx K mg) (fd : FuncData) (cdv : Value) (A : Around) (outer : List Env) (s : Shared) (H : Hp) (E : XK) (hr : Room 4 (A.deeper (envOfC "_law_share" (defScope (top 55)) s.heap.objs.size (He.ga K "_law_share") cdv))) :
    PSs (cxOf (L2.CX P w) P w K mg base N__law_share "_law_share" (defScope (top 55)) (He.ga K "_law_share") cdv A outer s H E) (defBody (top 55)) (tS K (fun cls d _ H => E cls d H) b__law_share) := by
  have tk := tk_cx (P := P) (w := w) (K := K) (mg := mg) (base := base) (N := N__law_share) (qual := "_law_share") (scope := defScope (top 55)) (f := He.ga K "_law_share") (cd := cdv) (A := A) (outer := outer) (s := s) (H := H) (E := E)
  exact (mss_cons (ms_set (ps_set (i := 1) sc__law_share.nd rfl (Or.inl rfl) (me_ix ix_seq o_ix (weak (me_new (mf_lst (ma_cons me_int (ma_cons (me_op2 op_pow o_pow (weak me_int) (weak me_int)) (ma_cons (me_op2 op_pow o_pow (weak me_int) (weak me_int)) ma_nil)))))) (weak (me_callS ((d__law_take T).mono (by decide)) hr tk (by rfl) (alen_cons (alen_cons alen_nil)) (ma_cons (me_var (pv 0)) (ma_cons me_int ma_nil)))) (fun _ _ => rfl))))
  (mss_cons (ms_set (ps_set (i := 2) sc__law_share.nd rfl (Or.inl rfl) (me_op2 op_sub o_sub (weak (me_op2 op_modN o_mod (weak (me_op2 op_mulW o_mul (weak (me_callS ((d__law_number T).mono (by decide)) hr tk (by rfl) (alen_cons (alen_cons alen_nil)) (ma_cons (me_var (pv 0)) (ma_cons (me_op2 op_pow o_pow (weak me_int) (weak me_int)) ma_nil)))) (weak (me_op2 op_pow o_pow (weak (me_op2 op_add4 o_add (weak me_int) (weak (me_callS ((d__law_take T).mono (by decide)) hr tk (by rfl) (alen_cons (alen_cons alen_nil)) (ma_cons (me_var (pv 0)) (ma_cons (me_op2 op_pow o_pow (weak me_int) (weak me_int)) ma_nil)))))) (weak me_int))))) (weak (me_op2 op_add4 o_add (weak (me_op2 op_mulW o_mul (weak me_int) (me_varW (pv 1)))) (weak me_int))))) (me_varW (pv 1)))))
  (mss_cons (ms_set (ps_set (i := 3) sc__law_share.nd rfl (Or.inl rfl) (me_op2 op_add4 o_add (weak me_int) (weak (me_op2 op_mulW o_mul (weak (me_callS ((d__law_take T).mono (by decide)) hr tk (by rfl) (alen_cons (alen_cons alen_nil)) (ma_cons (me_var (pv 0)) (ma_cons me_int ma_nil)))) (weak (me_callS ((d__law_take T).mono (by decide)) hr tk (by rfl) (alen_cons (alen_cons alen_nil)) (ma_cons (me_var (pv 0)) (ma_cons (me_op2 op_pow o_pow (weak me_int) (weak me_int)) ma_nil)))))))))
  (mss_cons (ms_set (ps_set (i := 4) sc__law_share.nd rfl (Or.inl rfl) (me_call ((d__law_gcd T).mono (by decide)) hr tk (by rfl) (alen_cons (alen_cons alen_nil)) (ma_cons (me_var (pv 2)) (ma_cons (me_var (pv 3)) ma_nil)))))
  (mss_one (ms_ret (me_tup (ma_cons (me_op2 op_fdivB o_div (me_varW (pv 2)) (me_varW (pv 4))) (ma_cons (me_op2 op_fdivB o_div (me_varW (pv 3)) (me_varW (pv 4))) ma_nil)))))))))
theorem d__law_share (T : Fx K mg) : Def P w K mg base 5 "_law_share" 1 [] m__law_share := by
  obtain ⟨fd, F⟩ := T.f__law_share
  exact Def.mk' (ps := ["_law_deck_here"]) (N := N__law_share) (k := 4) F T.g__law_share sc__law_share b__law_share ⟨[], [], .nil, F.bindsN (fun _ _ _ _ _ _ us hl => match us, hl with | [_], _ => rfl), fun _ _ => .nil⟩ (fun cdv A outer s H E hr => w__law_share T fd cdv A outer s H E hr)
abbrev N__law_rail : List Str := ["_law_deck_here", "_law_p", "_law_q", "_law_part"]
theorem sc__law_rail : FnScope N__law_rail ["_law_deck_here"] (defScope (top 56)) := ⟨rfl, rfl, rfl, by decide +kernel, rfl, by decide +kernel, by decide +kernel⟩
theorem w__law_rail (T : Fx K mg) (fd : FuncData) (cdv : Value) (A : Around) (outer : List Env) (s : Shared) (H : Hp) (E : XK) (hr : Room 4 (A.deeper (envOfC "_law_rail" (defScope (top 56)) s.heap.objs.size (He.ga K "_law_rail") cdv))) :
    PSs (cxOf (L2.CX P w) P w K mg base N__law_rail "_law_rail" (defScope (top 56)) (He.ga K "_law_rail") cdv A outer s H E) (defBody (top 56)) (tS K (fun cls d _ H => E cls d H) b__law_rail) := by
  have tk := tk_cx (P := P) (w := w) (K := K) (mg := mg) (base := base) (N := N__law_rail) (qual := "_law_rail") (scope := defScope (top 56)) (f := He.ga K "_law_rail") (cd := cdv) (A := A) (outer := outer) (s := s) (H := H) (E := E)
  exact (mss_cons (ms_set (ps_set (i := 1) sc__law_rail.nd rfl (Or.inl rfl) (me_callS ((d__law_number T).mono (by decide)) hr tk (by rfl) (alen_cons (alen_cons alen_nil)) (ma_cons (me_var (pv 0)) (ma_cons (me_ix ix_seq o_ix (weak (me_new (mf_lst (ma_cons me_int (ma_cons me_int (ma_cons me_int ma_nil)))))) (weak (me_callS ((d__law_take T).mono (by decide)) hr tk (by rfl) (alen_cons (alen_cons alen_nil)) (ma_cons (me_var (pv 0)) (ma_cons me_int ma_nil)))) (fun _ _ => rfl)) ma_nil)))))
  (mss_cons (ms_set (ps_set (i := 2) sc__law_rail.nd rfl (Or.inl rfl) (me_callS ((d__law_number T).mono (by decide)) hr tk (by rfl) (alen_cons (alen_cons alen_nil)) (ma_cons (me_var (pv 0)) (ma_cons (me_ix ix_seq o_ix (weak (me_new (mf_lst (ma_cons me_int (ma_cons me_int (ma_cons me_int ma_nil)))))) (weak (me_callS ((d__law_take T).mono (by decide)) hr tk (by rfl) (alen_cons (alen_cons alen_nil)) (ma_cons (me_var (pv 0)) (ma_cons me_int ma_nil)))) (fun _ _ => rfl)) ma_nil)))))
  (mss_cons (ms_if (PW.pt (mw_and (mt_cmp2 (op_eqD hr.units) o_eq (me_varW (pv 1)) (weak me_int) (nomark _)) (mw_and1 (mt_cmp2 (op_eqD hr.units) o_eq (me_varW (pv 2)) (weak me_int) (nomark _))))) (mss_one (ms_ret (me_tup (ma_cons me_int (ma_cons (me_un un_neg o_neg (weak me_int)) ma_nil))))) mss_nil)
  (mss_cons (ms_set (ps_set (i := 3) sc__law_rail.nd rfl (Or.inl rfl) (me_call ((d__law_gcd T).mono (by decide)) hr tk (by rfl) (alen_cons (alen_cons alen_nil)) (ma_cons (me_var (pv 1)) (ma_cons (me_var (pv 2)) ma_nil)))))
  (mss_one (ms_ret (me_tup (ma_cons (me_op2 op_fdivB o_div (me_varW (pv 1)) (me_varW (pv 3))) (ma_cons (me_op2 op_fdivB o_div (me_varW (pv 2)) (me_varW (pv 3))) ma_nil)))))))))
theorem d__law_rail (T : Fx K mg) : Def P w K mg base 5 "_law_rail" 1 [] m__law_rail := by
  obtain ⟨fd, F⟩ := T.f__law_rail
  exact Def.mk' (ps := ["_law_deck_here"]) (N := N__law_rail) (k := 4) F T.g__law_rail sc__law_rail b__law_rail ⟨[], [], .nil, F.bindsN (fun _ _ _ _ _ _ us hl => match us, hl with | [_], _ => rfl), fun _ _ => .nil⟩ (fun cdv A outer s H E hr => w__law_rail T fd cdv A outer s H E hr)
abbrev N__law_times : List Str := ["_law_number_here", "_law_one", "_law_part"]
theorem sc__law_times : FnScope N__law_times ["_law_number_here", "_law_one"] (defScope (top 57)) := ⟨rfl, rfl, rfl, by decide +kernel, rfl, by decide +kernel, by decide +kernel⟩
theorem w__law_times (T : Fx K mg) (fd : FuncData) (cdv : Value) (A : Around) (outer : List Env) (s : Shared) (H : Hp) (E : XK) (hr : Room 1 (A.deeper (envOfC "_law_times" (defScope (top 57)) s.heap.objs.size (He.ga K "_law_times") cdv))) :
    PSs (cxOf (L2.CX P w) P w K mg base N__law_times "_law_times" (defScope (top 57)) (He.ga K "_law_times") cdv A outer s H E) (defBody (top 57)) (tS K (fun cls d _ H => E cls d H) b__law_times) := by
  have tk := tk_cx (P := P) (w := w) (K := K) (mg := mg) (base := base) (N := N__law_times) (qual := "_law_times") (scope := defScope (top 57)) (f := He.ga K "_law_times") (cd := cdv) (A := A) (outer := outer) (s := s) (H := H) (E := E)
  exact (mss_cons (ms_set (ps_set (i := 2) sc__law_times.nd rfl (Or.inl rfl) (me_call ((d__law_gcd T).mono (by decide)) hr tk (by rfl) (alen_cons (alen_cons alen_nil)) (ma_cons (me_op2 op_mulW o_mul (me_varW (pv 0)) (weak (me_ix ix_seq o_ix (me_varW (pv 1)) (weak me_int) (fun _ _ => rfl)))) (ma_cons (me_ix ix_seq o_ix (me_varW (pv 1)) (weak me_int) (fun _ _ => rfl)) ma_nil)))))
  (mss_one (ms_ret (me_tup (ma_cons (me_op2 op_fdivB o_div (weak (me_op2 op_mulW o_mul (me_varW (pv 0)) (weak (me_ix ix_seq o_ix (me_varW (pv 1)) (weak me_int) (fun _ _ => rfl))))) (me_varW (pv 2))) (ma_cons (me_op2 op_fdivB o_div (weak (me_ix ix_seq o_ix (me_varW (pv 1)) (weak me_int) (fun _ _ => rfl))) (me_varW (pv 2))) ma_nil))))))
theorem d__law_times (T : Fx K mg) : Def P w K mg base 2 "_law_times" 2 [] m__law_times := by
  obtain ⟨fd, F⟩ := T.f__law_times
  exact Def.mk' (ps := ["_law_number_here", "_law_one"]) (N := N__law_times) (k := 1) F T.g__law_times sc__law_times b__law_times ⟨[], [], .nil, F.bindsN (fun _ _ _ _ _ _ us hl => match us, hl with | [_, _], _ => rfl), fun _ _ => .nil⟩ (fun cdv A outer s H E hr => w__law_times T fd cdv A outer s H E hr)
abbrev N__law_things : List Str := ["_law_deck_here", "_law_kind", "_law_name_here", "_law_span", "_law_many", "_law_corners", "_law_start", "_law_heavy", "_law_line", "_law_place", "_law_going", "_law_k"]
theorem sc__law_things : FnScope N__law_things ["_law_deck_here", "_law_kind"] (defScope (top 58)) := ⟨rfl, rfl, rfl, by decide +kernel, rfl, by decide +kernel, by decide +kernel⟩
theorem w__law_things (T : Fx K mg) (fd : FuncData) (cdv : Value) (A : Around) (outer : List Env) (s : Shared) (H : Hp) (E : XK) (hr : Room 5 (A.deeper (envOfC "_law_things" (defScope (top 58)) s.heap.objs.size (He.ga K "_law_things") cdv))) :
    PSs (cxOf (L2.CX P w) P w K mg base N__law_things "_law_things" (defScope (top 58)) (He.ga K "_law_things") cdv A outer s H E) (defBody (top 58)) (tS K (fun cls d _ H => E cls d H) b__law_things) := by
  have tk := tk_cx (P := P) (w := w) (K := K) (mg := mg) (base := base) (N := N__law_things) (qual := "_law_things") (scope := defScope (top 58)) (f := He.ga K "_law_things") (cd := cdv) (A := A) (outer := outer) (s := s) (H := H) (E := E)
  exact (mss_cons (ms_set (ps_set (i := 2) sc__law_things.nd rfl (Or.inl rfl) (me_callS ((d__law_name T).mono (by decide)) hr tk (by rfl) (alen_cons (alen_cons alen_nil)) (ma_cons (me_var (pv 0)) (ma_cons (me_ix ix_seq o_ix (weak (me_new (mf_lst (ma_cons me_int (ma_cons me_int (ma_cons me_int (ma_cons me_int (ma_cons me_int ma_nil)))))))) (weak (me_callS ((d__law_take T).mono (by decide)) hr tk (by rfl) (alen_cons (alen_cons alen_nil)) (ma_cons (me_var (pv 0)) (ma_cons me_int ma_nil)))) (fun _ _ => rfl)) ma_nil)))))
  (mss_cons (ms_set (ps_set (i := 3) sc__law_things.nd rfl (Or.inr rfl) (me_ix ix_seq o_ix (weak (me_new (mf_lst (ma_cons me_int (ma_cons me_int (ma_cons me_int (ma_cons me_int ma_nil))))))) (weak (me_callS ((d__law_take T).mono (by decide)) hr tk (by rfl) (alen_cons (alen_cons alen_nil)) (ma_cons (me_var (pv 0)) (ma_cons me_int ma_nil)))) (fun _ _ => rfl))))
  (mss_cons (ms_set (ps_set (i := 4) sc__law_things.nd rfl (Or.inl rfl) (me_op2 op_add4 o_add (weak me_int) (weak (me_callS ((d__law_take T).mono (by decide)) hr tk (by rfl) (alen_cons (alen_cons alen_nil)) (ma_cons (me_var (pv 0)) (ma_cons me_int ma_nil)))))))
  (mss_cons (ms_set (ps_set (i := 5) sc__law_things.nd rfl (Or.inl rfl) (me_call ((d__law_hull T).mono (by decide)) hr tk (by rfl) (alen_cons alen_nil) (ma_cons (me_new (mf_lc (own := [("_law_k", 11)]) (ws := [11]) rfl sc__law_things.nd (toO (mi_range1 (by rfl) T.z_range (maw_cons (me_varW (pv 4)) maw_nil))) (blkOk_by (N := N__law_things) (sc := defScope (top 58)) (by decide +kernel)) (by decide) (fun _ _ _ _ _ => (mg_name (pg_name (i := 11) sc__law_things.nd rfl (Or.inl rfl)))) (fun _ _ _ _ _ => mts_nil) (fun _ _ _ _ _ => (me_tup (ma_cons (me_callS ((d__law_number T).mono (by decide)) hr takes0 (by rfl) (alen_cons (alen_cons alen_nil)) (ma_cons (me_var (pv 0)) (ma_cons (me_var (pv 3)) ma_nil))) (ma_cons (me_callS ((d__law_number T).mono (by decide)) hr takes0 (by rfl) (alen_cons (alen_cons alen_nil)) (ma_cons (me_var (pv 0)) (ma_cons (me_var (pv 3)) ma_nil))) ma_nil)))))) ma_nil))))
  (mss_cons (ms_set (ps_set (i := 6) sc__law_things.nd rfl (Or.inl rfl) (me_callS ((d__law_take T).mono (by decide)) hr tk (by rfl) (alen_cons (alen_cons alen_nil)) (ma_cons (me_var (pv 0)) (ma_cons (me_callB call_len3 c_len (by rfl) T.z_len (by decide +kernel) (maw_cons (me_varW (pv 5)) maw_nil)) ma_nil)))))
  (mss_cons (ms_set (ps_set (i := 5) sc__law_things.nd rfl (Or.inl rfl) (me_op2 op_add4 o_add (weak (me_cutA (me_varW (pv 5)) (mo_some (me_var (pv 6))) mo_none)) (weak (me_cutA (me_varW (pv 5)) mo_none (mo_some (me_var (pv 6))))))))
  (mss_cons (ms_set (ps_set (i := 7) sc__law_things.nd rfl (Or.inl rfl) (me_ix ix_seq o_ix (weak (me_new (mf_lst (ma_cons me_int (ma_cons me_int (ma_cons me_int (ma_cons (me_op2 op_add4 o_add (weak me_int) (weak (me_callS ((d__law_take T).mono (by decide)) hr tk (by rfl) (alen_cons (alen_cons alen_nil)) (ma_cons (me_var (pv 0)) (ma_cons me_int ma_nil))))) ma_nil))))))) (weak (me_callS ((d__law_take T).mono (by decide)) hr tk (by rfl) (alen_cons (alen_cons alen_nil)) (ma_cons (me_var (pv 0)) (ma_cons me_int ma_nil)))) (fun _ _ => rfl))))
  (mss_cons (ms_set (ps_set (i := 8) sc__law_things.nd rfl (Or.inl rfl) (me_callS ((d__law_rail T).mono (by decide)) hr tk (by rfl) (alen_cons alen_nil) (ma_cons (me_var (pv 0)) ma_nil))))
  (mss_cons (ms_set (ps_set (i := 9) sc__law_things.nd rfl (Or.inl rfl) (me_tup (ma_cons (me_callS ((d__law_share T).mono (by decide)) hr tk (by rfl) (alen_cons alen_nil) (ma_cons (me_var (pv 0)) ma_nil)) (ma_cons (me_callS ((d__law_share T).mono (by decide)) hr tk (by rfl) (alen_cons alen_nil) (ma_cons (me_var (pv 0)) ma_nil)) ma_nil)))))
  (mss_cons (ms_set (ps_set (i := 10) sc__law_things.nd rfl (Or.inl rfl) (me_tup (ma_cons (me_callS ((d__law_share T).mono (by decide)) hr tk (by rfl) (alen_cons alen_nil) (ma_cons (me_var (pv 0)) ma_nil)) (ma_cons (me_callS ((d__law_share T).mono (by decide)) hr tk (by rfl) (alen_cons alen_nil) (ma_cons (me_var (pv 0)) ma_nil)) ma_nil)))))
  (mss_cons (ms_if (mt_cmp2 (op_eqD hr.units) o_eq (me_varW (pv 1)) (weak me_int) (nomark _)) (mss_one (ms_set (ps_set (i := 10) sc__law_things.nd rfl (Or.inl rfl) (me_tup (ma_cons (me_call ((d__law_times T).mono (by decide)) hr tk (by rfl) (alen_cons (alen_cons alen_nil)) (ma_cons (me_ix ix_seq o_ix (me_varW (pv 8)) (weak me_int) (fun _ _ => rfl)) (ma_cons (me_ix ix_seq o_ix (me_varW (pv 10)) (weak me_int) (fun _ _ => rfl)) ma_nil))) (ma_cons (me_call ((d__law_times T).mono (by decide)) hr tk (by rfl) (alen_cons (alen_cons alen_nil)) (ma_cons (me_ix ix_seq o_ix (me_varW (pv 8)) (weak me_int) (fun _ _ => rfl)) (ma_cons (me_ix ix_seq o_ix (me_varW (pv 10)) (weak me_int) (fun _ _ => rfl)) ma_nil))) ma_nil)))))) mss_nil)
  (mss_one (ms_ret (me_new (mf_lst (ma_cons (me_var (pv 2)) (ma_cons (me_var (pv 5)) (ma_cons (me_var (pv 7)) (ma_cons (me_var (pv 8)) (ma_cons (me_var (pv 9)) (ma_cons (me_var (pv 10)) ma_nil)))))))))))))))))))))
theorem d__law_things (T : Fx K mg) : Def P w K mg base 6 "_law_things" 2 [] m__law_things := by
  obtain ⟨fd, F⟩ := T.f__law_things
  exact Def.mk' (ps := ["_law_deck_here", "_law_kind"]) (N := N__law_things) (k := 5) F T.g__law_things sc__law_things b__law_things ⟨[], [], .nil, F.bindsN (fun _ _ _ _ _ _ us hl => match us, hl with | [_, _], _ => rfl), fun _ _ => .nil⟩ (fun cdv A outer s H E hr => w__law_things T fd cdv A outer s H E hr)
abbrev N__law_spoil : List Str := ["_law_deck_here", "_law_part", "_law_thing", "_law_some", "_law_nine", "_law_most", "_law_k"]
theorem sc__law_spoil : FnScope N__law_spoil ["_law_deck_here", "_law_part", "_law_thing"] (defScope (top 59)) := ⟨rfl, rfl, rfl, by decide +kernel, rfl, by decide +kernel, by decide +kernel⟩
theorem w__law_spoil (T : Fx K mg) (fd : FuncData) (cdv : Value) (A : Around) (outer : List Env) (s : Shared) (H : Hp) (E : XK) (hr : Room 4 (A.deeper (envOfC "_law_spoil" (defScope (top 59)) s.heap.objs.size (He.ga K "_law_spoil") cdv))) :
    PSs (cxOf (L2.CX P w) P w K mg base N__law_spoil "_law_spoil" (defScope (top 59)) (He.ga K "_law_spoil") cdv A outer s H E) (defBody (top 59)) (tS K (fun cls d _ H => E cls d H) b__law_spoil) := by
  have tk := tk_cx (P := P) (w := w) (K := K) (mg := mg) (base := base) (N := N__law_spoil) (qual := "_law_spoil") (scope := defScope (top 59)) (f := He.ga K "_law_spoil") (cd := cdv) (A := A) (outer := outer) (s := s) (H := H) (E := E)
  exact (mss_cons (ms_if (mt_cmp2 (op_eqD hr.units) o_eq (me_varW (pv 1)) (weak me_int) (nomark _)) (mss_one (ms_set (ps_set (i := 3) sc__law_spoil.nd rfl (Or.inl rfl) (me_new (mf_lst (ma_cons me_str (ma_cons me_str (ma_cons me_str (ma_cons (me_callS ((d__law_name T).mono (by decide)) hr tk (by rfl) (alen_cons (alen_cons alen_nil)) (ma_cons (me_var (pv 0)) (ma_cons me_int ma_nil))) (ma_cons (me_callS ((d__law_name T).mono (by decide)) hr tk (by rfl) (alen_cons (alen_cons alen_nil)) (ma_cons (me_var (pv 0)) (ma_cons me_int ma_nil))) (ma_cons me_non (ma_cons me_int (ma_cons (me_op2 op_add4 o_add (weak (me_callS ((d__law_name T).mono (by decide)) hr tk (by rfl) (alen_cons (alen_cons alen_nil)) (ma_cons (me_var (pv 0)) (ma_cons me_int ma_nil)))) (weak me_str)) ma_nil))))))))))))) (mss_one (ms_if (mt_cmp2 (op_eqD hr.units) o_eq (me_varW (pv 1)) (weak me_int) (nomark _)) (mss_cons (ms_lc (by decide) (ps_setLc (i := 4) (own := [("_law_k", 6)]) rfl sc__law_spoil.nd rfl rfl (sw_true rfl rfl rfl (by decide +kernel)) (toO (mi_range1 (by rfl) T.z_range (maw_cons (weak me_int) maw_nil))) (blkOk_by (N := N__law_spoil) (sc := defScope (top 59)) (by decide +kernel)) (fun _ _ _ _ _ => (mg_name (pg_name (i := 6) sc__law_spoil.nd rfl (Or.inl rfl)))) (fun _ _ _ _ _ => mts_nil) (fun _ _ _ _ _ => (me_tup (ma_cons (me_var (pv 6)) (ma_cons (me_op2 op_mulW o_mul (me_varW (pv 6)) (me_varW (pv 6))) ma_nil))))))
  (mss_one (ms_set (ps_set (i := 3) sc__law_spoil.nd rfl (Or.inl rfl) (me_new (mf_lst (ma_cons (me_cutA (me_varW (pv 2)) mo_none (mo_some me_int)) (ma_cons (me_new (mf_lst ma_nil)) (ma_cons (me_cutA (me_varW (pv 2)) mo_none (mo_some me_int)) (ma_cons (me_new (mf_rev (me_varW (pv 2)))) (ma_cons (me_var (pv 4)) (ma_cons (me_cutA (me_varW (pv 4)) mo_none (mo_some me_int)) (ma_cons (me_new (mf_rev (me_varW (pv 4)))) (ma_cons (me_op2 op_add4 o_add (weak (me_cutA (me_varW (pv 2)) (mo_some me_int) mo_none)) (weak (me_cutA (me_varW (pv 2)) (mo_some me_int) (mo_some me_int)))) ma_nil)))))))))))))) (mss_one (ms_if (mt_cmp2 (op_eqD hr.units) o_eq (me_varW (pv 1)) (weak me_int) (nomark _)) (mss_one (ms_set (ps_set (i := 3) sc__law_spoil.nd rfl (Or.inl rfl) (me_new (mf_lst (ma_cons me_int (ma_cons me_int (ma_cons me_int (ma_cons (me_un un_neg o_neg (weak me_int)) (ma_cons me_bl (ma_cons me_bl (ma_cons me_non (ma_cons me_int (ma_cons me_int (ma_cons me_str (ma_cons (me_tup (ma_cons me_int (ma_cons me_int ma_nil))) ma_nil)))))))))))))))) (mss_one (ms_if (mt_cmp2 (op_eqD hr.units) o_eq (me_varW (pv 1)) (weak me_int) (nomark _)) (mss_one (ms_set (ps_set (i := 3) sc__law_spoil.nd rfl (Or.inl rfl) (me_new (mf_lst (ma_cons me_non (ma_cons me_non (ma_cons me_non (ma_cons (me_tup (ma_cons me_int (ma_cons me_int ma_nil))) (ma_cons (me_tup (ma_cons me_int (ma_cons me_int ma_nil))) (ma_cons (me_tup (ma_cons me_int (ma_cons me_int ma_nil))) (ma_cons (me_tup (ma_cons me_int (ma_cons me_int ma_nil))) (ma_cons (me_new (mf_lst (ma_cons me_int (ma_cons me_int ma_nil)))) (ma_cons (me_tup (ma_cons me_int ma_nil)) (ma_cons (me_tup (ma_cons me_bl (ma_cons me_int ma_nil))) ma_nil))))))))))))))) (mss_cons (ms_set (ps_set (i := 3) sc__law_spoil.nd rfl (Or.inl rfl) (me_new (mf_lst (ma_cons me_non (ma_cons (me_tup (ma_cons (me_tup (ma_cons me_int (ma_cons me_int ma_nil))) ma_nil)) (ma_cons (me_new (mf_lst (ma_cons (me_ix ix_seq o_ix (me_varW (pv 2)) (weak me_int) (fun _ _ => rfl)) (ma_cons (me_ix ix_seq o_ix (me_varW (pv 2)) (weak me_int) (fun _ _ => rfl)) ma_nil)))) (ma_cons (me_tup (ma_cons (me_tup (ma_cons me_int (ma_cons me_int ma_nil))) (ma_cons (me_tup (ma_cons me_int (ma_cons me_int ma_nil))) ma_nil))) (ma_cons (me_tup (ma_cons (me_tup (ma_cons me_int (ma_cons me_int ma_nil))) (ma_cons (me_tup (ma_cons me_int (ma_cons me_int ma_nil))) ma_nil))) (ma_cons (me_tup (ma_cons (me_tup (ma_cons me_int (ma_cons me_int ma_nil))) (ma_cons (me_tup (ma_cons me_int (ma_cons me_int ma_nil))) ma_nil))) ma_nil))))))))))
  (mss_cons (ms_set (ps_set (i := 3) sc__law_spoil.nd rfl (Or.inl rfl) (me_op2 op_add4 o_add (me_varW (pv 3)) (weak (me_new (mf_lst (ma_cons (me_tup (ma_cons (me_ix ix_seq o_ix (me_varW (pv 2)) (weak me_int) (fun _ _ => rfl)) (ma_cons (me_tup (ma_cons me_int (ma_cons me_int ma_nil))) ma_nil))) (ma_cons (me_tup (ma_cons (me_tup (ma_cons me_int (ma_cons me_int ma_nil))) (ma_cons (me_ix ix_seq o_ix (me_varW (pv 2)) (weak me_int) (fun _ _ => rfl)) ma_nil))) (ma_cons (me_tup (ma_cons (me_tup (ma_cons me_int (ma_cons me_int ma_nil))) (ma_cons (me_tup (ma_cons me_int (ma_cons me_bl ma_nil))) ma_nil))) (ma_cons me_str ma_nil))))))))))
  (mss_cons (ms_set (ps_set (i := 5) sc__law_spoil.nd rfl (Or.inl rfl) (me_op2 op_powB o_powB (weak (me_op2 op_pow o_pow (weak me_int) (weak me_int))) (weak me_int))))
  (mss_one (ms_set (ps_set (i := 3) sc__law_spoil.nd rfl (Or.inl rfl) (me_op2 op_add4 o_add (me_varW (pv 3)) (weak (me_new (mf_lst (ma_cons (me_tup (ma_cons (me_tup (ma_cons (me_var (pv 5)) (ma_cons me_int ma_nil))) (ma_cons (me_tup (ma_cons me_int (ma_cons me_int ma_nil))) ma_nil))) (ma_cons (me_tup (ma_cons (me_tup (ma_cons me_int (ma_cons me_int ma_nil))) (ma_cons (me_tup (ma_cons me_int (ma_cons (me_var (pv 5)) ma_nil))) ma_nil))) (ma_cons (me_tup (ma_cons (me_tup (ma_cons (me_op2 op_sub o_sub (weak me_int) (me_varW (pv 5))) (ma_cons me_int ma_nil))) (ma_cons (me_tup (ma_cons me_int (ma_cons me_int ma_nil))) ma_nil))) (ma_cons (me_tup (ma_cons (me_tup (ma_cons me_int (ma_cons me_int ma_nil))) (ma_cons (me_tup (ma_cons (me_un un_neg o_neg (weak me_int)) (ma_cons (me_op2 op_sub o_sub (me_varW (pv 5)) (weak me_int)) ma_nil))) ma_nil))) ma_nil)))))))))))))))))))))
  (mss_one (ms_ret (me_ix ix_seq o_ix (me_varW (pv 3)) (weak (me_callS ((d__law_take T).mono (by decide)) hr tk (by rfl) (alen_cons (alen_cons alen_nil)) (ma_cons (me_var (pv 0)) (ma_cons (me_callB call_len3 c_len (by rfl) T.z_len (by decide +kernel) (maw_cons (me_varW (pv 3)) maw_nil)) ma_nil)))) (fun _ _ => rfl)))))
theorem d__law_spoil (T : Fx K mg) : Def P w K mg base 5 "_law_spoil" 3 [] m__law_spoil := by
  obtain ⟨fd, F⟩ := T.f__law_spoil
  exact Def.mk' (ps := ["_law_deck_here", "_law_part", "_law_thing"]) (N := N__law_spoil) (k := 4) F T.g__law_spoil sc__law_spoil b__law_spoil ⟨[], [], .nil, F.bindsN (fun _ _ _ _ _ _ us hl => match us, hl with | [_, _, _], _ => rfl), fun _ _ => .nil⟩ (fun cdv A outer s H E hr => w__law_spoil T fd cdv A outer s H E hr)
abbrev N__law_free_made : List Str := ["_law_things_here", "_law_left_out", "_law_turned"]
theorem sc__law_free_made : FnScope N__law_free_made ["_law_things_here", "_law_left_out", "_law_turned"] (defScope (top 60)) := ⟨rfl, rfl, rfl, by decide +kernel, rfl, by decide +kernel, by decide +kernel⟩
theorem w__law_free_made (T : Fx K mg) (fd : FuncData) (cdv : Value) (A : Around) (outer : List Env) (s : Shared) (H : Hp) (E : XK) (hr : Room 7 (A.deeper (envOfC "_law_free_made" (defScope (top 60)) s.heap.objs.size (He.ga K "_law_free_made") cdv))) :
    PSs (cxOf (L2.CX P w) P w K mg base N__law_free_made "_law_free_made" (defScope (top 60)) (He.ga K "_law_free_made") cdv A outer s H E) (defBody (top 60)) (tS K (fun cls d _ H => E cls d H) b__law_free_made) := by
  have tk := tk_cx (P := P) (w := w) (K := K) (mg := mg) (base := base) (N := N__law_free_made) (qual := "_law_free_made") (scope := defScope (top 60)) (f := He.ga K "_law_free_made") (cd := cdv) (A := A) (outer := outer) (s := s) (H := H) (E := E)
  exact (mss_cons (ms_if (mt_cmp2 (op_eqD hr.units) o_eq (me_varW (pv 1)) (weak (me_new (mf_lst (ma_cons me_bl (ma_cons me_bl (ma_cons me_bl ma_nil)))))) (nomark _)) (mss_one (ms_ret (me_call ((d_free_2 T).mono (by decide)) hr tk (by rfl) (alen_cons (alen_cons alen_nil)) (ma_cons (me_ix ix_seq o_ix (me_varW (pv 0)) (weak me_int) (fun _ _ => rfl)) (ma_cons (me_ix ix_seq o_ix (me_varW (pv 0)) (weak me_int) (fun _ _ => rfl)) ma_nil))))) mss_nil)
  (mss_cons (ms_if (mt_cmp2 (op_eqD hr.units) o_eq (me_varW (pv 1)) (weak (me_new (mf_lst (ma_cons me_bl (ma_cons me_bl (ma_cons me_bl ma_nil)))))) (nomark _)) (mss_one (ms_ret (me_callQ2 (dq_free_mass T) (hr.mono (by decide)) tk (by rfl) (alen_cons (alen_cons alen_nil)) (alen_cons alen_nil) (ma_cons (me_ix ix_seq o_ix (me_varW (pv 0)) (weak me_int) (fun _ _ => rfl)) (ma_cons (me_ix ix_seq o_ix (me_varW (pv 0)) (weak me_int) (fun _ _ => rfl)) ma_nil)) (mk_cons (me_ix ix_seq o_ix (me_varW (pv 0)) (weak me_int) (fun _ _ => rfl)) mk_nil) (fun es h => match es, h with | [_], _ => rfl)))) mss_nil)
  (mss_cons (ms_if (mt_cmp2 (op_eqD hr.units) o_eq (me_varW (pv 1)) (weak (me_new (mf_lst (ma_cons me_bl (ma_cons me_bl (ma_cons me_bl ma_nil)))))) (nomark _)) (mss_one (ms_ret (me_callQ2 (dq_free_at T) (hr.mono (by decide)) tk (by rfl) (alen_cons (alen_cons alen_nil)) (alen_cons alen_nil) (ma_cons (me_ix ix_seq o_ix (me_varW (pv 0)) (weak me_int) (fun _ _ => rfl)) (ma_cons (me_ix ix_seq o_ix (me_varW (pv 0)) (weak me_int) (fun _ _ => rfl)) ma_nil)) (mk_cons (me_ix ix_seq o_ix (me_varW (pv 0)) (weak me_int) (fun _ _ => rfl)) mk_nil) (fun es h => match es, h with | [_], _ => rfl)))) mss_nil)
  (mss_cons (ms_if (mt_cmp2 (op_eqD hr.units) o_eq (me_varW (pv 1)) (weak (me_new (mf_lst (ma_cons me_bl (ma_cons me_bl (ma_cons me_bl ma_nil)))))) (nomark _)) (mss_one (ms_ret (me_callQ2 (dq_free_speed T) (hr.mono (by decide)) tk (by rfl) (alen_cons (alen_cons alen_nil)) (alen_cons alen_nil) (ma_cons (me_ix ix_seq o_ix (me_varW (pv 0)) (weak me_int) (fun _ _ => rfl)) (ma_cons (me_ix ix_seq o_ix (me_varW (pv 0)) (weak me_int) (fun _ _ => rfl)) ma_nil)) (mk_cons (me_ix ix_seq o_ix (me_varW (pv 0)) (weak me_int) (fun _ _ => rfl)) mk_nil) (fun es h => match es, h with | [_], _ => rfl)))) mss_nil)
  (mss_cons (ms_if (mt_cmp2 (op_eqD hr.units) o_eq (me_varW (pv 1)) (weak (me_new (mf_lst (ma_cons me_bl (ma_cons me_bl (ma_cons me_bl ma_nil)))))) (nomark _)) (mss_one (ms_ret (me_callQ2 (dq_free_at_mass T) (hr.mono (by decide)) tk (by rfl) (alen_cons (alen_cons alen_nil)) (alen_cons (alen_cons alen_nil)) (ma_cons (me_ix ix_seq o_ix (me_varW (pv 0)) (weak me_int) (fun _ _ => rfl)) (ma_cons (me_ix ix_seq o_ix (me_varW (pv 0)) (weak me_int) (fun _ _ => rfl)) ma_nil)) (mk_cons (me_ix ix_seq o_ix (me_varW (pv 0)) (weak me_int) (fun _ _ => rfl)) (mk_cons (me_ix ix_seq o_ix (me_varW (pv 0)) (weak me_int) (fun _ _ => rfl)) mk_nil)) (fun es h => match es, h with | [_, _], _ => rfl)))) mss_nil)
  (mss_cons (ms_if (mt_cmp2 (op_eqD hr.units) o_eq (me_varW (pv 1)) (weak (me_new (mf_lst (ma_cons me_bl (ma_cons me_bl (ma_cons me_bl ma_nil)))))) (nomark _)) (mss_one (ms_ret (me_callQ2 (dq_free_speed_at T) (hr.mono (by decide)) tk (by rfl) (alen_cons (alen_cons alen_nil)) (alen_cons (alen_cons alen_nil)) (ma_cons (me_ix ix_seq o_ix (me_varW (pv 0)) (weak me_int) (fun _ _ => rfl)) (ma_cons (me_ix ix_seq o_ix (me_varW (pv 0)) (weak me_int) (fun _ _ => rfl)) ma_nil)) (mk_cons (me_ix ix_seq o_ix (me_varW (pv 0)) (weak me_int) (fun _ _ => rfl)) (mk_cons (me_ix ix_seq o_ix (me_varW (pv 0)) (weak me_int) (fun _ _ => rfl)) mk_nil)) (fun es h => match es, h with | [_, _], _ => rfl)))) mss_nil)
  (mss_cons (ms_if (mt_cmp2 (op_eqD hr.units) o_eq (me_varW (pv 1)) (weak (me_new (mf_lst (ma_cons me_bl (ma_cons me_bl (ma_cons me_bl ma_nil)))))) (nomark _)) (mss_one (ms_ret (me_callQ2 (dq_free_speed_mass T) (hr.mono (by decide)) tk (by rfl) (alen_cons (alen_cons alen_nil)) (alen_cons (alen_cons alen_nil)) (ma_cons (me_ix ix_seq o_ix (me_varW (pv 0)) (weak me_int) (fun _ _ => rfl)) (ma_cons (me_ix ix_seq o_ix (me_varW (pv 0)) (weak me_int) (fun _ _ => rfl)) ma_nil)) (mk_cons (me_ix ix_seq o_ix (me_varW (pv 0)) (weak me_int) (fun _ _ => rfl)) (mk_cons (me_ix ix_seq o_ix (me_varW (pv 0)) (weak me_int) (fun _ _ => rfl)) mk_nil)) (fun es h => match es, h with | [_, _], _ => rfl)))) mss_nil)
  (mss_cons (ms_if (mt_truth (me_varW (pv 2))) (mss_one (ms_ret (me_callQ2 (dq_free_speed_at_mass T) (hr.mono (by decide)) tk (by rfl) (alen_cons (alen_cons alen_nil)) (alen_cons (alen_cons (alen_cons alen_nil))) (ma_cons (me_ix ix_seq o_ix (me_varW (pv 0)) (weak me_int) (fun _ _ => rfl)) (ma_cons (me_ix ix_seq o_ix (me_varW (pv 0)) (weak me_int) (fun _ _ => rfl)) ma_nil)) (mk_cons (me_ix ix_seq o_ix (me_varW (pv 0)) (weak me_int) (fun _ _ => rfl)) (mk_cons (me_ix ix_seq o_ix (me_varW (pv 0)) (weak me_int) (fun _ _ => rfl)) (mk_cons (me_ix ix_seq o_ix (me_varW (pv 0)) (weak me_int) (fun _ _ => rfl)) mk_nil))) (fun es h => match es, h with | [_, _, _], _ => rfl)))) mss_nil)
  (mss_one (ms_ret (me_callQ2 (dq_free_mass_at_speed T) (hr.mono (by decide)) tk (by rfl) (alen_cons (alen_cons alen_nil)) (alen_cons (alen_cons (alen_cons alen_nil))) (ma_cons (me_ix ix_seq o_ix (me_varW (pv 0)) (weak me_int) (fun _ _ => rfl)) (ma_cons (me_ix ix_seq o_ix (me_varW (pv 0)) (weak me_int) (fun _ _ => rfl)) ma_nil)) (mk_cons (me_ix ix_seq o_ix (me_varW (pv 0)) (weak me_int) (fun _ _ => rfl)) (mk_cons (me_ix ix_seq o_ix (me_varW (pv 0)) (weak me_int) (fun _ _ => rfl)) (mk_cons (me_ix ix_seq o_ix (me_varW (pv 0)) (weak me_int) (fun _ _ => rfl)) mk_nil))) (fun es h => match es, h with | [_, _, _], _ => rfl))))))))))))
theorem d__law_free_made (T : Fx K mg) : Def P w K mg base 8 "_law_free_made" 3 [] m__law_free_made := by
  obtain ⟨fd, F⟩ := T.f__law_free_made
  exact Def.mk' (ps := ["_law_things_here", "_law_left_out", "_law_turned"]) (N := N__law_free_made) (k := 7) F T.g__law_free_made sc__law_free_made b__law_free_made ⟨[], [], .nil, F.bindsN (fun _ _ _ _ _ _ us hl => match us, hl with | [_, _, _], _ => rfl), fun _ _ => .nil⟩ (fun cdv A outer s H E hr => w__law_free_made T fd cdv A outer s H E hr)
abbrev N__law_railed_made : List Str := ["_law_things_here", "_law_left_out", "_law_turned"]
theorem sc__law_railed_made : FnScope N__law_railed_made ["_law_things_here", "_law_left_out", "_law_turned"] (defScope (top 61)) := ⟨rfl, rfl, rfl, by decide +kernel, rfl, by decide +kernel, by decide +kernel⟩
theorem w__law_railed_made (T : Fx K mg) (fd : FuncData) (cdv : Value) (A : Around) (outer : List Env) (s : Shared) (H : Hp) (E : XK) (hr : Room 7 (A.deeper (envOfC "_law_railed_made" (defScope (top 61)) s.heap.objs.size (He.ga K "_law_railed_made") cdv))) :
    PSs (cxOf (L2.CX P w) P w K mg base N__law_railed_made "_law_railed_made" (defScope (top 61)) (He.ga K "_law_railed_made") cdv A outer s H E) (defBody (top 61)) (tS K (fun cls d _ H => E cls d H) b__law_railed_made) := by
  have tk := tk_cx (P := P) (w := w) (K := K) (mg := mg) (base := base) (N := N__law_railed_made) (qual := "_law_railed_made") (scope := defScope (top 61)) (f := He.ga K "_law_railed_made") (cd := cdv) (A := A) (outer := outer) (s := s) (H := H) (E := E)
  exact (mss_cons (ms_if (mt_cmp2 (op_eqD hr.units) o_eq (me_varW (pv 1)) (weak (me_new (mf_lst (ma_cons me_bl (ma_cons me_bl (ma_cons me_bl ma_nil)))))) (nomark _)) (mss_one (ms_ret (me_callQ2 (dq_railed_rail T) (hr.mono (by decide)) tk (by rfl) (alen_cons (alen_cons alen_nil)) (alen_cons alen_nil) (ma_cons (me_ix ix_seq o_ix (me_varW (pv 0)) (weak me_int) (fun _ _ => rfl)) (ma_cons (me_ix ix_seq o_ix (me_varW (pv 0)) (weak me_int) (fun _ _ => rfl)) ma_nil)) (mk_cons (me_ix ix_seq o_ix (me_varW (pv 0)) (weak me_int) (fun _ _ => rfl)) mk_nil) (fun es h => match es, h with | [_], _ => rfl)))) mss_nil)
  (mss_cons (ms_if (mt_cmp2 (op_eqD hr.units) o_eq (me_varW (pv 1)) (weak (me_new (mf_lst (ma_cons me_bl (ma_cons me_bl (ma_cons me_bl ma_nil)))))) (nomark _)) (mss_one (ms_ret (me_callQ2 (dq_railed_mass_rail T) (hr.mono (by decide)) tk (by rfl) (alen_cons (alen_cons alen_nil)) (alen_cons (alen_cons alen_nil)) (ma_cons (me_ix ix_seq o_ix (me_varW (pv 0)) (weak me_int) (fun _ _ => rfl)) (ma_cons (me_ix ix_seq o_ix (me_varW (pv 0)) (weak me_int) (fun _ _ => rfl)) ma_nil)) (mk_cons (me_ix ix_seq o_ix (me_varW (pv 0)) (weak me_int) (fun _ _ => rfl)) (mk_cons (me_ix ix_seq o_ix (me_varW (pv 0)) (weak me_int) (fun _ _ => rfl)) mk_nil)) (fun es h => match es, h with | [_, _], _ => rfl)))) mss_nil)
  (mss_cons (ms_if (mt_cmp2 (op_eqD hr.units) o_eq (me_varW (pv 1)) (weak (me_new (mf_lst (ma_cons me_bl (ma_cons me_bl (ma_cons me_bl ma_nil)))))) (nomark _)) (mss_one (ms_ret (me_callQ2 (dq_railed_rail_at T) (hr.mono (by decide)) tk (by rfl) (alen_cons (alen_cons alen_nil)) (alen_cons (alen_cons alen_nil)) (ma_cons (me_ix ix_seq o_ix (me_varW (pv 0)) (weak me_int) (fun _ _ => rfl)) (ma_cons (me_ix ix_seq o_ix (me_varW (pv 0)) (weak me_int) (fun _ _ => rfl)) ma_nil)) (mk_cons (me_ix ix_seq o_ix (me_varW (pv 0)) (weak me_int) (fun _ _ => rfl)) (mk_cons (me_ix ix_seq o_ix (me_varW (pv 0)) (weak me_int) (fun _ _ => rfl)) mk_nil)) (fun es h => match es, h with | [_, _], _ => rfl)))) mss_nil)
  (mss_cons (ms_if (mt_cmp2 (op_eqD hr.units) o_eq (me_varW (pv 1)) (weak (me_new (mf_lst (ma_cons me_bl (ma_cons me_bl (ma_cons me_bl ma_nil)))))) (nomark _)) (mss_one (ms_ret (me_callQ2 (dq_railed_speed_rail T) (hr.mono (by decide)) tk (by rfl) (alen_cons (alen_cons alen_nil)) (alen_cons (alen_cons alen_nil)) (ma_cons (me_ix ix_seq o_ix (me_varW (pv 0)) (weak me_int) (fun _ _ => rfl)) (ma_cons (me_ix ix_seq o_ix (me_varW (pv 0)) (weak me_int) (fun _ _ => rfl)) ma_nil)) (mk_cons (me_ix ix_seq o_ix (me_varW (pv 0)) (weak me_int) (fun _ _ => rfl)) (mk_cons (me_ix ix_seq o_ix (me_varW (pv 0)) (weak me_int) (fun _ _ => rfl)) mk_nil)) (fun es h => match es, h with | [_, _], _ => rfl)))) mss_nil)
  (mss_cons (ms_if (mt_cmp2 (op_eqD hr.units) o_eq (me_varW (pv 1)) (weak (me_new (mf_lst (ma_cons me_bl (ma_cons me_bl (ma_cons me_bl ma_nil)))))) (nomark _)) (mss_one (ms_ret (me_callQ2 (dq_railed_at_rail_mass T) (hr.mono (by decide)) tk (by rfl) (alen_cons (alen_cons alen_nil)) (alen_cons (alen_cons (alen_cons alen_nil))) (ma_cons (me_ix ix_seq o_ix (me_varW (pv 0)) (weak me_int) (fun _ _ => rfl)) (ma_cons (me_ix ix_seq o_ix (me_varW (pv 0)) (weak me_int) (fun _ _ => rfl)) ma_nil)) (mk_cons (me_ix ix_seq o_ix (me_varW (pv 0)) (weak me_int) (fun _ _ => rfl)) (mk_cons (me_ix ix_seq o_ix (me_varW (pv 0)) (weak me_int) (fun _ _ => rfl)) (mk_cons (me_ix ix_seq o_ix (me_varW (pv 0)) (weak me_int) (fun _ _ => rfl)) mk_nil))) (fun es h => match es, h with | [_, _, _], _ => rfl)))) mss_nil)
  (mss_cons (ms_if (mt_cmp2 (op_eqD hr.units) o_eq (me_varW (pv 1)) (weak (me_new (mf_lst (ma_cons me_bl (ma_cons me_bl (ma_cons me_bl ma_nil)))))) (nomark _)) (mss_one (ms_ret (me_callQ2 (dq_railed_speed_at_rail T) (hr.mono (by decide)) tk (by rfl) (alen_cons (alen_cons alen_nil)) (alen_cons (alen_cons (alen_cons alen_nil))) (ma_cons (me_ix ix_seq o_ix (me_varW (pv 0)) (weak me_int) (fun _ _ => rfl)) (ma_cons (me_ix ix_seq o_ix (me_varW (pv 0)) (weak me_int) (fun _ _ => rfl)) ma_nil)) (mk_cons (me_ix ix_seq o_ix (me_varW (pv 0)) (weak me_int) (fun _ _ => rfl)) (mk_cons (me_ix ix_seq o_ix (me_varW (pv 0)) (weak me_int) (fun _ _ => rfl)) (mk_cons (me_ix ix_seq o_ix (me_varW (pv 0)) (weak me_int) (fun _ _ => rfl)) mk_nil))) (fun es h => match es, h with | [_, _, _], _ => rfl)))) mss_nil)
  (mss_cons (ms_if (mt_cmp2 (op_eqD hr.units) o_eq (me_varW (pv 1)) (weak (me_new (mf_lst (ma_cons me_bl (ma_cons me_bl (ma_cons me_bl ma_nil)))))) (nomark _)) (mss_one (ms_ret (me_callQ2 (dq_railed_rail_speed_mass T) (hr.mono (by decide)) tk (by rfl) (alen_cons (alen_cons alen_nil)) (alen_cons (alen_cons (alen_cons alen_nil))) (ma_cons (me_ix ix_seq o_ix (me_varW (pv 0)) (weak me_int) (fun _ _ => rfl)) (ma_cons (me_ix ix_seq o_ix (me_varW (pv 0)) (weak me_int) (fun _ _ => rfl)) ma_nil)) (mk_cons (me_ix ix_seq o_ix (me_varW (pv 0)) (weak me_int) (fun _ _ => rfl)) (mk_cons (me_ix ix_seq o_ix (me_varW (pv 0)) (weak me_int) (fun _ _ => rfl)) (mk_cons (me_ix ix_seq o_ix (me_varW (pv 0)) (weak me_int) (fun _ _ => rfl)) mk_nil))) (fun es h => match es, h with | [_, _, _], _ => rfl)))) mss_nil)
  (mss_cons (ms_if (mt_truth (me_varW (pv 2))) (mss_one (ms_ret (me_callQ2 (dq_railed_speed_at_mass_rail T) (hr.mono (by decide)) tk (by rfl) (alen_cons (alen_cons alen_nil)) (alen_cons (alen_cons (alen_cons (alen_cons alen_nil)))) (ma_cons (me_ix ix_seq o_ix (me_varW (pv 0)) (weak me_int) (fun _ _ => rfl)) (ma_cons (me_ix ix_seq o_ix (me_varW (pv 0)) (weak me_int) (fun _ _ => rfl)) ma_nil)) (mk_cons (me_ix ix_seq o_ix (me_varW (pv 0)) (weak me_int) (fun _ _ => rfl)) (mk_cons (me_ix ix_seq o_ix (me_varW (pv 0)) (weak me_int) (fun _ _ => rfl)) (mk_cons (me_ix ix_seq o_ix (me_varW (pv 0)) (weak me_int) (fun _ _ => rfl)) (mk_cons (me_ix ix_seq o_ix (me_varW (pv 0)) (weak me_int) (fun _ _ => rfl)) mk_nil)))) (fun es h => match es, h with | [_, _, _, _], _ => rfl)))) mss_nil)
  (mss_one (ms_ret (me_callQ2 (dq_railed_rail_mass_at_speed T) (hr.mono (by decide)) tk (by rfl) (alen_cons (alen_cons alen_nil)) (alen_cons (alen_cons (alen_cons (alen_cons alen_nil)))) (ma_cons (me_ix ix_seq o_ix (me_varW (pv 0)) (weak me_int) (fun _ _ => rfl)) (ma_cons (me_ix ix_seq o_ix (me_varW (pv 0)) (weak me_int) (fun _ _ => rfl)) ma_nil)) (mk_cons (me_ix ix_seq o_ix (me_varW (pv 0)) (weak me_int) (fun _ _ => rfl)) (mk_cons (me_ix ix_seq o_ix (me_varW (pv 0)) (weak me_int) (fun _ _ => rfl)) (mk_cons (me_ix ix_seq o_ix (me_varW (pv 0)) (weak me_int) (fun _ _ => rfl)) (mk_cons (me_ix ix_seq o_ix (me_varW (pv 0)) (weak me_int) (fun _ _ => rfl)) mk_nil)))) (fun es h => match es, h with | [_, _, _, _], _ => rfl))))))))))))
theorem d__law_railed_made (T : Fx K mg) : Def P w K mg base 8 "_law_railed_made" 3 [] m__law_railed_made := by
  obtain ⟨fd, F⟩ := T.f__law_railed_made
  exact Def.mk' (ps := ["_law_things_here", "_law_left_out", "_law_turned"]) (N := N__law_railed_made) (k := 7) F T.g__law_railed_made sc__law_railed_made b__law_railed_made ⟨[], [], .nil, F.bindsN (fun _ _ _ _ _ _ us hl => match us, hl with | [_, _, _], _ => rfl), fun _ _ => .nil⟩ (fun cdv A outer s H E hr => w__law_railed_made T fd cdv A outer s H E hr)
abbrev N__law_made : List Str := ["_law_kind", "_law_things_here", "_law_left_out", "_law_turned"]
theorem sc__law_made : FnScope N__law_made ["_law_kind", "_law_things_here", "_law_left_out", "_law_turned"] (defScope (top 62)) := ⟨rfl, rfl, rfl, by decide +kernel, rfl, by decide +kernel, by decide +kernel⟩
theorem w__law_made (T : Fx K mg) (fd : FuncData) (cdv : Value) (A : Around) (outer : List Env) (s : Shared) (H : Hp) (E : XK) (hr : Room 8 (A.deeper (envOfC "_law_made" (defScope (top 62)) s.heap.objs.size (He.ga K "_law_made") cdv))) :
    PSs (cxOf (L2.CX P w) P w K mg base N__law_made "_law_made" (defScope (top 62)) (He.ga K "_law_made") cdv A outer s H E) (defBody (top 62)) (tS K (fun cls d _ H => E cls d H) b__law_made) := by
  have tk := tk_cx (P := P) (w := w) (K := K) (mg := mg) (base := base) (N := N__law_made) (qual := "_law_made") (scope := defScope (top 62)) (f := He.ga K "_law_made") (cd := cdv) (A := A) (outer := outer) (s := s) (H := H) (E := E)
  exact (mss_cons (ms_if (mt_cmp2 (op_eqD hr.units) o_eq (me_varW (pv 0)) (weak me_int) (nomark _)) (mss_one (ms_ret (me_call ((d__law_free_made T).mono (by decide)) hr tk (by rfl) (alen_cons (alen_cons (alen_cons alen_nil))) (ma_cons (me_var (pv 1)) (ma_cons (me_var (pv 2)) (ma_cons (me_var (pv 3)) ma_nil)))))) mss_nil)
  (mss_cons (ms_if (mt_cmp2 (op_eqD hr.units) o_eq (me_varW (pv 0)) (weak me_int) (nomark _)) (mss_one (ms_ret (me_call ((d__law_railed_made T).mono (by decide)) hr tk (by rfl) (alen_cons (alen_cons (alen_cons alen_nil))) (ma_cons (me_var (pv 1)) (ma_cons (me_var (pv 2)) (ma_cons (me_var (pv 3)) ma_nil)))))) mss_nil)
  (mss_cons (ms_if (mt_truth (weak (me_ix ix_seq o_ix (me_varW (pv 2)) (weak me_int) (fun _ _ => rfl)))) (mss_one (ms_ret (me_call ((d_wall_2 T).mono (by decide)) hr tk (by rfl) (alen_cons (alen_cons alen_nil)) (ma_cons (me_ix ix_seq o_ix (me_varW (pv 1)) (weak me_int) (fun _ _ => rfl)) (ma_cons (me_ix ix_seq o_ix (me_varW (pv 1)) (weak me_int) (fun _ _ => rfl)) ma_nil))))) mss_nil)
  (mss_one (ms_ret (me_callQ2 (dq_wall_at T) (hr.mono (by decide)) tk (by rfl) (alen_cons (alen_cons alen_nil)) (alen_cons alen_nil) (ma_cons (me_ix ix_seq o_ix (me_varW (pv 1)) (weak me_int) (fun _ _ => rfl)) (ma_cons (me_ix ix_seq o_ix (me_varW (pv 1)) (weak me_int) (fun _ _ => rfl)) ma_nil)) (mk_cons (me_ix ix_seq o_ix (me_varW (pv 1)) (weak me_int) (fun _ _ => rfl)) mk_nil) (fun es h => match es, h with | [_], _ => rfl)))))))
theorem d__law_made (T : Fx K mg) : Def P w K mg base 9 "_law_made" 4 [] m__law_made := by
  obtain ⟨fd, F⟩ := T.f__law_made
  exact Def.mk' (ps := ["_law_kind", "_law_things_here", "_law_left_out", "_law_turned"]) (N := N__law_made) (k := 8) F T.g__law_made sc__law_made b__law_made ⟨[], [], .nil, F.bindsN (fun _ _ _ _ _ _ us hl => match us, hl with | [_, _, _, _], _ => rfl), fun _ _ => .nil⟩ (fun cdv A outer s H E hr => w__law_made T fd cdv A outer s H E hr)
abbrev N__law_alike : List Str := ["_law_found", "_law_due_here", "_law_one", "_law_other"]
theorem sc__law_alike : FnScope N__law_alike ["_law_found", "_law_due_here"] (defScope (top 63)) := ⟨rfl, rfl, rfl, by decide +kernel, rfl, by decide +kernel, by decide +kernel⟩
theorem w__law_alike (T : Fx K mg) (n : Nat) (mf : List D → Unit → Res Unit D) (hd : Def P w K mg base (1 + n + 1) "_law_alike" 2 [] mf) (cdv : Value) (A : Around) (outer : List Env) (s : Shared) (H : Hp) (E : XK) (hr : Room (1 + n + 1) (A.deeper (envOfC "_law_alike" (defScope (top 63)) s.heap.objs.size (He.ga K "_law_alike") cdv))) :
    PSs (cxOf (L2.CX P w) P w K mg base N__law_alike "_law_alike" (defScope (top 63)) (He.ga K "_law_alike") cdv A outer s H E) (defBody (top 63)) (tS K (fun cls d _ H => E cls d H) (b__law_alike mf)) := by
  have tk := tk_cx (P := P) (w := w) (K := K) (mg := mg) (base := base) (N := N__law_alike) (qual := "_law_alike") (scope := defScope (top 63)) (f := He.ga K "_law_alike") (cd := cdv) (A := A) (outer := outer) (s := s) (H := H) (E := E)
  exact (mss_cons (ms_if (mt_truth (weak (me_callB call_isi c_isi (by rfl) T.z_isinstance (by decide +kernel) (maw_cons (me_varW (pv 1)) (maw_cons (weak (me_type (by rfl) T.z_tuple (by decide +kernel))) maw_nil))))) (mss_cons (ms_if (PW.pt (mw_or (mt_not (mt_truth (weak (me_callB call_isi c_isi (by rfl) T.z_isinstance (by decide +kernel) (maw_cons (me_varW (pv 0)) (maw_cons (weak (me_type (by rfl) T.z_tuple (by decide +kernel))) maw_nil)))))) (mw_or1 (mt_cmp2 (op_neD hr.units) o_ne (weak (me_callB call_len3 c_len (by rfl) T.z_len (by decide +kernel) (maw_cons (me_varW (pv 0)) maw_nil))) (weak (me_callB call_len3 c_len (by rfl) T.z_len (by decide +kernel) (maw_cons (me_varW (pv 1)) maw_nil))) (nomark _))))) (mss_one (ms_ret me_bl)) mss_nil)
  (mss_one (ms_ret (me_callB (cr_all rfl) c_all (by rfl) T.z_all (by decide +kernel) (maw_cons (weak (me_new (mf_lc (own := [("_law_one", 2), ("_law_other", 3)]) (ws := [2, 3]) rfl sc__law_alike.nd (toO (mi_zip (by rfl) T.z_zip (ma_cons (me_var (pv 0)) (ma_cons (me_var (pv 1)) ma_nil)))) (blkOk_by (N := N__law_alike) (sc := defScope (top 63)) (by decide +kernel)) (by decide) (fun _ _ _ _ _ => (mg_tup rfl (glen_cons (glen_cons glen_nil)) (mgs_cons (mg_name (pg_name (i := 2) sc__law_alike.nd rfl (Or.inl rfl))) (mgs_cons (mg_name (pg_name (i := 3) sc__law_alike.nd rfl (Or.inl rfl))) mgs_nil)))) (fun _ _ _ _ _ => mts_nil) (fun _ _ _ _ _ => (me_call hd hr takes0 (by rfl) (alen_cons (alen_cons alen_nil)) (ma_cons (me_var (pv 2)) (ma_cons (me_var (pv 3)) ma_nil))))))) maw_nil))))) mss_nil)
  (mss_cons (ms_if (mt_cmp2 op_isN o_is (me_varW (pv 1)) (weak me_non) (nomark _)) (mss_one (ms_ret (me_cmp2 op_isN o_is (me_varW (pv 0)) (weak me_non) (nomark _)))) mss_nil)
  (mss_cons (ms_if (mt_truth (weak (me_callB call_isi c_isi (by rfl) T.z_isinstance (by decide +kernel) (maw_cons (me_varW (pv 1)) (maw_cons (weak (me_type (by rfl) T.z_int (by decide +kernel))) maw_nil))))) (mss_one (ms_ret (me_and (me_call ((d__law_whole T).mono (by omega)) hr tk (by rfl) (alen_cons alen_nil) (ma_cons (me_var (pv 0)) ma_nil)) (me_one (me_cmp2 (op_eqD hr.units) o_eq (me_varW (pv 0)) (me_varW (pv 1)) (nomark _)))))) mss_nil)
  (mss_one (ms_ret (me_and (me_callB call_isi c_isi (by rfl) T.z_isinstance (by decide +kernel) (maw_cons (me_varW (pv 0)) (maw_cons (weak (me_type (by rfl) T.z_str (by decide +kernel))) maw_nil))) (me_one (me_cmp2 (op_eqD hr.units) o_eq (me_varW (pv 0)) (me_varW (pv 1)) (nomark _)))))))))
theorem dr__law_alike (T : Fx K mg) : ∀ n, Def P w K mg base (1 + n + 1) "_law_alike" 2 [] (mr__law_alike n)
  | 0 => by
    obtain ⟨fd, F⟩ := T.f__law_alike
    exact Def.mk' (ps := ["_law_found", "_law_due_here"]) (N := N__law_alike) (k := 1) F T.g__law_alike sc__law_alike (fun _ _ => .bad) ⟨[], [], .nil, F.bindsN (fun _ _ _ _ _ _ us hl => match us, hl with | [_, _], _ => rfl), fun _ _ => .nil⟩ (fun cdv A outer s H E hr => pss_bad)
  | n + 1 => by
    have hd := dr__law_alike T n
    obtain ⟨fd, F⟩ := T.f__law_alike
    exact Def.mk' (ps := ["_law_found", "_law_due_here"]) (N := N__law_alike) (k := 1 + n + 1) F T.g__law_alike sc__law_alike (b__law_alike (mr__law_alike n)) ⟨[], [], .nil, F.bindsN (fun _ _ _ _ _ _ us hl => match us, hl with | [_, _], _ => rfl), fun _ _ => .nil⟩ (fun cdv A outer s H E hr => w__law_alike T n _ hd cdv A outer s H E hr)
theorem d__law_alike (T : Fx K mg) : Def P w K mg base 10 "_law_alike" 2 [] m__law_alike := dr__law_alike T 8
abbrev N__law_held : List Str := ["_law_kind", "_law_things_here", "_law_left_out", "_law_turned", "_law_meant", "_law_due_here", "_law_corners", "_law_found", "_law_told", "e"]
theorem sc__law_held : FnScope N__law_held ["_law_kind", "_law_things_here", "_law_left_out", "_law_turned"] (defScope (top 64)) := ⟨rfl, rfl, rfl, by decide +kernel, rfl, by decide +kernel, by decide +kernel⟩
theorem w__law_held (T : Fx K mg) (fd : FuncData) (cdv : Value) (A : Around) (outer : List Env) (s : Shared) (H : Hp) (E : XK) (hr : Room 10 (A.deeper (envOfC "_law_held" (defScope (top 64)) s.heap.objs.size (He.ga K "_law_held") cdv))) :
    PSs (cxOf (L2.CX P w) P w K mg base N__law_held "_law_held" (defScope (top 64)) (He.ga K "_law_held") cdv A outer s H E) (defBody (top 64)) (tS K (fun cls d _ H => E cls d H) b__law_held) := by
  have tk := tk_cx (P := P) (w := w) (K := K) (mg := mg) (base := base) (N := N__law_held) (qual := "_law_held") (scope := defScope (top 64)) (f := He.ga K "_law_held") (cd := cdv) (A := A) (outer := outer) (s := s) (H := H) (E := E)
  exact (mss_cons (ms_setOwn (ps_set (i := 4) sc__law_held.nd rfl (Or.inl rfl) (mf_list (by rfl) T.z_list (by decide +kernel) (maw_cons (me_varW (pv 1)) maw_nil))))
  (mss_cons (ms_if (mt_truth (weak (me_ix ix_seq o_ix (me_varW (pv 2)) (weak me_int) (fun _ _ => rfl)))) (mss_one (ms_setI (ps_asg me_int (pg_sub (pv 4) me_int set_list)))) mss_nil)
  (mss_cons (ms_if (mt_truth (weak (me_ix ix_seq o_ix (me_varW (pv 2)) (weak me_int) (fun _ _ => rfl)))) (mss_one (ms_setI (ps_asg (me_tup (ma_cons (me_tup (ma_cons me_int (ma_cons me_int ma_nil))) (ma_cons (me_tup (ma_cons me_int (ma_cons me_int ma_nil))) ma_nil))) (pg_sub (pv 4) me_int set_list)))) mss_nil)
  (mss_cons (ms_if (mt_truth (weak (me_ix ix_seq o_ix (me_varW (pv 2)) (weak me_int) (fun _ _ => rfl)))) (mss_one (ms_setI (ps_asg (me_tup (ma_cons (me_tup (ma_cons me_int (ma_cons me_int ma_nil))) (ma_cons (me_tup (ma_cons me_int (ma_cons me_int ma_nil))) ma_nil))) (pg_sub (pv 4) me_int set_list)))) mss_nil)
  (mss_frz (mss_cons (ms_set (ps_set (i := 5) sc__law_held.nd rfl (Or.inl rfl) (me_call ((d__law_wrong T).mono (by decide)) hr tk (by rfl) (alen_cons (alen_cons alen_nil)) (ma_cons (me_var (pv 0)) (ma_cons (me_var (pv 4)) ma_nil)))))
  (mss_cons (ms_set (ps_set (i := 6) sc__law_held.nd rfl (Or.inl rfl) (me_new (mf_list (by rfl) T.z_list (by decide +kernel) (maw_cons (weak (me_ix ix_seq o_ix (me_varW (pv 1)) (weak me_int) (fun _ _ => rfl))) maw_nil)))))
  (mss_cons (ms_set (ps_set (i := 7) sc__law_held.nd rfl (Or.inl rfl) me_non))
  (mss_cons (ms_set (ps_set (i := 8) sc__law_held.nd rfl (Or.inl rfl) me_non))
  (mss_cons (ms_tryW (i := 9) (l := [(8, (fun _ => (fxLim .lst (fxCons (fXf "part") (fxCons (fXb true) (fxCons (fXb true) (fun _ => some []))))))), (8, (fwAdd 8 (fxLim .lst (fxCons (fXb false) (fun _ => some [])))))]) rfl rfl sc__law_held.nd rfl (by rfl) ⟨by rfl, by decide, .inl T.g_BadRow⟩ tk T.m_BadRow_BadRow (fun W pn xe tk2 po2 => (mss_one (ms_set (ps_set (i := 7) sc__law_held.nd rfl (Or.inl rfl) (me_call ((d__law_made T).mono (by decide)) hr tk2 (by rfl) (alen_cons (alen_cons (alen_cons (alen_cons alen_nil)))) (ma_cons (me_var (pv 0)) (ma_cons (me_var (pv 1)) (ma_cons (me_var (pv 2)) (ma_cons (me_var (pv 3)) ma_nil))))))))) (.cons (by decide) (SuW.hx (hx_lst (hxs_cons (hx_f T.ox_BadRow (by simp) (fun _ _ _ => pv 9)) (hxs_cons (hx_is T.e_BadRow (fun _ _ => by rfl) T.z_isinstance (fun _ _ _ => pv 9) (fun _ _ _ => (pe_glob (v := .ref (He.ga K "BodyError")) (by rfl) T.g_BodyError rfl)) (fun _ h => h) T.k_BadRow_BodyError) (hxs_cons (hx_is T.e_BadRow (fun _ _ => by rfl) T.z_isinstance (fun _ _ _ => pv 9) (fun _ _ _ => (pe_bltn (v := .ty "ValueError") (by rfl) T.z_ValueError (by decide +kernel) rfl)) (fun _ h => h) T.k_BadRow_ValueError) hxs_nil)))) (fun a oe pn t h => ps_set (i := 8) sc__law_held.nd rfl (Or.inl rfl) h)) (.cons (by decide) (SuW.add (fun _ _ _ => pv 8) (hx_lst (hxs_cons (hx_is T.e_BadRow (fun _ _ => by rfl) T.z_isinstance (fun _ _ _ => pv 9) (fun _ _ _ => (pe_glob (v := .ref (He.ga K "BadShape")) (by rfl) T.g_BadShape rfl)) (fun _ h => h) T.k_BadRow_BadShape) hxs_nil)) (fun a oe pn t h => ps_set (i := 8) sc__law_held.nd rfl (Or.inl rfl) h)) .nil)))
  (mss_cons (ms_if (mt_cmp2 (op_neD hr.units) o_ne (weak (me_ix ix_seq o_ix (me_varW (pv 1)) (weak me_int) (fun _ _ => rfl))) (me_varW (pv 6)) (nomark _)) (mss_one (ms_ret me_bl)) mss_nil)
  (mss_cons (ms_if (mt_cmp2 (op_neD hr.units) o_ne (me_varW (pv 5)) (weak me_str) (nomark _)) (mss_one (ms_ret (me_and (me_cmp2 (op_eqD hr.units) o_eq (me_varW (pv 8)) (weak (me_new (mf_lst (ma_cons (me_var (pv 5)) (ma_cons me_bl (ma_cons me_bl (ma_cons me_bl ma_nil))))))) (nomark _)) (me_one (me_callB call_isi c_isi (by rfl) T.z_isinstance (by decide +kernel) (maw_cons (weak (me_ix ix_seq o_ix (me_varW (pv 8)) (weak me_int) (fun _ _ => rfl))) (maw_cons (weak (me_type (by rfl) T.z_str (by decide +kernel))) maw_nil))))))) mss_nil)
  (mss_one (ms_ret (me_and (me_cmp2 op_isN o_is (me_varW (pv 8)) (weak me_non) (nomark _)) (me_one (me_call ((d__law_alike T).mono (by decide)) hr tk (by rfl) (alen_cons (alen_cons alen_nil)) (ma_cons (me_var (pv 7)) (ma_cons (me_call ((d__law_due T).mono (by decide)) hr tk (by rfl) (alen_cons (alen_cons alen_nil)) (ma_cons (me_var (pv 0)) (ma_cons (me_var (pv 4)) ma_nil))) ma_nil)))))))))))))))))))
theorem d__law_held (T : Fx K mg) : Def P w K mg base 11 "_law_held" 4 [] m__law_held := by
  obtain ⟨fd, F⟩ := T.f__law_held
  exact Def.mk' (ps := ["_law_kind", "_law_things_here", "_law_left_out", "_law_turned"]) (N := N__law_held) (k := 10) F T.g__law_held sc__law_held b__law_held ⟨[], [], .nil, F.bindsN (fun _ _ _ _ _ _ us hl => match us, hl with | [_, _, _, _], _ => rfl), fun _ _ => .nil⟩ (fun cdv A outer s H E hr => w__law_held T fd cdv A outer s H E hr)
abbrev N_law : List Str := ["_law_script", "_law_deck_here", "_law_kind", "_law_spoils", "_law_parts", "_law_left_out", "_law_turned", "_law_good", "_law_things_here"]
theorem sc_law : FnScope N_law ["_law_script"] (defScope (top 65)) := ⟨rfl, rfl, rfl, by decide +kernel, rfl, by decide +kernel, by decide +kernel⟩
def law0 : Stmt := (defBody (top 65)).headD (.Pass ⟨0, 0, 0, 0⟩)
def lawr : List Stmt := (defBody (top 65)).tail
theorem law_body : defBody (top 65) = law0 :: lawr := by rfl
theorem w_law0 (T : Fx K mg) (cdv : Value) (A : Around) (outer : List Env) (s : Shared) (H : Hp) (E : XK) (hr : Room 11 (A.deeper (envOfC "law" (defScope (top 65)) s.heap.objs.size (He.ga K "law") cdv))) :
    PS (cxOf (L2.CX P w) P w K mg base N_law "law" (defScope (top 65)) (He.ga K "law") cdv A outer s H E) law0 (tAsg (tCallSD (spDk 1 K m__law_deck) [] (WE fun cls d _ H => E cls d H) (tCons (tVar 0) tNil)) (gName 1)) := by
  have tk := tk_cx (P := P) (w := w) (K := K) (mg := mg) (base := base) (N := N_law) (qual := "law") (scope := defScope (top 65)) (f := He.ga K "law") (cd := cdv) (A := A) (outer := outer) (s := s) (H := H) (E := E)
  exact (ps_set (i := 1) sc_law.nd rfl (Or.inl rfl) (pe_deck ((d__law_deck T).mono (by decide)) hr tk (by rfl) (pa_cons (pv 0) pa_nil)))
theorem w_law (T : Fx K mg) (cdv : Value) (A : Around) (outer : List Env) (s : Shared) (H : Hp) (E : XK) (hr : Room 11 (A.deeper (envOfC "law" (defScope (top 65)) s.heap.objs.size (He.ga K "law") cdv))) :
    PSs (cxOf (L2.CX P w) P w K mg base N_law "law" (defScope (top 65)) (He.ga K "law") cdv A outer s H E) lawr (tS K (fun cls d _ H => E cls d H) b_law) := by
  have tk := tk_cx (P := P) (w := w) (K := K) (mg := mg) (base := base) (N := N_law) (qual := "law") (scope := defScope (top 65)) (f := He.ga K "law") (cd := cdv) (A := A) (outer := outer) (s := s) (H := H) (E := E)
  exact (mss_cons (ms_set (ps_set (i := 2) sc_law.nd rfl (Or.inl rfl) (me_callS ((d__law_take T).mono (by decide)) hr tk (by rfl) (alen_cons (alen_cons alen_nil)) (ma_cons (me_var (pv 1)) (ma_cons me_int ma_nil)))))
  (mss_cons (ms_set (ps_set (i := 3) sc_law.nd rfl (Or.inl rfl) (me_callS ((d__law_take T).mono (by decide)) hr tk (by rfl) (alen_cons (alen_cons alen_nil)) (ma_cons (me_var (pv 1)) (ma_cons me_int ma_nil)))))
  (mss_cons (ms_set (ps_set (i := 4) sc_law.nd rfl (Or.inl rfl) (me_new (mf_lst (ma_cons (me_callS ((d__law_take T).mono (by decide)) hr tk (by rfl) (alen_cons (alen_cons alen_nil)) (ma_cons (me_var (pv 1)) (ma_cons me_int ma_nil))) (ma_cons (me_callS ((d__law_take T).mono (by decide)) hr tk (by rfl) (alen_cons (alen_cons alen_nil)) (ma_cons (me_var (pv 1)) (ma_cons me_int ma_nil))) ma_nil))))))
  (mss_cons (ms_set (ps_set (i := 5) sc_law.nd rfl (Or.inl rfl) (me_new (mf_lst (ma_cons (me_cmp2 (op_eqD hr.units) o_eq (weak (me_callS ((d__law_take T).mono (by decide)) hr tk (by rfl) (alen_cons (alen_cons alen_nil)) (ma_cons (me_var (pv 1)) (ma_cons me_int ma_nil)))) (weak me_int) (nomark _)) (ma_cons (me_cmp2 (op_eqD hr.units) o_eq (weak (me_callS ((d__law_take T).mono (by decide)) hr tk (by rfl) (alen_cons (alen_cons alen_nil)) (ma_cons (me_var (pv 1)) (ma_cons me_int ma_nil)))) (weak me_int) (nomark _)) (ma_cons (me_cmp2 (op_eqD hr.units) o_eq (weak (me_callS ((d__law_take T).mono (by decide)) hr tk (by rfl) (alen_cons (alen_cons alen_nil)) (ma_cons (me_var (pv 1)) (ma_cons me_int ma_nil)))) (weak me_int) (nomark _)) ma_nil)))))))
  (mss_cons (ms_set (ps_set (i := 6) sc_law.nd rfl (Or.inl rfl) (me_cmp2 (op_eqD hr.units) o_eq (weak (me_callS ((d__law_take T).mono (by decide)) hr tk (by rfl) (alen_cons (alen_cons alen_nil)) (ma_cons (me_var (pv 1)) (ma_cons me_int ma_nil)))) (weak me_int) (nomark _))))
  (mss_cons (ms_set (ps_set (i := 7) sc_law.nd rfl (Or.inl rfl) (me_callS ((d__law_things T).mono (by decide)) hr tk (by rfl) (alen_cons (alen_cons alen_nil)) (ma_cons (me_var (pv 1)) (ma_cons (me_var (pv 2)) ma_nil)))))
  (mss_cons (ms_setOwn (ps_set (i := 8) sc_law.nd rfl (Or.inl rfl) (mf_list (by rfl) T.z_list (by decide +kernel) (maw_cons (me_varW (pv 7)) maw_nil))))
  (mss_cons (ms_if (mt_cmp2 op_gt o_gt (me_varW (pv 3)) (weak me_int) (nomark _)) (mss_one (ms_setI (ps_asg (me_callS ((d__law_spoil T).mono (by decide)) hr tk (by rfl) (alen_cons (alen_cons (alen_cons alen_nil))) (ma_cons (me_var (pv 1)) (ma_cons (me_ix ix_seq o_ix (me_varW (pv 4)) (weak me_int) (fun _ _ => rfl)) (ma_cons (me_ix ix_seq o_ix (me_varW (pv 7)) (weak (me_ix ix_seq o_ix (me_varW (pv 4)) (weak me_int) (fun _ _ => rfl))) (fun _ _ => rfl)) ma_nil)))) (pg_sub (pv 8) (me_ix ix_seq o_ix (me_varW (pv 4)) (weak me_int) (fun _ _ => rfl)) set_list)))) mss_nil)
  (mss_cons (ms_if (PW.pt (mw_and (mt_cmp2 (op_eqD hr.units) o_eq (me_varW (pv 3)) (weak me_int) (nomark _)) (mw_and1 (mt_cmp2 (op_neD hr.units) o_ne (weak (me_ix ix_seq o_ix (me_varW (pv 4)) (weak me_int) (fun _ _ => rfl))) (weak (me_ix ix_seq o_ix (me_varW (pv 4)) (weak me_int) (fun _ _ => rfl))) (nomark _))))) (mss_one (ms_setI (ps_asg (me_callS ((d__law_spoil T).mono (by decide)) hr tk (by rfl) (alen_cons (alen_cons (alen_cons alen_nil))) (ma_cons (me_var (pv 1)) (ma_cons (me_ix ix_seq o_ix (me_varW (pv 4)) (weak me_int) (fun _ _ => rfl)) (ma_cons (me_ix ix_seq o_ix (me_varW (pv 7)) (weak (me_ix ix_seq o_ix (me_varW (pv 4)) (weak me_int) (fun _ _ => rfl))) (fun _ _ => rfl)) ma_nil)))) (pg_sub (pv 8) (me_ix ix_seq o_ix (me_varW (pv 4)) (weak me_int) (fun _ _ => rfl)) set_list)))) mss_nil)
  (mss_frz (mss_cons (ms_if (mt_not (mt_truth (weak (me_call ((d__law_held T).mono (by decide)) hr tk (by rfl) (alen_cons (alen_cons (alen_cons (alen_cons alen_nil)))) (ma_cons (me_var (pv 2)) (ma_cons (me_var (pv 8)) (ma_cons (me_var (pv 5)) (ma_cons (me_var (pv 6)) ma_nil)))))))) (mss_one (ms_ret me_bl)) mss_nil)
  (mss_one (ms_ret (me_and (me_call ((d__law_held T).mono (by decide)) hr tk (by rfl) (alen_cons (alen_cons (alen_cons (alen_cons alen_nil)))) (ma_cons (me_var (pv 2)) (ma_cons (me_var (pv 7)) (ma_cons (me_var (pv 5)) (ma_cons (me_var (pv 6)) ma_nil))))) (me_one (me_call ((d__law_held T).mono (by decide)) hr tk (by rfl) (alen_cons (alen_cons (alen_cons (alen_cons alen_nil)))) (ma_cons (me_var (pv 2)) (ma_cons (me_var (pv 7)) (ma_cons (me_new (mf_lst (ma_cons me_bl (ma_cons me_bl (ma_cons me_bl ma_nil))))) (ma_cons (me_var (pv 6)) ma_nil))))))))))))))))))))
theorem d_law (T : Fx K mg) : ∃ fd : FuncData, (∀ (s : Shared) (u : Value), BindsTo s fd ⟨[u], []⟩ [("_law_script", u)]) ∧ ∀ base : Heap, FnOk P w K mg base (L2.CX P w) 12 (He.ga K "law") fd ["_law_script"] (spLaw K 9 m__law_deck b_law) := by
  obtain ⟨fd, F⟩ := T.f_law
  refine ⟨fd, fun s u => F.bindsA (ps := ["_law_script"]) (fun _ _ _ _ _ _ us hl => match us, hl with | [_], _ => rfl) s [u] rfl, fun base => ?_⟩
  rw [law_body] at F
  exact law_fn (N := N_law) F sc_law (by decide) ((d__law_deck T).mono (by decide)) (fun cdv A outer s H E hr => w_law0 T cdv A outer s H E hr) (fun cdv A outer s H E hr => w_law T cdv A outer s H E hr)
end
end MM
end
namespace MM
open PySem PySem.Spec PyProof.Rows L2
theorem lawFx {K : Fg} {h : Heap} {mg : Str → Option Value} (X : K.In h) (G : h.Ns mainGlobals mg) (c : SaysM lawChk lawFn K) : Fx K mg where
  z_int := cFree_ok X G (c.fact 0)
  z_isinstance := cFree_ok X G (c.fact 1)
  z_bool := cFree_ok X G (c.fact 2)
  f_is_whole := c.def_ 0
  g_is_whole := cGlo_ok X G (c.fact 3)
  z_abs := cFree_ok X G (c.fact 4)
  f_divisor := c.def_ 1
  g_divisor := cGlo_ok X G (c.fact 5)
  z_tuple := cFree_ok X G (c.fact 6)
  z_len := cFree_ok X G (c.fact 7)
  f_is_share := c.def_ 2
  g_is_share := cGlo_ok X G (c.fact 8)
  c_GREATEST := cVal_ok X G (c.fact 9)
  f_is_fine := c.def_ 3
  g_is_fine := cGlo_ok X G (c.fact 10)
  x_NoShare := cExc_ok X G (c.fact 11)
  f_share := c.def_ 4
  g_share := cGlo_ok X G (c.fact 12)
  z_all := cFree_ok X G (c.fact 13)
  f_is_spot := c.def_ 5
  g_is_spot := cGlo_ok X G (c.fact 14)
  f_is_fine_spot := c.def_ 6
  g_is_fine_spot := cGlo_ok X G (c.fact 15)
  f_is_way := c.def_ 7
  g_is_way := cGlo_ok X G (c.fact 16)
  f_along := c.def_ 8
  g_along := cGlo_ok X G (c.fact 17)
  f_across := c.def_ 9
  g_across := cGlo_ok X G (c.fact 18)
  z_list := cFree_ok X G (c.fact 19)
  x_BadShape := cExc_ok X G (c.fact 20)
  c_REACH := cVal_ok X G (c.fact 21)
  f_look_corner := c.def_ 10
  g_look_corner := cGlo_ok X G (c.fact 22)
  f_is_left := c.def_ 11
  g_is_left := cGlo_ok X G (c.fact 23)
  c_CORNERS := cVal_ok X G (c.fact 24)
  z_enumerate := cFree_ok X G (c.fact 25)
  z_min := cFree_ok X G (c.fact 26)
  f_look_shape := c.def_ 12
  g_look_shape := cGlo_ok X G (c.fact 27)
  z_str := cFree_ok X G (c.fact 28)
  c_LONGEST := cVal_ok X G (c.fact 29)
  c_LETTERS := cVal_ok X G (c.fact 30)
  f_is_name := c.def_ 13
  g_is_name := cGlo_ok X G (c.fact 31)
  f_is_rail := c.def_ 14
  g_is_rail := cGlo_ok X G (c.fact 32)
  c_STILL := cVal_ok X G (c.fact 33)
  c_NOUGHT := cVal_ok X G (c.fact 34)
  f_may_go := c.def_ 15
  g_may_go := cGlo_ok X G (c.fact 35)
  g_BadShape := cGlo_ok X G (c.fact 36)
  m_BadShape_BadShape := cExm_ok (c.fact 37)
  f_look_corners := c.def_ 16
  g_look_corners := cGlo_ok X G (c.fact 38)
  c_MASS := cVal_ok X G (c.fact 39)
  f_look_parts := c.def_ 17
  g_look_parts := cGlo_ok X G (c.fact 40)
  f_wall := c.def_ 18
  g_wall := cGlo_ok X G (c.fact 41)
  g_STILL := cGlo_ok X G (c.fact 42)
  f_free := c.def_ 19
  g_free := cGlo_ok X G (c.fact 43)
  f_railed := c.def_ 20
  g_railed := cGlo_ok X G (c.fact 44)
  f__law_cell := c.def_ 21
  g__law_cell := cGlo_ok X G (c.fact 45)
  f__law_mixed := c.def_ 22
  g__law_mixed := cGlo_ok X G (c.fact 46)
  f__law_deck := c.def_ 23
  g__law_deck := cGlo_ok X G (c.fact 47)
  f__law_take := c.def_ 24
  g__law_take := cGlo_ok X G (c.fact 48)
  f__law_gcd := c.def_ 25
  g__law_gcd := cGlo_ok X G (c.fact 49)
  f__law_left := c.def_ 26
  g__law_left := cGlo_ok X G (c.fact 50)
  f__law_half := c.def_ 27
  g__law_half := cGlo_ok X G (c.fact 51)
  z_sorted := cFree_ok X G (c.fact 52)
  f__law_hull := c.def_ 28
  g__law_hull := cGlo_ok X G (c.fact 53)
  f__law_number := c.def_ 29
  g__law_number := cGlo_ok X G (c.fact 54)
  f__law_whole := c.def_ 30
  g__law_whole := cGlo_ok X G (c.fact 55)
  z_range := cFree_ok X G (c.fact 56)
  f__law_is_round := c.def_ 31
  g__law_is_round := cGlo_ok X G (c.fact 57)
  z_max := cFree_ok X G (c.fact 58)
  f__law_is_spot := c.def_ 32
  g__law_is_spot := cGlo_ok X G (c.fact 59)
  f__law_is_rail := c.def_ 33
  g__law_is_rail := cGlo_ok X G (c.fact 60)
  f__law_wrong := c.def_ 34
  g__law_wrong := cGlo_ok X G (c.fact 61)
  f__law_due := c.def_ 35
  g__law_due := cGlo_ok X G (c.fact 62)
  f__law_name := c.def_ 36
  g__law_name := cGlo_ok X G (c.fact 63)
  f__law_share := c.def_ 37
  g__law_share := cGlo_ok X G (c.fact 64)
  f__law_rail := c.def_ 38
  g__law_rail := cGlo_ok X G (c.fact 65)
  f__law_times := c.def_ 39
  g__law_times := cGlo_ok X G (c.fact 66)
  f__law_things := c.def_ 40
  g__law_things := cGlo_ok X G (c.fact 67)
  f__law_spoil := c.def_ 41
  g__law_spoil := cGlo_ok X G (c.fact 68)
  f__law_free_made := c.def_ 42
  g__law_free_made := cGlo_ok X G (c.fact 69)
  f__law_railed_made := c.def_ 43
  g__law_railed_made := cGlo_ok X G (c.fact 70)
  f__law_made := c.def_ 44
  g__law_made := cGlo_ok X G (c.fact 71)
  z_zip := cFree_ok X G (c.fact 72)
  f__law_alike := c.def_ 45
  g__law_alike := cGlo_ok X G (c.fact 73)
  g_BadRow := cGlo_ok X G (c.fact 74)
  m_BadRow_BadRow := cExm_ok (c.fact 75)
  z_ValueError := cFree_ok X G (c.fact 76)
  e_BadRow := cExcC_ok (c.fact 77)
  k_BadRow_ValueError := cKit_ok (c.fact 78)
  g_BodyError := cGlo_ok X G (c.fact 79)
  k_BadRow_BodyError := cKit_ok (c.fact 80)
  ox_BadRow := cOexX_ok X G (c.fact 81)
  k_BadRow_BadShape := cKit_ok (c.fact 82)
  f__law_held := c.def_ 46
  g__law_held := cGlo_ok X G (c.fact 83)
  f_law := c.def_ 47
  g_law := cGlo_ok X G (c.fact 84)
  f_BadRow__init := c.def_ 48
  bx_BodyError := cBaseX_ok X G (c.fact 85)
end MM
open PySem PySem.W PySem.Calls PyProof.Rows
theorem PySem.Challenge.cw_restbodies_k10_rows_made_holds : PySem.Challenge.rw_restbodies_k10_rows_made.Holds := by
  w_on; o_law
  refine MM.head_anyL (r := OpenLaw.row PySem.Challenge.rw_restbodies_k10_rows_made) (q := view (OpenLaw.row PySem.Challenge.rw_restbodies_k10_rows_made).prog [65]) (H := MM.lawHook) (ob := MM.lawOb) (M := 20000) (loose := MM.lawLoose) (d := HandSHeadRun.topDef (OpenLaw.row PySem.Challenge.rw_restbodies_k10_rows_made).prog 65) (kwd := []) MM.lawOb_eq
    (by kernel_rfl) (fun s => by kernel_rfl) MM.lawRun (fun _ => ⟨rfl, rfl, rfl⟩) (by kernel_rfl) (by kernel_rfl) (by kernel_rfl) (by rfl) (by first | assumption | decide +kernel) (by decide +kernel) ⟨rfl, rfl, rfl, rfl, rfl, by decide +kernel⟩ ?hw ?hc
  case hw => w_witness2
  case hc =>
    exact MM.walk_mm (n := 63) (k := 12) (nn := 5) (N := 9) (m := MM.m__law_deck) (rest := MM.b_law) rfl (by decide) rfl rfl (MM.room_k (by decide))
      (fun w mg K h X G c => ⟨MM.cGlo_ok X G (c.fact 84), MM.d_law (MM.lawFx X G c)⟩) (fun ns hl hb => MM.law_good ns hl hb)

