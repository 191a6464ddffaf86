import PyProof.Rows.All
import Wide.All
import OpenK.AllK
import Wide.FinOn
import HandS.ForMost
import HandS.ForExc
import HandS.Wide
import HandS.CallSlots
import HandS.HeadHook2
import HandS.Walk
import PyProof.DictRoadsH
import HandS.TryOnly
import HandS.ExcIs
import HandS.IsInst
import HandS.TupAny
import HandS.Flow
import HandS.EndBits
import HandS.IntHex
import HandS.Head0
import HandS.Head1
import HandS.Head2
import HandS.HeadEnd
import HandS.HeadHook1
import HandS.Ends
import KE.KUnpackStar
import HandS.Iter
import HandS.Zip
import HandS.Rev
import HandS.List
import HandS.SortInts
import HandS.Defaults
import HandS.Zip0
import HandS.Style
import KE.SortData
import KE.DataMinMax
import HandS.Deep
import KE.DataEq
import HandS.DictComp
import HandS.Small
import KE.KDictWalk
import KE.KDictList
import HandS.DictSubView
import KE.GoesMore
import HandS.Sort
import PyProof.NeKinds
import HandS.TupMul
import HandS.ExcInit
import HandS.ExcField
import HandS.ClsMeth
import PyProof.WalkInts
import KE.KIsAll
import HandS.HotCalls
import HandS.RevRange
import HandS.Conv
import KE.KDictZip
import KE.KDictPairs
import PyProof.ReprRoads
import HandS.Strs
import HandS.TryMany
import HandS.FStr
import HandS.Text
import PyProof.SliceStr2
import HandS.SuiteRaise
import HandS.RaiseFrom
import HandS.ExcInitHot
import PyProof.CompFree
import HandS.Comp
import HandS.More
import PyProof.RowDictHeap
import PySem.Challenge.RW_restbodies_k06_shapes_looked
set_option Elab.async false
set_option linter.all false
set_option maxRecDepth 100000
set_option maxHeartbeats 4000000
namespace MM
open PySem PySem.Spec PyProof.Rows L2
inductive D where
  | non | bl (b : Bool) | int (i : Int) | str (x : Str)
  | tup (xs : List D) | lst (xs : List D) | dct (ks vs : List D) | obj (C : Str) (ns : List Str) (vs : List D) | at (a : Addr) | ty (n : String) | cls (C : Str) | scr (ns : List Int)

abbrev Fg := PySem.W.Frag

abbrev Chk := List (Fg → Bool)
def obsM (chk : Chk) (fn : List He.DefD) (K : Fg) : He.AlD := ((chk.all fun f => f K) && fn.all fun d => d.ok K, fn.map fun d => He.fnW K d.at_)
def SaysM (chk : Chk) (fn : List He.DefD) (K : Fg) : Prop := obsM chk fn K = He.valD fn
def strN {α : Type} (n : Nat) (k : Nat → α) : α := match n with
  | 0 => k 0
  | m + 1 => k (m + 1)
def bitIn (s r : Nat) : Bool := Nat.beq (Nat.land (Nat.shiftRight s r) 1) 1
def seeK {α : Type} : List Addr → Nat → List Addr → (Nat → List Addr → α) → α
  | [], s, acc, k => k s acc
  | r :: rs, s, acc, k => match bitIn s r with
    | true => seeK rs s acc k
    | false => strN (Nat.lor s (Nat.shiftLeft 1 r)) fun s => seeK rs s (r :: acc) k
def growK {α : Type} (g : Addr → Option Obj) : List Addr → Nat → List Addr → (Nat → List Addr → α) → α
  | [], s, acc, k => k s acc
  | a :: as, s, acc, k => match g a with
    | some o => seeK (He.refsD o) s acc fun s acc => growK g as s acc k
    | none => growK g as s acc k
def bfsK (g : Addr → Option Obj) : Nat → List Addr → Nat → List Addr → List Addr
  | 0, _, _, all => all
  | n + 1, fr, s, all => growK g fr s [] fun s new => bfsK g n new s (all ++ new)
def asM (g : Addr → Option Obj) (n : Nat) : List Addr := bfsK g n [mainGlobals] (Nat.shiftLeft 1 mainGlobals) [mainGlobals] ++ [cStatics, sysModules]
def obsMG (n : Nat) (chk : Chk) (fn : List He.DefD) (g : Addr → Option Obj) : He.AlD := obsM chk fn (He.frG g (asM g n))
def hookM (n : Nat) (chk : Chk) (fn : List He.DefD) : PySem.W.Hook where
  α := He.AlD
  obs := fun s => obsMG n chk fn s.heap.get?
  val := fun _ => He.valD fn
  says := fun _ h => ∃ K : Fg, K.In h ∧ SaysM chk fn K
  of := fun _ _ e => ⟨_, He.frG_in, e⟩
  keeps := fun _ _ _ ⟨K, hK, c⟩ k => ⟨K, PySem.W.Frag.In.keeps hK k, c⟩
theorem obsMG_eq {n : Nat} {chk : Chk} {fn : List He.DefD} {g : Addr → Option Obj} {s : Shared} (h : ∀ a, g a = s.heap.get? a) : obsMG n chk fn g = (hookM n chk fn).obs s := by
  have e : g = s.heap.get? := funext h
  rw [e] <;> rfl
def cGlo (x : Str) : Fg → Bool := fun K => He.Fa.ok K (.glo x)
def cFree (x : Str) : Fg → Bool := fun K => He.Fa.ok K (.free x)
def cExc (x : Str) : Fg → Bool := fun K => He.Fa.ok K (.exc x) && He.Fa.ok K (.glo x)
def cExcC (x : Str) : Fg → Bool := fun K => decide (PySem.W.findIn K (.ref (He.ga K x)) "__getattribute__" = some (some (.builtin "BaseException.__getattribute__"))) && (decide (PySem.W.findIn K (.ref (He.ga K x)) "__getattr__" = some none) &&
  (decide (PySem.W.subIn K (.ref (He.ga K x)) (.type "BaseException") = some true) && (PySem.W.hasDictIn K (He.ga K x) && (decide (PySem.W.findIn K (.ref (He.ga K x)) "__class__" = some (some (.builtin "object.__class__"))) &&
  (decide (PySem.W.specialIn K (.builtin "object.__class__") "__get__" = some (some (.builtin "getset_descriptor.__get__"))) && (decide (PySem.W.takesIn K (.builtin "object.__class__") = some true) && decide (PySem.W.mroIn K (He.ga K x) (.type "object") = some true)))))))
def cKit (x : Str) (c : Fg → Value) (b : Bool) : Fg → Bool := fun K => decide (PySem.W.kitOne K (.ref (He.ga K x)) (c K) = some b)
def cExm (x : Str) (c : Fg → Value) (b : Bool) : Fg → Bool := fun K => decide (PySem.W.exmOne K (.ref (He.ga K x)) (c K) = some b)
def cLim : Fg → Bool := fun K => decide (PySem.W.nsIn K cStatics "sys.int_max_str_digits" = some none)
mutual
def isDV (K : Fg) : Nat → Value → D → Bool
  | _, .none, .non => true
  | _, .bool b, .bl c => b == c
  | _, .int i _, .int j => decide (i = j)
  | _, .str x _, .str y => decide (x = y)
  | n + 1, .ref a, .tup ds => (match K.lookup a with
    | some ⟨.type c, _, .seq its _, _⟩ => decide (c = "tuple") && (decide (its.size ≤ sizeLine) && isDVs K n its.toList ds)
    | _ => false)
  | _, _, _ => false
def isDVs (K : Fg) : Nat → List Value → List D → Bool
  | _, [], [] => true
  | n, v :: vs, d :: ds => isDV K n v d && isDVs K n vs ds
  | _, _, _ => false
end
def cVal (x : Str) (d : D) : Fg → Bool := fun K => match PySem.W.nsIn K mainGlobals x with
  | some (some v) => isDV K 8 v d
  | _ => false
def clsBody : Stmt → List Stmt
  | .ClassDef _ _ _ body _ _ _ _ _ _ _ => body
  | _ => []
def cClsF (x : Str) : Fg → Bool := fun K => He.Fa.ok K (.cls x) && (decide (PySem.W.findIn K (.ref (He.ga K x)) "__class__" = some (some (.builtin "object.__class__"))) && (decide (PySem.W.specialIn K (.builtin "object.__class__") "__get__" = some (some (.builtin "getset_descriptor.__get__"))) &&
  (decide (PySem.W.takesIn K (.builtin "object.__class__") = some true) && decide (PySem.W.mroIn K (He.ga K x) (.type "object") = some true))))
def cNoat (x f : Str) : Fg → Bool := fun K => decide (PySem.W.findIn K (.ref (He.ga K x)) f = some none)
def cMeth (x m : Str) : Fg → Bool := fun K => He.Fa.ok K (.meth x m)
def cMkr (x : Str) : Fg → Bool := fun K => He.Fa.ok K (.mkr x)
def cBaseX (B : Str) : Fg → Bool := fun K => He.Fa.ok K (.glo B) && (PySem.W.readsIn K (He.ga K B) (.type "type") && (decide (PySem.W.specialIn K (.ref (He.ga K B)) "__getattribute__" = some (some (.builtin "type.__getattribute__"))) &&
  match PySem.W.findCls K (.ref (He.ga K B)) (.type "type") "__init__" with
  | some (.val v) => v == .builtin "ValueError.__init__"
  | _ => false))
def oexB (K : Fg) (C : Addr) : Bool := match K.lookup C with
  | some ⟨.type "type", _, .cls cd, sl⟩ => (match cd.mro, sl.toList with
    | .ref C' :: bm, [_, _, _, _, some (.builtin n), _] => C' == C && n == "ValueError.__new__" && !cd.hasDel && cd.hasDict && PySem.HandSPX.refsVE bm
    | _, _ => false)
  | _ => false
def cOexX (C : Str) (fs : List Str) : Fg → Bool := fun K => He.Fa.ok K (.glo C) && (oexB K (He.ga K C) && (decide (PySem.W.findIn K (.ref (He.ga K C)) "__setattr__" = some (some (.builtin "object.__setattr__"))) && (decide (PySem.W.subIn K (.ref (He.ga K C)) (.type "BaseException") = some true) &&
  (decide (PySem.W.typeIn K (.ref (He.ga K C)) = some (.type "type")) && (PySem.W.keepIn K (.ref (He.ga K C)) && (decide (PySem.W.findIn K (.ref (He.ga K C)) "__init__" = some (some (.ref (He.ma K (He.ga K C) "__init__")))) &&
  (decide (PySem.W.typeIn K (.ref (He.ma K (He.ga K C) "__init__")) = some (.type "function")) && ((fs.all fun f => decide (PySem.W.findIn K (.ref (He.ga K C)) f = some none)) && xfB K (He.ga K C)))))))))
def nsEq : List Nat → List Nat → Bool
  | [], [] => true
  | a :: x, b :: y => Nat.beq a b && nsEq x y
  | _, _ => false
def sEqL (a b : Str) : Bool := nsEq a.cps.toList b.cps.toList
def linKeys (own : List Str) : List Str → List Str → Bool
  | [], _ => true
  | k :: ks, [] => (startupNames.contains k || own.contains k) && linKeys own ks []
  | k :: ks, x :: xs => match sEqL k x with
    | true => linKeys own ks xs
    | false => (startupNames.contains k || own.contains k) && linKeys own ks (x :: xs)
noncomputable def seenL (q : Program) (loose mods : List Str) (Xt : Shared → Bool) (s : Shared) :=
  ((HandSHeadRun.seenQ q [] mods Xt s).1, (HandSHeadRun.seenQ q [] mods Xt s).2.1,
   linKeys ((recsOf q).map (·.name)) (s.heap.nsKeys mainGlobals) loose && s.heap.accountedOkI mods && s.heap.isNs mainGlobals && s.heap.isNs builtinsNs && tablesOk q s.heap && Xt s && (s.gens.size == 0),
   (HandSHeadRun.seenQ q [] mods Xt s).2.2.2)
def RunEqL (r : PySem.W.OpenRow) (q : Program) (H : PySem.W.Hook) (ob : PySem.W.SharedT → H.α) (M : Nat) (loose : List Str) (w : World) : Prop :=
  ∀ os : OsState, (HandSHeadRun.endF (HandSHeadRun.stepQ (HandSHeadRun.denQ HandSHeadRun.tabQ) r.prog w) M r.prog w os).map (fun s => (HandSHeadRun.looksF r.prog (PySem.W.boot_heap w.params) s.abs, seenL q loose (importedModules r.prog.main.body) (fun s => PySem.W.xlAt q [] s && PySem.W.recOk r.toRowW.records s) s.abs, ob s)) = some (true, PySem.W.openGood q [], H.val w)
def cSys : Fg → Bool := fun K => match K.lookup sysModules with
  | some o => decide (o.cls = .type "dict")
  | none => false
end MM
noncomputable section
namespace MM
open PySem PySem.Spec PyProof.Rows L2
def top (i : Nat) : Stmt := PySem.Challenge.pw_restbodies_k06_shapes_looked.main.body.getD i (.Pass ⟨0, 0, 0, 0⟩)
def mth (i j : Nat) : Stmt := (clsBody (top i)).getD j (.Pass ⟨0, 0, 0, 0⟩)
def lawChk0 : Chk := [cFree "int", cFree "isinstance", cFree "bool", cGlo "is_whole", cFree "list", cFree "tuple", cFree "len", cExc "BadShape", cVal "REACH" (.int 1000000), cGlo "look_corner", cGlo "is_left", cVal "CORNERS" (.int 8), cFree "enumerate", cFree "all", cFree "min", cGlo "look_shape", cFree "abs", cGlo "_law_cell", cGlo "_law_mixed", cGlo "_law_deck", cGlo "_law_take", cGlo "_law_left", cGlo "_law_half", cFree "sorted", cGlo "_law_hull", cFree "range", cGlo "_law_shape", cGlo "_law_form", cGlo "_law_no_corner", cFree "dict"]
def lawChk1 : Chk := [cGlo "_law_other", cGlo "_law_bent", cGlo "_law_thing", cSys, cFree "repr", cExcC "BadShape", cGlo "BodyError", cKit "BadShape" (fun K => (.ref (He.ga K "BodyError"))) true, cFree "ValueError", cKit "BadShape" (fun K => (.type "ValueError")) true, cGlo "BadRow", cKit "BadShape" (fun K => (.ref (He.ga K "BadRow"))) false, cGlo "NoShare", cKit "BadShape" (fun K => (.ref (He.ga K "NoShare"))) false, cGlo "BadShape", cExm "BadShape" (fun K => (.ref (He.ga K "BadShape"))) true, cGlo "_law_right", cGlo "law"]
def lawChk : Chk := List.flatten [lawChk0, lawChk1]
def lawFn0 : List He.DefD := [⟨("is_whole", none), "is_whole", "is_whole", defArgs (top 8), defBody (top 8), defScope (top 8), [], []⟩, ⟨("look_corner", none), "look_corner", "look_corner", defArgs (top 10), defBody (top 10), defScope (top 10), [], []⟩, ⟨("is_left", none), "is_left", "is_left", defArgs (top 11), defBody (top 11), defScope (top 11), [], []⟩, ⟨("look_shape", none), "look_shape", "look_shape", defArgs (top 12), defBody (top 12), defScope (top 12), [], []⟩, ⟨("_law_cell", none), "_law_cell", "_law_cell", defArgs (top 14), defBody (top 14), defScope (top 14), [], []⟩, ⟨("_law_mixed", none), "_law_mixed", "_law_mixed", defArgs (top 15), defBody (top 15), defScope (top 15), [], []⟩, ⟨("_law_deck", none), "_law_deck", "_law_deck", defArgs (top 16), defBody (top 16), defScope (top 16), [], []⟩, ⟨("_law_take", none), "_law_take", "_law_take", defArgs (top 17), defBody (top 17), defScope (top 17), [], []⟩, ⟨("_law_left", none), "_law_left", "_law_left", defArgs (top 18), defBody (top 18), defScope (top 18), [], []⟩, ⟨("_law_half", none), "_law_half", "_law_half", defArgs (top 19), defBody (top 19), defScope (top 19), [], []⟩, ⟨("_law_hull", none), "_law_hull", "_law_hull", defArgs (top 20), defBody (top 20), defScope (top 20), [], []⟩, ⟨("_law_shape", none), "_law_shape", "_law_shape", defArgs (top 21), defBody (top 21), defScope (top 21), [], []⟩, ⟨("_law_form", none), "_law_form", "_law_form", defArgs (top 22), defBody (top 22), defScope (top 22), [], []⟩, ⟨("_law_no_corner", none), "_law_no_corner", "_law_no_corner", defArgs (top 23), defBody (top 23), defScope (top 23), [], []⟩, ⟨("_law_other", none), "_law_other", "_law_other", defArgs (top 24), defBody (top 24), defScope (top 24), [], []⟩, ⟨("_law_bent", none), "_law_bent", "_law_bent", defArgs (top 25), defBody (top 25), defScope (top 25), [], []⟩, ⟨("_law_thing", none), "_law_thing", "_law_thing", defArgs (top 26), defBody (top 26), defScope (top 26), [], []⟩, ⟨("_law_right", none), "_law_right", "_law_right", defArgs (top 27), defBody (top 27), defScope (top 27), [], []⟩, ⟨("law", none), "law", "law", defArgs (top 28), defBody (top 28), defScope (top 28), [], []⟩]
def lawFn : List He.DefD := lawFn0
def lawFnA0 : List He.DefD := [⟨("is_whole", none), "is_whole", "is_whole", defArgs (top 8), defBody (top 8), defScope (top 8), [], []⟩, ⟨("look_corner", none), "look_corner", "look_corner", defArgs (top 10), defBody (top 10), defScope (top 10), [], []⟩, ⟨("is_left", none), "is_left", "is_left", defArgs (top 11), defBody (top 11), defScope (top 11), [], []⟩, ⟨("look_shape", none), "look_shape", "look_shape", defArgs (top 12), defBody (top 12), defScope (top 12), [], []⟩, ⟨("_law_cell", none), "_law_cell", "_law_cell", defArgs (top 14), defBody (top 14), defScope (top 14), [], []⟩, ⟨("_law_mixed", none), "_law_mixed", "_law_mixed", defArgs (top 15), defBody (top 15), defScope (top 15), [], []⟩, ⟨("_law_deck", none), "_law_deck", "_law_deck", defArgs (top 16), defBody (top 16), defScope (top 16), [], []⟩, ⟨("_law_take", none), "_law_take", "_law_take", defArgs (top 17), defBody (top 17), defScope (top 17), [], []⟩, ⟨("_law_left", none), "_law_left", "_law_left", defArgs (top 18), defBody (top 18), defScope (top 18), [], []⟩, ⟨("_law_half", none), "_law_half", "_law_half", defArgs (top 19), defBody (top 19), defScope (top 19), [], []⟩]
def lawFnA : List He.DefD := lawFnA0
def lawFnB0 : List He.DefD := [⟨("_law_hull", none), "_law_hull", "_law_hull", defArgs (top 20), defBody (top 20), defScope (top 20), [], []⟩, ⟨("_law_shape", none), "_law_shape", "_law_shape", defArgs (top 21), defBody (top 21), defScope (top 21), [], []⟩, ⟨("_law_form", none), "_law_form", "_law_form", defArgs (top 22), defBody (top 22), defScope (top 22), [], []⟩, ⟨("_law_no_corner", none), "_law_no_corner", "_law_no_corner", defArgs (top 23), defBody (top 23), defScope (top 23), [], []⟩, ⟨("_law_other", none), "_law_other", "_law_other", defArgs (top 24), defBody (top 24), defScope (top 24), [], []⟩, ⟨("_law_bent", none), "_law_bent", "_law_bent", defArgs (top 25), defBody (top 25), defScope (top 25), [], []⟩, ⟨("_law_thing", none), "_law_thing", "_law_thing", defArgs (top 26), defBody (top 26), defScope (top 26), [], []⟩, ⟨("_law_right", none), "_law_right", "_law_right", defArgs (top 27), defBody (top 27), defScope (top 27), [], []⟩, ⟨("law", none), "law", "law", defArgs (top 28), defBody (top 28), defScope (top 28), [], []⟩]
def lawFnB : List He.DefD := lawFnB0
def lawLoose0 : List Str := [Str.ofString "CORNERS", Str.ofString "REACH", Str.ofString "BodyError", Str.ofString "NoShare", Str.ofString "BadShape", Str.ofString "BadRow", Str.ofString "is_whole", Str.ofString "look_corner", Str.ofString "is_left", Str.ofString "look_shape", Str.ofString "_law_cell", Str.ofString "_law_mixed", Str.ofString "_law_deck", Str.ofString "_law_take", Str.ofString "_law_left", Str.ofString "_law_half", Str.ofString "_law_hull", Str.ofString "_law_shape", Str.ofString "_law_form", Str.ofString "_law_no_corner", Str.ofString "_law_other", Str.ofString "_law_bent", Str.ofString "_law_thing", Str.ofString "_law_right"]
def lawLoose : List Str := lawLoose0
abbrev lawRow : PySem.W.OpenRow := PySem.W.OpenLaw.row PySem.Challenge.rw_restbodies_k06_shapes_looked
abbrev lawHook : PySem.W.Hook := hookM 5 lawChk lawFn
def lawOb (s : PySem.W.SharedT) : He.AlD := obsMG 5 lawChk lawFn (HandSHeadRun.getT s)
theorem lawOb_eq (s : PySem.W.SharedT) : lawOb s = lawHook.obs s.abs := obsMG_eq (HandSHeadRun.getT_eq s)
abbrev lawEnd (w : World) (os : OsState) : Option PySem.W.SharedT := HandSHeadRun.endF (HandSHeadRun.stepQ (HandSHeadRun.denQ HandSHeadRun.tabQ) lawRow.prog w) 20000 lawRow.prog w os
def lawK (s : PySem.W.SharedT) : Fg := He.frG (HandSHeadRun.getT s) (asM (HandSHeadRun.getT s) 5)
theorem lawRunA (w : World) (os : OsState) : (lawEnd w os).map (fun s => (HandSHeadRun.looksF lawRow.prog (PySem.W.boot_heap w.params) s.abs, seenL (PySem.W.view lawRow.prog [28]) lawLoose (importedModules lawRow.prog.main.body) (fun s => PySem.W.xlAt (PySem.W.view lawRow.prog [28]) [] s && PySem.W.recOk lawRow.toRowW.records s) s.abs)) = some (true, PySem.W.openGood (PySem.W.view lawRow.prog [28]) []) := by
  kernel_rfl
theorem lawRunB (w : World) (os : OsState) : (lawEnd w os).map (fun s => lawChk.all fun f => f (lawK s)) = some true := by
  kernel_rfl
theorem lawRunC (w : World) (os : OsState) : (lawEnd w os).map (fun s => (lawFnA.all (fun d => d.ok (lawK s)), lawFnA.map fun d => He.fnW (lawK s) d.at_)) = some (true, lawFnA.map He.DefD.val) := by
  kernel_rfl
theorem lawRunD (w : World) (os : OsState) : (lawEnd w os).map (fun s => (lawFnB.all (fun d => d.ok (lawK s)), lawFnB.map fun d => He.fnW (lawK s) d.at_)) = some (true, lawFnB.map He.DefD.val) := by
  kernel_rfl
theorem lawFn_two : lawFn = lawFnA ++ lawFnB := by rfl
theorem lawRun (w : World) : RunEqL lawRow (PySem.W.view lawRow.prog [28]) lawHook lawOb 20000 lawLoose w := by
  intro os
  have a := lawRunA w os
  have b := lawRunB w os
  have c := lawRunC w os
  have d := lawRunD w os
  show (lawEnd w os).map _ = _
  generalize lawEnd w os = e at a b c d ⊢
  cases e with
  | none => cases a
  | some s =>
    rw [Option.map_some, Option.some.injEq, Prod.mk.injEq] at a c d
    rw [Option.map_some, Option.some.injEq] at b
    rw [Option.map_some, Option.some.injEq]
    refine Prod.ext a.1 (Prod.ext a.2 ?_)
    show ((lawChk.all fun f => f (lawK s)) && lawFn.all (fun d => d.ok (lawK s)), lawFn.map fun d => He.fnW (lawK s) d.at_) = (true, lawFn.map He.DefD.val)
    rw [lawFn_two, List.all_append, List.map_append, List.map_append, b, c.1, c.2, d.1, d.2]
    rfl
end MM
end
namespace MM
open PySem PySem.Spec PyProof.Rows L2
abbrev St := L2.St

abbrev Fp := Addr → Prop
def TupF (K : Fg) (F : Fp) (H : Hp) (a : Addr) (xs : List V) : Prop :=
  (¬ F a ∧ Rd H a (.tup xs)) ∨ ∃ (o : Obj) (its : Array Value) (n : Nat), K.lookup a = some o ∧ o.cls = .type "tuple" ∧ o.data = .seq its n ∧ its.size ≤ sizeLine ∧ Vals xs its.toList
abbrev LsR (_ : Fg) (H : Hp) (a : Addr) (xs : List V) : Prop := Rd H a (.lst xs)
def LstF (K : Fg) (F : Fp) (H : Hp) (a : Addr) (xs : List V) : Prop := ¬ F a ∧ LsR K H a xs
def ScrF (K : Fg) (F : Fp) (H : Hp) (a : Addr) (xs : List V) : Prop :=
  (¬ F a ∧ Rd H a (.lst xs)) ∨ ∃ (o : Obj) (its : Array Value) (n : Nat), K.lookup a = some o ∧ o.cls = .type "list" ∧ o.dict = none ∧ o.data = .seq its n ∧ its.size ≤ sizeLine ∧ Vals xs its.toList
theorem LsR.sq {K : Fg} {H : Hp} {a : Addr} {xs : List V} (h : LsR K H a xs) : SqL K H a xs := .inl h
theorem LstF.ls {K : Fg} {F : Fp} {H : Hp} {a : Addr} {xs : List V} (h : LstF K F H a xs) : LsR K H a xs := h.2
theorem ScrF.sq {K : Fg} {F : Fp} {H : Hp} {a : Addr} {xs : List V} (h : ScrF K F H a xs) : SqL K H a xs := by
  rcases h with ⟨_, h⟩ | h
  · exact .inl h
  · exact .inr h
theorem TupF.sq {K : Fg} {F : Fp} {H : Hp} {a : Addr} {xs : List V} (h : TupF K F H a xs) : SqT K H a xs := by
  rcases h with ⟨_, h⟩ | h
  · exact .inl h
  · exact .inr h
theorem LstF.sq {K : Fg} {F : Fp} {H : Hp} {a : Addr} {xs : List V} (h : LstF K F H a xs) : SqL K H a xs := .inl h.2

section
abbrev EX := List Int × Addr × V
def thi (ks : List Int) : Int := reduceHash (Builtin.Tuple.tupleHashOf (ks.map hashInt))
def entX (x : List Int × Addr × Value) : DictEntry := ⟨thi x.1, .ref x.2.1, x.2.2⟩
abbrev PX : List EX → List (List Int × Addr × Value) → Prop := Paired fun p q => p.1 = q.1 ∧ p.2.1 = q.2.1 ∧ RelV p.2.2 q.2.2
def OX (a : Addr) (o : Obj) (es : List EX) : Prop :=
  es.length ≤ sizeLine ∧ (a == sysModules) = false ∧ (es.map (·.1)).Nodup ∧ ∃ xs, PX es xs ∧ ∃ (arr : Array DictEntry) (ep : Nat), o.ExactDict ∧ o.data = .dict arr ep ∧ arr.toList = xs.map entX
def exo (a : Addr) (o : Obj) : HO := .ext fun h => h.get? a = some o
theorem PX.any {es : List EX} {xs : List (List Int × Addr × Value)} (r : PX es xs) (k : List Int) : (es.any fun p => decide (p.1 = k)) = (atKey xs k).isSome := by
  induction r with
  | nil => rfl
  | @cons p q ps qs h t ih =>
    rw [List.any_cons, ih]
    by_cases e : q.1 = k
    · have : atKey (q :: qs) k = some q.2 := by simp [atKey, List.find?_cons, e]
      rw [this, h.1, decide_eq_true e]; rfl
    · have : atKey (q :: qs) k = atKey qs k := by simp [atKey, List.find?_cons, e]
      rw [this, h.1, decide_eq_false e]; rfl
variable {X : Cx} {pins : List (Addr × Obj)} {σ : L2.St} {H : Hp} {s : Shared} {a b : Addr} {es : List EX} {k : List Int} {v : V} {r : Value} {A : Around} {E : Value → Shared → Prop}
def valX (es : List EX) (k : List Int) : Option V := (es.find? fun p => decide (p.1 = k)).map (·.2.2)
theorem PX.val {es : List EX} {xs : List (List Int × Addr × Value)} (r : PX es xs) {k : List Int} {v : V} (h : valX es k = some v) : ∃ p, atKey xs k = some p ∧ RelV v p.2 := by
  induction r with
  | nil => cases h
  | @cons p q ps qs hq t ih =>
    unfold valX at h
    rw [List.find?_cons] at h
    by_cases e : p.1 = k
    · rw [decide_eq_true e] at h
      cases h
      exact ⟨q.2, by simp [atKey, List.find?_cons, ← hq.1, e], hq.2.2⟩
    · rw [decide_eq_false e] at h
      obtain ⟨z, h1, h2⟩ := ih h
      refine ⟨z, ?_, h2⟩
      rw [← h1]
      simp [atKey, List.find?_cons, ← hq.1, e]
end

def keyD : Key → D
  | .inl i => .int i
  | .inr x => .str x

mutual
inductive Rep (K : Fg) (F : Fp) (H : Hp) : V → D → Prop
  | non : Rep K F H .non .non
  | bl (b : Bool) : Rep K F H (.bl b) (.bl b)
  | int (i : Int) : Rep K F H (.int i) (.int i)
  | str (x : Str) : Rep K F H (.str x) (.str x)
  | tup {a : Addr} {vs : List V} {ds : List D} : TupF K F H a vs → Reps K F H vs ds → Rep K F H (.ref a) (.tup ds)
  | lst {a : Addr} {vs : List V} {ds : List D} : LstF K F H a vs → Reps K F H vs ds → Rep K F H (.ref a) (.lst ds)
  | dK {a : Addr} {kvs : List (Key × V)} {ds : List D} : ¬ F a → H a = some (.dK kvs) → Reps K F H (kvs.map (·.2)) ds → Rep K F H (.ref a) (.dct (kvs.map fun p => keyD p.1) ds)
  | dX {a : Addr} {o : Obj} {es : List EX} {ds : List D} : ¬ F a → es ≠ [] → H a = some (exo a o) → OX a o es → (∀ p ∈ es, TupF K F H p.2.1 (p.1.map V.int)) → Reps K F H (es.map (·.2.2)) ds → Rep K F H (.ref a) (.dct (es.map fun p => .tup (p.1.map D.int)) ds)
  | obj {a dx : Addr} {C : Str} {fs : List (Str × V)} {ds : List D} : ¬ F a → H a = some (.ins (He.ga K C) dx fs) → Reps K F H (fs.map (·.2)) ds → Rep K F H (.ref a) (.obj C (fs.map (·.1)) ds)
  | at (a : Addr) : Rep K F H (.ref a) (.at a)
  | ty (n : String) : Rep K F H (.ty n) (.ty n)
  | cls (C : Str) : Rep K F H (.ref (He.ga K C)) (.cls C)
  | scr {a : Addr} {ns : List Int} : ScrF K F H a (ns.map V.int) → Rep K F H (.ref a) (.scr ns)
inductive Reps (K : Fg) (F : Fp) (H : Hp) : List V → List D → Prop
  | nil : Reps K F H [] []
  | cons {v : V} {vs : List V} {d : D} {ds : List D} : Rep K F H v d → Reps K F H vs ds → Reps K F H (v :: vs) (d :: ds)
end

section
variable {K : Fg} {F F' F1 F2 : Fp} {H H' H1 H2 : Hp}
theorem Reps.length : ∀ {vs : List V} {ds : List D}, Reps K F H vs ds → vs.length = ds.length
  | _, _, .nil => rfl
  | _, _, .cons _ t => congrArg (· + 1) (Reps.length t)
theorem Reps.get : ∀ {vs : List V} {ds : List D} {i : Nat} {d : D}, Reps K F H vs ds → ds[i]? = some d → ∃ v, vs[i]? = some v ∧ Rep K F H v d
  | _, _, _, _, .nil, e => by simp at e
  | _, _, 0, _, .cons r _, e => by simp at e; subst e; exact ⟨_, rfl, r⟩
  | _, _, i + 1, d, .cons _ t, e => by
    obtain ⟨v, h1, h2⟩ := Reps.get (i := i) (d := d) t (by simpa using e)
    exact ⟨v, by simpa using h1, h2⟩
theorem Reps.getV : ∀ {vs : List V} {ds : List D} {i : Nat} {v : V}, Reps K F H vs ds → vs[i]? = some v → ∃ d, ds[i]? = some d ∧ Rep K F H v d
  | _, _, _, _, .nil, e => by simp at e
  | _, _, 0, _, .cons r _, e => by simp at e; subst e; exact ⟨_, rfl, r⟩
  | _, _, i + 1, v, .cons _ t, e => by
    obtain ⟨d, h1, h2⟩ := Reps.getV (i := i) (v := v) t (by simpa using e)
    exact ⟨d, by simpa using h1, h2⟩
theorem Reps.append : ∀ {vs ws : List V} {ds es : List D}, Reps K F H vs ds → Reps K F H ws es → Reps K F H (vs ++ ws) (ds ++ es)
  | _, _, _, _, .nil, s => s
  | _, _, _, _, .cons r t, s => .cons r (Reps.append t s)
theorem Reps.take : ∀ {vs : List V} {ds : List D} (n : Nat), Reps K F H vs ds → Reps K F H (vs.take n) (ds.take n)
  | _, _, 0, _ => .nil
  | _, _, _ + 1, .nil => .nil
  | _, _, n + 1, .cons r t => .cons r (Reps.take n t)
theorem Reps.drop : ∀ {vs : List V} {ds : List D} (n : Nat), Reps K F H vs ds → Reps K F H (vs.drop n) (ds.drop n)
  | _, _, 0, r => r
  | _, _, _ + 1, .nil => .nil
  | _, _, n + 1, .cons r t => Reps.drop n t
theorem Reps.set {x : V} {d : D} (r : Rep K F H x d) : ∀ {vs : List V} {ds : List D} (i : Nat), Reps K F H vs ds → Reps K F H (vs.set i x) (ds.set i d)
  | _, _, _, .nil => .nil
  | _, _, 0, .cons _ t => .cons r t
  | _, _, i + 1, .cons q t => .cons q (Reps.set r i t)
theorem Reps.snoc {vs : List V} {ds : List D} {v : V} {d : D} (h : Reps K F H vs ds) (r : Rep K F H v d) : Reps K F H (vs ++ [v]) (ds ++ [d]) := h.append (.cons r .nil)

structure Stp (F1 : Fp) (H : Hp) (F2 : Fp) (H' : Hp) : Prop where
  keep : ∀ b o, ¬ F1 b → H b = some o → H' b = some o
  new : ∀ b, F2 b → F1 b ∨ H b = none
abbrev Sm (F : Fp) (H H' : Hp) : Prop := ∀ b o, ¬ F b → H b = some o → H' b = some o
theorem Sm.refl (F : Fp) (H : Hp) : Sm F H H := fun _ _ _ e => e
theorem Sm.trans (a : Sm F H H1) (b : Sm F H1 H2) : Sm F H H2 := fun c o n e => b c o n (a c o n e)
theorem Sm.of_same (a : Same H H') : Sm F H H' := fun b o _ e => a b o e
theorem Sm.mono (a : Sm F H H') (h : ∀ b, F b → F' b) : Sm F' H H' := fun b o n e => a b o (fun z => n (h b z)) e
theorem Stp.refl (F : Fp) (H : Hp) : Stp F H F H := ⟨fun _ _ _ e => e, fun _ h => .inl h⟩
theorem Stp.trans {F3 : Fp} (a : Stp F1 H F2 H1) (b : Stp F2 H1 F3 H2) : Stp F1 H F3 H2 where
  keep := fun c o n e => b.keep c o (fun z => by rcases a.new c z with q | q; exact n q; rw [q] at e; cases e) (a.keep c o n e)
  new := fun c h => by
    rcases b.new c h with q | q
    · exact a.new c q
    · by_cases n : F1 c
      · exact .inl n
      · right
        cases e : H c with
        | none => rfl
        | some o => rw [a.keep c o n e] at q; cases q
theorem Stp.of_sm (a : Sm F H H') (h : ∀ b, F b → F1 b) : Stp F1 H F1 H' := ⟨fun b o n e => a b o (fun z => n (h b z)) e, fun _ z => .inl z⟩

theorem TupF.step {a : Addr} {xs : List V} (h : TupF K F1 H a xs) (s : Stp F1 H F2 H') : TupF K F2 H' a xs := by
  rcases h with ⟨n, h⟩ | h
  · refine .inl ⟨fun z => ?_, ?_⟩
    · rcases s.new a z with q | q
      · exact n q
      · rcases h with h | ⟨o, h⟩ <;> (rw [q] at h; cases h)
    · rcases h with h | ⟨o, h⟩
      · exact .inl (s.keep a _ n h)
      · exact .inr ⟨o, s.keep a _ n h⟩
  · exact .inr h
theorem LstF.step {a : Addr} {xs : List V} (h : LstF K F1 H a xs) (s : Stp F1 H F2 H') : LstF K F2 H' a xs := by
  obtain ⟨n, h⟩ := h
  refine ⟨fun z => ?_, ?_⟩
  · rcases s.new a z with q | q
    · exact n q
    · rcases h with h | ⟨o, h⟩ <;> (rw [q] at h; cases h)
  · rcases h with h | ⟨o, h⟩
    · exact .inl (s.keep a _ n h)
    · exact .inr ⟨o, s.keep a _ n h⟩
theorem ScrF.step {a : Addr} {xs : List V} (h : ScrF K F1 H a xs) (s : Stp F1 H F2 H') : ScrF K F2 H' a xs := by
  rcases h with h | h
  · exact .inl (LstF.step (K := K) h s)
  · exact .inr h
theorem nstep {a : Addr} {o : HO} (s : Stp F1 H F2 H') (n : ¬ F1 a) (e : H a = some o) : ¬ F2 a := fun z => by
  rcases s.new a z with q | q
  · exact n q
  · rw [q] at e; cases e
mutual
theorem Rep.step (s : Stp F1 H F2 H') : ∀ {v : V} {d : D}, Rep K F1 H v d → Rep K F2 H' v d
  | _, _, .non => .non
  | _, _, .bl b => .bl b
  | _, _, .int i => .int i
  | _, _, .str x => .str x
  | _, _, .tup h r => .tup (h.step s) (Reps.step s r)
  | _, _, .lst h r => .lst (h.step s) (Reps.step s r)
  | _, _, .dK n e r => .dK (nstep s n e) (s.keep _ _ n e) (Reps.step s r)
  | _, _, .dX n ne e ox kt r => .dX (nstep s n e) ne (s.keep _ _ n e) ox (fun p hp => (kt p hp).step s) (Reps.step s r)
  | _, _, .obj n e r => .obj (nstep s n e) (s.keep _ _ n e) (Reps.step s r)
  | _, _, .at a => .at a
  | _, _, .ty n => .ty n
  | _, _, .cls C => .cls C
  | _, _, .scr h => .scr (h.step s)
theorem Reps.step (s : Stp F1 H F2 H') : ∀ {vs : List V} {ds : List D}, Reps K F1 H vs ds → Reps K F2 H' vs ds
  | _, _, .nil => .nil
  | _, _, .cons r t => .cons (Rep.step s r) (Reps.step s t)
end
theorem Stp.less (h : ∀ b, F2 b → F1 b) : Stp F1 H F2 H := ⟨fun _ _ _ e => e, fun b z => .inl (h b z)⟩
theorem Rep.anti {v : V} {d : D} (r : Rep K F1 H v d) (h : ∀ b, F2 b → F1 b) : Rep K F2 H v d := Rep.step (Stp.less h) r
theorem Reps.anti {v : List V} {d : List D} (r : Reps K F1 H v d) (h : ∀ b, F2 b → F1 b) : Reps K F2 H v d := Reps.step (Stp.less h) r
theorem Rep.same {v : V} {d : D} (r : Rep K F H v d) (s : Sm F H H') : Rep K F H' v d := Rep.step ⟨s, fun _ z => .inl z⟩ r
theorem Reps.same {v : List V} {d : List D} (r : Reps K F H v d) (s : Sm F H H') : Reps K F H' v d := Reps.step ⟨s, fun _ z => .inl z⟩ r

inductive DOb (K : Fg) (F : Fp) (H : Hp) (a : Addr) : HO → List D → List D → Prop
  | k {kvs : List (Key × V)} {ds : List D} : Reps K F H (kvs.map (·.2)) ds → DOb K F H a (.dK kvs) (kvs.map fun p => keyD p.1) ds
  | x {o : Obj} {es : List EX} {ds : List D} : es ≠ [] → OX a o es → (∀ p ∈ es, TupF K F H p.2.1 (p.1.map V.int)) → Reps K F H (es.map (·.2.2)) ds → DOb K F H a (exo a o) (es.map fun p => .tup (p.1.map D.int)) ds
theorem DOb.step {u : HO} {a : Addr} {ks ds : List D} (s : Stp F1 H F2 H') (r : DOb K F1 H a u ks ds) : DOb K F2 H' a u ks ds := by
  cases r with
  | k r => exact .k (r.step s)
  | x n ox kt r => exact .x n ox (fun p hp => (kt p hp).step s) (r.step s)
theorem DOb.anti {u : HO} {a : Addr} {ks ds : List D} (r : DOb K F1 H a u ks ds) (h : ∀ b, F2 b → F1 b) : DOb K F2 H a u ks ds := r.step (Stp.less h)
theorem DOb.same {u : HO} {a : Addr} {ks ds : List D} (r : DOb K F H a u ks ds) (s : Sm F H H') : DOb K F H' a u ks ds := r.step ⟨s, fun _ z => .inl z⟩
theorem DOb.rep {u : HO} {ks ds : List D} {a : Addr} (r : DOb K F H a u ks ds) (n : ¬ F a) (e : H a = some u) : Rep K F H (.ref a) (.dct ks ds) := by
  cases r with
  | k r => exact .dK n e r
  | x ne ox kt r => exact .dX n ne e ox kt r
inductive RepW (K : Fg) (F0 F : Fp) (H : Hp) : V → D → Prop
  | of {v : V} {d : D} : Rep K F H v d → RepW K F0 F H v d
  | dct {a : Addr} {u : HO} {ks ds : List D} : ¬ F0 a → H a = some u → DOb K F H a u ks ds → RepW K F0 F H (.ref a) (.dct ks ds)
  | lst {a : Addr} {vs : List V} {ds : List D} : LstF K F0 H a vs → Reps K F H vs ds → RepW K F0 F H (.ref a) (.lst ds)
inductive RepsW (K : Fg) (F0 F : Fp) (H : Hp) : List V → List D → Prop
  | nil : RepsW K F0 F H [] []
  | cons {v : V} {vs : List V} {d : D} {ds : List D} : RepW K F0 F H v d → RepsW K F0 F H vs ds → RepsW K F0 F H (v :: vs) (d :: ds)
section
variable {F0 : Fp}
theorem RepW.lstOf {v : V} {ds : List D} (r : RepW K F0 F H v (.lst ds)) : ∃ a vs, v = .ref a ∧ LsR K H a vs ∧ Reps K F H vs ds := by
  cases r with
  | of r => cases r with | lst h r => exact ⟨_, _, rfl, h.ls, r⟩
  | lst h r => exact ⟨_, _, rfl, h.ls, r⟩
theorem RepW.tupOf {v : V} {ds : List D} (r : RepW K F0 F H v (.tup ds)) : ∃ a vs, v = .ref a ∧ TupF K F H a vs ∧ Reps K F H vs ds := by
  cases r with
  | of r => cases r with | tup h r => exact ⟨_, _, rfl, h, r⟩
theorem RepW.scrOf {v : V} {ns : List Int} (r : RepW K F0 F H v (.scr ns)) : ∃ a, v = .ref a ∧ ScrF K F H a (ns.map V.int) := by
  cases r with
  | of r => cases r with | scr h => exact ⟨_, rfl, h⟩
theorem RepW.intOf {v : V} {i : Int} (r : RepW K F0 F H v (.int i)) : v = .int i := by
  cases r with | of r => cases r; rfl
theorem RepW.blOf {v : V} {i : Bool} (r : RepW K F0 F H v (.bl i)) : v = .bl i := by
  cases r with | of r => cases r; rfl
theorem RepW.strOf {v : V} {i : Str} (r : RepW K F0 F H v (.str i)) : v = .str i := by
  cases r with | of r => cases r; rfl
theorem RepW.nonOf {v : V} (r : RepW K F0 F H v .non) : v = .non := by
  cases r with | of r => cases r; rfl
theorem RepW.same {v : V} {d : D} (r : RepW K F0 F H v d) (s : Sm F0 H H') (h : ∀ b, F0 b → F b) : RepW K F0 F H' v d := by
  cases r with
  | of r => exact .of (r.same (s.mono h))
  | lst q r => exact .lst (q.step ⟨s, fun _ z => .inl z⟩) (r.same (s.mono h))
  | dct n e r => exact .dct n (s _ _ n e) (r.same (s.mono h))
theorem RepsW.same : ∀ {v : List V} {d : List D}, RepsW K F0 F H v d → Sm F0 H H' → (∀ b, F0 b → F b) → RepsW K F0 F H' v d
  | _, _, .nil, _, _ => .nil
  | _, _, .cons r t, s, h => .cons (r.same s h) (RepsW.same t s h)
theorem Reps.weak : ∀ {v : List V} {d : List D}, Reps K F H v d → RepsW K F0 F H v d
  | _, _, .nil => .nil
  | _, _, .cons r t => .cons (.of r) (Reps.weak t)
theorem RepW.lend {v : V} {d : D} (r : RepW K F0 F H v d) (h : ∀ b, F0 b → F b) : Rep K F0 H v d := by
  cases r with
  | of r => exact r.anti h
  | lst q r => exact .lst q (Reps.anti r h)
  | dct n e r => exact (r.anti h).rep n e
theorem RepsW.lend : ∀ {v : List V} {d : List D}, RepsW K F0 F H v d → (∀ b, F0 b → F b) → Reps K F0 H v d
  | _, _, .nil, _ => .nil
  | _, _, .cons r t, h => .cons (r.lend h) (RepsW.lend t h)
theorem RepsW.one {vs : List V} {d : D} (r : RepsW K F0 F H vs [d]) : ∃ v, vs = [v] ∧ RepW K F0 F H v d := by
  cases r with | cons r t => cases t; exact ⟨_, rfl, r⟩
theorem RepsW.two {vs : List V} {d e : D} (r : RepsW K F0 F H vs [d, e]) : ∃ v w, vs = [v, w] ∧ RepW K F0 F H v d ∧ RepW K F0 F H w e := by
  cases r with | cons r t => cases t with | cons r2 t => cases t; exact ⟨_, _, rfl, r, r2⟩
end
end

abbrev Fds := Option (List Str × List D)
inductive Res (τ α : Type) where
  | ok (a : α) (t : τ) | ex (n : Str) (fs : Fds) (t : τ) | bad
def Res.bind {τ α β : Type} (r : Res τ α) (k : α → τ → Res τ β) : Res τ β := match r with
  | .ok a t => k a t
  | .ex n fs t => .ex n fs t
  | .bad => .bad
@[simp] theorem Res.bind_ok {τ α β : Type} (a : α) (t : τ) (k : α → τ → Res τ β) : (Res.ok a t).bind k = k a t := rfl
@[simp] theorem Res.bind_ex {τ α β : Type} (n : Str) (fs : Fds) (t : τ) (k : α → τ → Res τ β) : (Res.ex n fs t : Res τ α).bind k = .ex n fs t := rfl
@[simp] theorem Res.bind_bad {τ α β : Type} (k : α → τ → Res τ β) : (Res.bad : Res τ α).bind k = .bad := rfl
def opt {τ α : Type} (o : Option α) (t : τ) : Res τ α := match o with
  | some a => .ok a t
  | none => .bad
@[simp] theorem opt_some {τ α : Type} (a : α) (t : τ) : opt (some a) t = Res.ok a t := rfl
@[simp] theorem opt_none {τ α : Type} (t : τ) : (opt none t : Res τ α) = .bad := rfl

inductive Slot where
  | no | val (d : D) | own (xs : List D) | dct (ks xs : List D)
def Slot.mine : Slot → Bool
  | .own _ => true
  | .dct .. => true
  | _ => false
inductive OwnR (K : Fg) (F : Fp) (H : Hp) (a : Addr) : HO → Slot → Prop
  | lst {vs : List V} {xs : List D} : Reps K F H vs xs → OwnR K F H a (.lst vs) (.own xs)
  | dct {u : HO} {ks xs : List D} : DOb K F H a u ks xs → OwnR K F H a u (.dct ks xs)
theorem OwnR.step {K : Fg} {F1 F2 : Fp} {H H' : Hp} {a : Addr} {u : HO} {x : Slot} (r : OwnR K F1 H a u x) (s : Stp F1 H F2 H') : OwnR K F2 H' a u x := by
  cases r with
  | lst r => exact .lst (r.step s)
  | dct r => exact .dct (r.step s)
theorem OwnR.anti {K : Fg} {F1 F2 : Fp} {H : Hp} {a : Addr} {u : HO} {x : Slot} (r : OwnR K F1 H a u x) (h : ∀ b, F2 b → F1 b) : OwnR K F2 H a u x := r.step (Stp.less h)
theorem OwnR.same {K : Fg} {F : Fp} {H H' : Hp} {a : Addr} {u : HO} {x : Slot} (r : OwnR K F H a u x) (s : Sm F H H') : OwnR K F H' a u x := r.step ⟨s, fun _ z => .inl z⟩
abbrev Rho := List Slot
inductive Fl (τ : Type) where
  | nx (ρ : Rho) (t : τ) | rt (d : D) (t : τ) | bk (ρ : Rho) (t : τ) | ct (ρ : Rho) (t : τ) | ex (n : Str) (fs : Fds) (ρ : Rho) (t : τ) | bad

def XRep (K : Fg) (F : Fp) (H : Hp) (n : Str) (fs : Fds) (cls : Value) (dd : Option Addr) : Prop :=
  cls = .ref (He.ga K n) ∧ match fs with
    | none => dd = none
    | some (ns, ds) => ∃ a vs, dd = some a ∧ H a = some (.xd (ns.zip vs)) ∧ vs.length = ns.length ∧ Reps K F H vs ds
theorem XRep.anti {K : Fg} {F F' : Fp} {H : Hp} {n : Str} {fs : Fds} {cls : Value} {dd : Option Addr} (x : XRep K F H n fs cls dd) (h : ∀ b, F' b → F b) : XRep K F' H n fs cls dd := by
  obtain ⟨e, x⟩ := x
  refine ⟨e, ?_⟩
  cases fs with
  | none => exact x
  | some p =>
    obtain ⟨ns, ds⟩ := p
    obtain ⟨a, vs, h1, h2, h3, h4⟩ := x
    exact ⟨a, vs, h1, h2, h3, h4.anti h⟩

structure SC (τ : Type) where
  F : Fp
  Iv : τ → Fp → Hp → Prop
  dom : ∀ t G H b, Iv t G H → F b → H b ≠ none
  step : ∀ t G H G' H', Iv t G H → (∀ b o, F b → H b = some o → H' b = some o) → Stp G H G' H' → Iv t G' H'
theorem SC.stay {τ : Type} (C : SC τ) {t : τ} {G : Fp} {H H' : Hp} (i : C.Iv t G H) (s : Same H H') : C.Iv t G H' := C.step t G H G H' i (fun b o _ e => s b o e) ⟨fun b o _ e => s b o e, fun _ h => .inl h⟩
theorem SC.less {τ : Type} (C : SC τ) {t : τ} {G G' : Fp} {H : Hp} (i : C.Iv t G H) (h : ∀ b, G' b → G b) : C.Iv t G' H := C.step t G H G' H i (fun _ _ _ e => e) (Stp.less h)

def SC.cmp {τ : Type} (C : SC τ) (D0 : Addr) (u : HO) : SC τ where
  F := fun b => C.F b ∨ b = D0
  Iv := fun t G H => C.Iv t G H ∧ H D0 = some u
  dom := fun t G H b h1 h2 => by
    rcases h2 with h2 | h2
    · exact C.dom t G H b h1.1 h2
    · rw [h2, h1.2]; intro z; cases z
  step := fun t G H G' H' h1 h2 s => ⟨C.step t G H G' H' h1.1 (fun b o q e => h2 b o (.inl q) e) s, h2 _ _ (.inr rfl) h1.2⟩
def SC.ov {τ : Type} (C : SC τ) (F : Fp) (H1 : Hp) (hF : ∀ b, C.F b → F b) (dm : ∀ b, F b → H1 b ≠ none) : SC τ where
  F := F
  Iv := fun t G H' => C.Iv t G H' ∧ Stp F H1 G H' ∧ ∀ b o, F b → ¬ C.F b → H1 b = some o → H' b = some o
  dom := fun t G H' b h hb => by
    by_cases q : C.F b
    · exact C.dom t G H' b h.1 q
    · cases e : H1 b with
      | none => exact absurd e (dm b hb)
      | some o => rw [h.2.2 b o hb q e]; intro z; cases z
  step := fun t G H G' H' h1 h2 s => ⟨C.step t G H G' H' h1.1 (fun b o h e => h2 b o (hF b h) e) s, h1.2.1.trans s, fun b o hb n e => h2 b o hb (h1.2.2 b o hb n e)⟩
def SC.lend {τ : Type} (C : SC τ) (O : Fp) (H1 : Hp) (hO : ∀ b, O b → ¬ C.F b) (dm : ∀ b, O b → H1 b ≠ none) : SC τ where
  F := C.F
  Iv := fun t G H => C.Iv t (fun b => G b ∨ O b) H ∧ (∀ b, O b → ¬ G b) ∧ ∀ b o, O b → H1 b = some o → H b = some o
  dom := fun t G H b h hb => C.dom t _ H b h.1 hb
  step := fun t G H G' H' h1 h2 s => by
    have nn : ∀ b, O b → H b ≠ none := fun b hb => by
      cases e : H1 b with
      | none => exact absurd e (dm b hb)
      | some o => rw [h1.2.2 b o hb e]; intro z; cases z
    refine ⟨C.step t _ H _ H' h1.1 h2 ⟨fun b o n e => s.keep b o (fun z => n (.inl z)) e, fun b h => h.elim (fun z => (s.new b z).elim (fun z => .inl (.inl z)) .inr) fun z => .inl (.inr z)⟩, fun b hb hg => ?_, fun b o hb e => ?_⟩
    · rcases s.new b hg with q | q
      · exact h1.2.1 b hb q
      · exact nn b hb q
    · exact s.keep b o (h1.2.1 b hb) (h1.2.2 b o hb e)
class Sto (τ : Type) where
  ok : Fg → SC τ → Prop
  cmp : ∀ K C D0 u, ¬ C.F D0 → ok K C → ok K (SC.cmp C D0 u)
  ov : ∀ K C F H1 hF dm, ok K C → ok K (SC.ov C F H1 hF dm)
  lend : ∀ K C O H1 hO dm, ok K C → ok K (SC.lend C O H1 hO dm)
instance : Sto Unit := ⟨fun _ _ => True, fun _ _ _ _ _ _ => trivial, fun _ _ _ _ _ _ _ => trivial, fun _ _ _ _ _ _ _ => trivial⟩

def Fo (F : Fp) (ρ : Rho) (σ : St) : Fp := fun b => F b ∨ ∃ (i : Nat) (x : Slot), (ρ[i]? = some x ∧ x.mine = true) ∧ σ[i]? = some (some (.ref b))

structure At {τ : Type} [Sto τ] (K : Fg) (C : SC τ) (ρ : Rho) (t : τ) (σ : St) (H : Hp) : Prop where
  okC : Sto.ok K C
  st : C.Iv t (Fo C.F ρ σ) H
  len : σ.length = ρ.length
  val : ∀ (i : Nat) (d : D), ρ[i]? = some (.val d) → ∃ v, σ[i]? = some (some v) ∧ Rep K (Fo C.F ρ σ) H v d
  mine : ∀ (i : Nat) (x : Slot), (ρ[i]? = some x ∧ x.mine = true) → ∃ (a : Addr) (u : HO), σ[i]? = some (some (.ref a)) ∧ ¬ C.F a ∧ H a = some u ∧ OwnR K (Fo C.F ρ σ) H a u x
  dis : ∀ (i j : Nat) (x y : Slot), (ρ[i]? = some x ∧ x.mine = true) → (ρ[j]? = some y ∧ y.mine = true) → σ[i]? = σ[j]? → i = j

section
variable {τ : Type} [Sto τ] {K : Fg} {C : SC τ} {ρ : Rho} {t t' : τ} {σ : St} {H H' H1 : Hp}
theorem At.dom (A : At K C ρ t σ H) : ∀ b, Fo C.F ρ σ b → H b ≠ none := fun b h => by
  rcases h with h | ⟨i, xs, h1, h2⟩
  · exact C.dom _ _ _ _ A.st h
  · obtain ⟨a, vs, e, _, q, _⟩ := A.mine i xs h1
    rw [e] at h2
    cases h2
    rw [q]
    intro z; cases z
theorem At.own (A : At K C ρ t σ H) (i : Nat) (xs : List D) (e : ρ[i]? = some (.own xs)) : ∃ (a : Addr) (vs : List V), σ[i]? = some (some (.ref a)) ∧ ¬ C.F a ∧ H a = some (.lst vs) ∧ Reps K (Fo C.F ρ σ) H vs xs := by
  obtain ⟨a, u, h1, h2, h3, h4⟩ := A.mine i _ ⟨e, rfl⟩
  cases h4 with
  | lst r => exact ⟨a, _, h1, h2, h3, r⟩
theorem At.dct (A : At K C ρ t σ H) (i : Nat) (ks xs : List D) (e : ρ[i]? = some (.dct ks xs)) : ∃ (a : Addr) (u : HO), σ[i]? = some (some (.ref a)) ∧ ¬ C.F a ∧ H a = some u ∧ DOb K (Fo C.F ρ σ) H a u ks xs := by
  obtain ⟨a, u, h1, h2, h3, h4⟩ := A.mine i _ ⟨e, rfl⟩
  cases h4 with
  | dct r => exact ⟨a, _, h1, h2, h3, r⟩
theorem Fo.base {F : Fp} {b : Addr} (h : F b) : Fo F ρ σ b := .inl h
theorem At.next (A : At K C ρ t σ H) (s : Sm C.F H H') (i : C.Iv t' (Fo C.F ρ σ) H') : At K C ρ t' σ H' where
  okC := A.okC
  st := i
  len := A.len
  val := fun i d e => by
    obtain ⟨v, h1, h2⟩ := A.val i d e
    exact ⟨v, h1, h2.same (s.mono fun _ z => .inl z)⟩
  mine := fun i xs e => by
    obtain ⟨a, vs, h1, h2, h3, h4⟩ := A.mine i xs e
    exact ⟨a, vs, h1, h2, s _ _ h2 h3, h4.same (s.mono fun _ z => .inl z)⟩
  dis := A.dis
end

section
variable {τ : Type} [Sto τ] {α β : Type}
abbrev Rel (β α : Type) := Fg → (Fp → Hp → Prop) → Fp → Fp → Hp → Hp → β → α → Prop
structure RelOk (R : Rel β α) : Prop where
  base : ∀ K I F0 F H H1 H' v d, Sm F H H1 → R K I F0 F H1 H' v d → R K I F0 F H H' v d
def Post (R : Rel β α) (K : Fg) (W : WX) (C : SC τ) (F : Fp) (σ : St) (H : Hp) (r : Res τ α) (Q : β → Hp → Prop) : Prop := match r with
  | .ok d t' => ∀ v H', Sm C.F H H' → C.Iv t' F H' → R K (C.Iv t') C.F F H H' v d → Q v H'
  | .ex n fs t' => ∀ cls dd H', Sm C.F H H' → C.Iv t' F H' → XRep K F H' n fs cls dd → W cls dd σ H'
  | .bad => False
def tG (R : Rel β α) (K : Fg) (W : WX) (m : Rho → τ → Res τ α) : St → Hp → (β → Hp → Prop) → Prop := fun σ H Q =>
  ∃ (C : SC τ) (ρ : Rho) (t : τ), At K C ρ t σ H ∧ Post R K W C (Fo C.F ρ σ) σ H (m ρ t) Q
variable {R : Rel β α} {K : Fg} {W : WX} {C : SC τ} {F : Fp} {σ : St} {H H1 : Hp} {ρ : Rho} {t : τ} {Q Q' : β → Hp → Prop}
theorem Post.rebase (ok : RelOk R) {r : Res τ α} (h : Post R K W C F σ H r Q) (s : Sm C.F H H1) (hF : ∀ b, C.F b → F b) : Post R K W C F σ H1 r Q := by
  cases r with
  | ok d t' => exact fun v H' s' i r => h v H' (s.trans s') i (ok.base _ _ _ _ _ _ _ _ _ (s.mono hF) r)
  | ex n fs t' => exact fun cls dd H' s' i x => h cls dd H' (s.trans s') i x
  | bad => exact h
theorem use {γ δ : Type} {R2 : Rel δ γ} {ma : Rho → τ → Res τ α} {k : α → τ → Res τ γ} {Qd : δ → Hp → Prop} (ok2 : RelOk R2) (A : At K C ρ t σ H) (h : Post R2 K W C (Fo C.F ρ σ) σ H ((ma ρ t).bind k) Qd)
    (hk : ∀ d t1 v H1, ma ρ t = .ok d t1 → Sm C.F H H1 → At K C ρ t1 σ H1 → R K (C.Iv t1) C.F (Fo C.F ρ σ) H H1 v d → Post R2 K W C (Fo C.F ρ σ) σ H1 (k d t1) Qd → Q v H1) : tG R K W ma σ H Q := by
  refine ⟨C, ρ, t, A, ?_⟩
  cases e : ma ρ t with
  | ok d t1 =>
    rw [e] at h
    exact fun v H1 s i r => hk d t1 v H1 e s (A.next s i) r (Post.rebase ok2 h s fun _ z => .inl z)
  | ex n fs t1 =>
    rw [e] at h
    exact h
  | bad =>
    rw [e] at h
    exact h
end

def rE : Rel V D := fun K _ _ F _ H' v d => Rep K F H' v d
def rW : Rel V D := fun K _ F0 F _ H' v d => RepW K F0 F H' v d
def rB : Rel Bool Bool := fun _ _ _ _ _ _ v d => v = d
def rA : Rel (List V) (List D) := fun K _ _ F _ H' v d => Reps K F H' v d
def rAW : Rel (List V) (List D) := fun K _ F0 F _ H' v d => RepsW K F0 F H' v d
def rF : Rel V (List D) := fun K I _ F H H' v ds => ∃ a vs, v = .ref a ∧ ¬ F a ∧ H a = none ∧ H' a = some (.lst vs) ∧ Reps K (fun b => F b ∨ b = a) H' vs ds ∧ I (fun b => F b ∨ b = a) H'
theorem okE : RelOk rE := ⟨fun _ _ _ _ _ _ _ _ _ _ h => h⟩
theorem okB : RelOk rB := ⟨fun _ _ _ _ _ _ _ _ _ _ h => h⟩
theorem okA : RelOk rA := ⟨fun _ _ _ _ _ _ _ _ _ _ h => h⟩
theorem okAW : RelOk rAW := ⟨fun _ _ _ _ _ _ _ _ _ _ h => h⟩
theorem okF : RelOk rF := ⟨fun K I F0 F H H1 H' v d s h => by
  obtain ⟨a, vs, e, n, q, r⟩ := h
  refine ⟨a, vs, e, n, ?_, r⟩
  cases z : H a with
  | none => rfl
  | some o => rw [s a o n z] at q; cases q⟩
abbrev tE {τ : Type} [Sto τ] (K : Fg) (W : WX) (m : Rho → τ → Res τ D) : TE := tG rE K W m
abbrev tW {τ : Type} [Sto τ] (K : Fg) (W : WX) (m : Rho → τ → Res τ D) : TE := tG rW K W m
abbrev tF {τ : Type} [Sto τ] (K : Fg) (W : WX) (m : Rho → τ → Res τ (List D)) : TE := tG rF K W m
abbrev tT {τ : Type} [Sto τ] (K : Fg) (W : WX) (m : Rho → τ → Res τ Bool) : TT := tG rB K W m
abbrev tAW {τ : Type} [Sto τ] (K : Fg) (W : WX) (m : Rho → τ → Res τ (List D)) : TA := tG rAW K W m
abbrev tA {τ : Type} [Sto τ] (K : Fg) (W : WX) (m : Rho → τ → Res τ (List D)) : TA := tG rA K W m

theorem PE.imp {X : Cx} {e : Expr} {t t' : TE} (h : PE X e t) (i : ∀ σ H Q, t' σ H Q → t σ H Q) : PE X e t' := ⟨fun pins s σ H Q I q => h.run pins s σ H Q I (i σ H Q q)⟩
theorem PT.imp {X : Cx} {e : Expr} {t t' : TT} (h : PT X e t) (i : ∀ σ H Q, t' σ H Q → t σ H Q) : PT X e t' := ⟨fun pins s σ H Q I q => h.run pins s σ H Q I (i σ H Q q)⟩
theorem PA.imp {X : Cx} {e : List Expr} {t t' : TA} (h : PA X e t) (i : ∀ σ H Q, t' σ H Q → t σ H Q) : PA X e t' := ⟨fun pos pins s σ H Q I q => h.run pos pins s σ H Q I (i σ H Q q)⟩
theorem PW.imp {X : Cx} {e : Expr} {t t' : TT} (h : PW X e t) (i : ∀ σ H Q, t' σ H Q → t σ H Q) : PW X e t' := ⟨fun wh pins s σ H Q I q => h.run wh pins s σ H Q I (i σ H Q q)⟩
theorem PS.imp {X : Cx} {e : Stmt} {t t' : TS} (h : PS X e t) (i : ∀ D σ H, t' D σ H → t D σ H) : PS X e t' := ⟨fun pins s σ H D I q => h.run pins s σ H D I (i D σ H q)⟩
theorem PSs.imp {X : Cx} {e : List Stmt} {t t' : TS} (h : PSs X e t) (i : ∀ D σ H, t' D σ H → t D σ H) : PSs X e t' := ⟨fun pins s σ H D I q => h.run pins s σ H D I (i D σ H q)⟩

section
variable {τ : Type} [Sto τ]
def SPost (K : Fg) (W : WX) (C : SC τ) (F1 : Fp) (H : Hp) (r : Fl τ) (E : Ends) : Prop := match r with
  | .nx ρ' t' => ∀ σ' H', Stp F1 H (Fo C.F ρ' σ') H' → At K C ρ' t' σ' H' → E.nx σ' H'
  | .bk ρ' t' => ∀ σ' H', Stp F1 H (Fo C.F ρ' σ') H' → At K C ρ' t' σ' H' → E.bk σ' H'
  | .ct ρ' t' => ∀ σ' H', Stp F1 H (Fo C.F ρ' σ') H' → At K C ρ' t' σ' H' → E.ct σ' H'
  | .rt d t' => ∀ v H', Sm F1 H H' → C.Iv t' C.F H' → Rep K C.F H' v d → E.rt v H'
  | .ex n fs ρ' t' => ∀ cls dd σ' H', Stp F1 H (Fo C.F ρ' σ') H' → At K C ρ' t' σ' H' → XRep K (Fo C.F ρ' σ') H' n fs cls dd → W cls dd σ' H'
  | .bad => False
def tS (K : Fg) (W : WX) (m : Rho → τ → Fl τ) : TS := fun E σ H => ∃ (C : SC τ) (ρ : Rho) (t : τ), At K C ρ t σ H ∧ SPost K W C (Fo C.F ρ σ) H (m ρ t) E
variable {K : Fg} {W : WX} {C : SC τ} {F1 F2 : Fp} {H H1 : Hp}
theorem SPost.rebase {r : Fl τ} {E : Ends} (h : SPost K W C F1 H r E) (s : Stp F1 H F2 H1) : SPost K W C F2 H1 r E := by
  cases r with
  | nx ρ' t' => exact fun σ' H' s' a => h σ' H' (s.trans s') a
  | bk ρ' t' => exact fun σ' H' s' a => h σ' H' (s.trans s') a
  | ct ρ' t' => exact fun σ' H' s' a => h σ' H' (s.trans s') a
  | rt d t' => exact fun v H' s' i r => h v H' (fun b o n e => s' b o (fun z => by rcases s.new b z with q | q; exact n q; rw [q] at e; cases e) (s.keep b o n e)) i r
  | ex n fs ρ' t' => exact fun cls dd σ' H' s' a x => h cls dd σ' H' (s.trans s') a x
  | bad => exact h
end
end MM

namespace MM
open PySem PySem.Spec PyProof.Rows L2
section
variable {X : Cx} {W : WX} {τ : Type} [Sto τ] {K : Fg}
abbrev ME (τ α : Type) := Rho → τ → Res τ α

def eVar (i : Nat) : ME τ D := fun ρ t => match ρ[i]? with
  | some (.val d) => .ok d t
  | _ => .bad
theorem me_var {i : Nat} {e : Expr} (h : PE X e (tVar i)) : PE X e (tE X.K W (eVar (τ := τ) i)) := PE.imp h fun σ H Q ⟨C, ρ, t, A, p⟩ => by
  unfold eVar at p
  cases e : ρ[i]? with
  | none => rw [e] at p; exact p.elim
  | some s => cases s with
    | no => rw [e] at p; exact p.elim
    | own xs => rw [e] at p; exact p.elim
    | dct ks xs => rw [e] at p; exact p.elim
    | val d =>
      rw [e] at p
      obtain ⟨v, h1, h2⟩ := A.val i d e
      exact ⟨v, h1, p v H (Sm.refl _ _) A.st h2⟩
def eVarW (i : Nat) : ME τ D := fun ρ t => match ρ[i]? with
  | some (.val d) => .ok d t
  | some (.own xs) => .ok (.lst xs) t
  | some (.dct ks xs) => .ok (.dct ks xs) t
  | _ => .bad
theorem me_varW {i : Nat} {e : Expr} (h : PE X e (tVar i)) : PE X e (tW X.K W (eVarW (τ := τ) i)) := PE.imp h fun σ H Q ⟨C, ρ, t, A, p⟩ => by
  unfold eVarW at p
  cases e : ρ[i]? with
  | none => rw [e] at p; exact p.elim
  | some s => cases s with
    | no => rw [e] at p; exact p.elim
    | own xs =>
      rw [e] at p
      obtain ⟨a, vs, h1, h2, h3, h4⟩ := A.own i xs e
      exact ⟨.ref a, h1, p _ H (Sm.refl _ _) A.st (.lst ⟨h2, .inl h3⟩ h4)⟩
    | dct ks xs =>
      rw [e] at p
      obtain ⟨a, u, h1, h2, h3, h4⟩ := A.dct i ks xs e
      exact ⟨.ref a, h1, p _ H (Sm.refl _ _) A.st (.dct h2 h3 h4)⟩
    | val d =>
      rw [e] at p
      obtain ⟨v, h1, h2⟩ := A.val i d e
      exact ⟨v, h1, p v H (Sm.refl _ _) A.st (.of h2)⟩
theorem weak {e : Expr} {m : ME τ D} (h : PE X e (tE K W m)) : PE X e (tW K W m) := PE.imp h fun σ H Q ⟨C, ρ, t, A, p⟩ => by
  refine ⟨C, ρ, t, A, ?_⟩
  cases e : m ρ t with
  | ok d t' => rw [e] at p; exact fun v H' s i r => p v H' s i (.of r)
  | ex n fs t' => rw [e] at p; exact p
  | bad => rw [e] at p; exact p
def eC (d : D) : ME τ D := fun _ t => .ok d t
theorem me_c {e : Expr} {v : V} {d : D} (h : PE X e (tC v)) (r : ∀ F H, Rep X.K F H v d) : PE X e (tE X.K W (eC (τ := τ) d)) := PE.imp h fun σ H Q ⟨C, ρ, t, A, p⟩ => p v H (Sm.refl _ _) A.st (r _ _)
theorem me_int {i j pos} : PE X (.Constant (.int i) j pos) (tE X.K W (eC (τ := τ) (.int i))) := me_c pe_int fun _ _ => .int i
theorem me_bl {i j pos} : PE X (.Constant (.bool i) j pos) (tE X.K W (eC (τ := τ) (.bl i))) := me_c pe_bl fun _ _ => .bl i
theorem me_str {i j pos} : PE X (.Constant (.str i) j pos) (tE X.K W (eC (τ := τ) (.str i))) := me_c pe_str fun _ _ => .str i
theorem me_non {j pos} : PE X (.Constant .none j pos) (tE X.K W (eC (τ := τ) .non)) := me_c pe_non fun _ _ => .non

def e1 {α β : Type} (f : α → Option β) (a : ME τ α) : ME τ β := fun ρ t => (a ρ t).bind fun d t => opt (f d) t
def e2 {α β γ : Type} (f : α → β → Option γ) (a : ME τ α) (b : ME τ β) : ME τ γ := fun ρ t => (a ρ t).bind fun d t => (b ρ t).bind fun e t => opt (f d e) t
abbrev Dom (F : Fp) (H : Hp) : Prop := ∀ b, F b → H b ≠ none
def DOp2 (K : Fg) (r : R2) (f : D → D → Option D) : Prop := ∀ (F0 F : Fp) (H : Hp) (x y : V) (d e z : D) (Q : VK), Dom F H → RepW K F0 F H x d → RepW K F0 F H y e → f d e = some z →
  (∀ v H', Same H H' → Rep K F H' v z → Q v H') → r x y H Q
theorem run2 {a b : Expr} {r : R2} {f : D → D → Option D} {ma mb : ME τ D} {σ : L2.St} {H : Hp} {Q : VK} (hf : DOp2 K r f) (p : tE K W (e2 f ma mb) σ H Q) : tOp r (tW K W ma) (tW K W mb) σ H Q := by
  obtain ⟨C, ρ, t, A, p⟩ := p
  refine use okE A p fun d t1 v H1 e1 s1 A1 r1 p1 => ?_
  refine use okE A1 p1 fun d2 t2 v2 H2 e2 s2 A2 r2 p2 => ?_
  cases e : f d d2 with
  | none => rw [e] at p2; exact p2.elim
  | some z =>
    rw [e] at p2
    exact hf C.F _ H2 v v2 d d2 z Q A2.dom (r1.same s2 fun _ => Fo.base) r2 e fun v' H' sm rr => p2 v' H' (Sm.of_same sm) (C.stay A2.st sm) rr
theorem me_op2 {op : Operator} {a b : Expr} {r : R2} {f : D → D → Option D} {ma mb : ME τ D} {pos : Pos} (ho : OpR X (binaryOp op) r) (hf : DOp2 X.K r f) (ha : PE X a (tW X.K W ma)) (hb : PE X b (tW X.K W mb)) :
    PE X (.BinOp a op b pos) (tE X.K W (e2 f ma mb)) := PE.imp (pe_op ho ha hb) fun σ H Q p => run2 (a := a) (b := b) hf p
theorem me_cmp2 {op : CmpOp} {a b : Expr} {r : R2} {f : D → D → Option D} {ma mb : ME τ D} {pos : Pos} (ho : OpR X (compareOp op) r) (hf : DOp2 X.K r f) (ha : PE X a (tW X.K W ma)) (hb : PE X b (tW X.K W mb)) (hm : behindInMarks op b = false) :
    PE X (.Compare a [op] [b] pos) (tE X.K W (e2 f ma mb)) := PE.imp (pe_cmpR ho ha hb hm) fun σ H Q p => run2 (a := a) (b := b) hf p
theorem me_ix {a b : Expr} {r : R2} {f : D → D → Option D} {ma mb : ME τ D} {pos : Pos} (ho : IxR X r) (hf : DOp2 X.K r f) (ha : PE X a (tW X.K W ma)) (hb : PE X b (tW X.K W mb)) (hs : PlainIx b) :
    PE X (.Subscript a b pos) (tE X.K W (e2 f ma mb)) := PE.imp (pe_ix ho ha hb hs) fun σ H Q p => run2 (a := a) (b := b) hf p
def DOp1 (K : Fg) (r : V → Hp → VK → Prop) (f : D → Option D) : Prop := ∀ (F0 F : Fp) (H : Hp) (x : V) (d z : D) (Q : VK), Dom F H → RepW K F0 F H x d → f d = some z →
  (∀ v H', Same H H' → Rep K F H' v z → Q v H') → r x H Q
theorem me_un {op : UnaryOp} {a : Expr} {r : V → Hp → VK → Prop} {f : D → Option D} {ma : ME τ D} {pos : Pos} (ho : UnR X (unaryOp op) r) (hf : DOp1 X.K r f) (ha : PE X a (tW X.K W ma)) : PE X (.UnaryOp op a pos) (tE X.K W (e1 f ma)) :=
  PE.imp (pe_un ho ha) fun σ H Q ⟨C, ρ, t, A, p⟩ => by
    refine use okE A p fun d t1 v H1 e1 s1 A1 r1 p1 => ?_
    cases e : f d with
    | none => rw [e] at p1; exact p1.elim
    | some z =>
      rw [e] at p1
      exact hf C.F _ H1 v d z Q A1.dom r1 e fun v' H' sm rr => p1 v' H' (Sm.of_same sm) (C.stay A1.st sm) rr

def asB : D → Option Bool
  | .bl b => some b
  | _ => none
theorem mt_cmp2 {op : CmpOp} {a b : Expr} {r : R2} {f : D → D → Option D} {ma mb : ME τ D} {pos : Pos} (ho : OpR X (compareOp op) r) (hf : DOp2 X.K r f) (ha : PE X a (tW X.K W ma)) (hb : PE X b (tW X.K W mb)) (hm : behindInMarks op b = false) :
    PT X (.Compare a [op] [b] pos) (tT X.K W (e1 asB (e2 f ma mb))) := by
  refine PT.imp (pt_cmpR ho ha hb hm) fun σ H Q ⟨C, ρ, t, A, p⟩ => ?_
  refine run2 (a := a) (b := b) (K := X.K) (W := W) hf ?_
  refine use okB A p fun d t1 v H1 e1 s1 A1 r1 p1 => ?_
  cases d <;> first
    | exact p1.elim
    | (cases r1; exact ⟨_, rfl, p1 _ H1 (Sm.refl _ _) A1.st rfl⟩)
def tNot1 (a : ME τ Bool) : ME τ Bool := fun ρ t => (a ρ t).bind fun b t => .ok (!b) t
def tAnd2 (a b : ME τ Bool) : ME τ Bool := fun ρ t => (a ρ t).bind fun c t => if c = true then b ρ t else .ok false t
def tOr2 (a b : ME τ Bool) : ME τ Bool := fun ρ t => (a ρ t).bind fun c t => if c = true then .ok true t else b ρ t
theorem mt_not {a : Expr} {ma : ME τ Bool} {pos : Pos} (h : PT X a (tT X.K W ma)) : PT X (.UnaryOp .Not a pos) (tT X.K W (tNot1 ma)) := PT.imp (pt_not h) fun σ H Q ⟨C, ρ, t, A, p⟩ => by
  refine use okB A p fun d t1 v H1 e1 s1 A1 r1 p1 => ?_
  cases r1
  exact p1 _ H1 (Sm.refl _ _) A1.st rfl
theorem and_red {ta tb : ME τ Bool} {σ : L2.St} {H : Hp} {Q : Bool → Hp → Prop} (p : tT K W (tAnd2 ta tb) σ H Q) : tAnd (tT K W ta) (tT K W tb) σ H Q := by
  obtain ⟨C, ρ, t, A, p⟩ := p
  refine use okB A p fun d t1 v H1 e1 s1 A1 r1 p1 => ?_
  cases r1
  cases d with
  | true => exact ⟨C, ρ, t1, A1, p1⟩
  | false => exact p1 _ H1 (Sm.refl _ _) A1.st rfl
theorem or_red {ta tb : ME τ Bool} {σ : L2.St} {H : Hp} {Q : Bool → Hp → Prop} (p : tT K W (tOr2 ta tb) σ H Q) : tOr (tT K W ta) (tT K W tb) σ H Q := by
  obtain ⟨C, ρ, t, A, p⟩ := p
  refine use okB A p fun d t1 v H1 e1 s1 A1 r1 p1 => ?_
  cases r1
  cases d with
  | false => exact ⟨C, ρ, t1, A1, p1⟩
  | true => exact p1 _ H1 (Sm.refl _ _) A1.st rfl
theorem mw_and1 {a : Expr} {ma : ME τ Bool} {pos : Pos} (h : PT X a (tT X.K W ma)) : PW X (.BoolOp .And [a] pos) (tT X.K W ma) := pw_and1 h
theorem mw_or1 {a : Expr} {ma : ME τ Bool} {pos : Pos} (h : PT X a (tT X.K W ma)) : PW X (.BoolOp .Or [a] pos) (tT X.K W ma) := pw_or1 h
theorem mw_and {a b : Expr} {rest : List Expr} {ma mb : ME τ Bool} {pos : Pos} (h : PT X a (tT X.K W ma)) (h2 : PW X (.BoolOp .And (b :: rest) pos) (tT X.K W mb)) : PW X (.BoolOp .And (a :: b :: rest) pos) (tT X.K W (tAnd2 ma mb)) :=
  PW.imp (pw_and h h2) fun _ _ _ p => and_red p
theorem mw_or {a b : Expr} {rest : List Expr} {ma mb : ME τ Bool} {pos : Pos} (h : PT X a (tT X.K W ma)) (h2 : PW X (.BoolOp .Or (b :: rest) pos) (tT X.K W mb)) : PW X (.BoolOp .Or (a :: b :: rest) pos) (tT X.K W (tOr2 ma mb)) :=
  PW.imp (pw_or h h2) fun _ _ _ p => or_red p
def eAnd2 (a : ME τ D) (b : ME τ D) : ME τ D := fun ρ t => ((e1 asB a) ρ t).bind fun c t => if c = true then b ρ t else .ok (.bl false) t
def eNot1 (a : ME τ D) : ME τ D := fun ρ t => ((e1 asB a) ρ t).bind fun c t => .ok (.bl (!c)) t
theorem Res.bind_assoc {α β γ : Type} (r : Res τ α) (f : α → τ → Res τ β) (g : β → τ → Res τ γ) : (r.bind f).bind g = r.bind fun a t => (f a t).bind g := by cases r <;> rfl
theorem me_one {op : BoolOp} {a : Expr} {ma : ME τ D} {pos : Pos} (h : PE X a (tE X.K W ma)) : PE X (.BoolOp op [a] pos) (tE X.K W ma) := pe_one h
theorem me_and {a b : Expr} {rest : List Expr} {ma mb : ME τ D} {pos : Pos} (h : PE X a (tE X.K W ma)) (h2 : PE X (.BoolOp .And (b :: rest) pos) (tE X.K W mb)) : PE X (.BoolOp .And (a :: b :: rest) pos) (tE X.K W (eAnd2 ma mb)) :=
  PE.imp (pe_and h h2) fun σ H Q ⟨C, ρ, t, A, p⟩ => by
    unfold eAnd2 MM.e1 at p
    rw [Res.bind_assoc] at p
    refine use okE A p fun d t1 v H1 e1 s1 A1 r1 p1 => ?_
    cases d <;> first
      | exact p1.elim
      | skip
    rename_i c
    cases r1
    refine ⟨c, rfl, ?_⟩
    cases c with
    | true => exact ⟨C, ρ, t1, A1, p1⟩
    | false => exact p1 _ H1 (Sm.refl _ _) A1.st (.bl false)
theorem me_not {a : Expr} {ma : ME τ D} {pos : Pos} (h : PE X a (tE X.K W ma)) : PE X (.UnaryOp .Not a pos) (tE X.K W (eNot1 ma)) :=
  PE.imp (pe_not h) fun σ H Q ⟨C, ρ, t, A, p⟩ => by
    unfold eNot1 MM.e1 at p
    rw [Res.bind_assoc] at p
    refine use okE A p fun d t1 v H1 e1 s1 A1 r1 p1 => ?_
    cases d <;> first
      | exact p1.elim
      | skip
    rename_i c
    cases r1
    exact ⟨c, rfl, p1 _ H1 (Sm.refl _ _) A1.st (.bl _)⟩
def aNil {α : Type} : ME τ (List α) := fun _ t => .ok [] t
def aCons {α : Type} (a : ME τ α) (b : ME τ (List α)) : ME τ (List α) := fun ρ t => (a ρ t).bind fun d t => (b ρ t).bind fun ds t => .ok (d :: ds) t
theorem ma_nil : PA X [] (tA X.K W (aNil (τ := τ))) := PA.imp pa_nil fun σ H Q ⟨C, ρ, t, A, p⟩ => p [] H (Sm.refl _ _) A.st .nil
theorem ma_cons {e : Expr} {es : List Expr} {m : ME τ D} {ms : ME τ (List D)} (h : PE X e (tE X.K W m)) (hs : PA X es (tA X.K W ms)) (hst : starEach (e :: es) X.env = (false, eval e X.env) :: starEach es X.env := by rfl) : PA X (e :: es) (tA X.K W (aCons m ms)) :=
  PA.imp (pa_cons h hs hst) fun σ H Q ⟨C, ρ, t, A, p⟩ => by
    refine use okA A p fun d t1 v H1 e1 s1 A1 r1 p1 => ?_
    refine use okA A1 p1 fun d2 t2 v2 H2 e2 s2 A2 r2 p2 => ?_
    exact p2 _ H2 (Sm.refl _ _) A2.st (.cons (r1.same (s2.mono fun _ => Fo.base)) r2)
theorem maw_nil : PA X [] (tAW X.K W (aNil (τ := τ))) := PA.imp pa_nil fun σ H Q ⟨C, ρ, t, A, p⟩ => p [] H (Sm.refl _ _) A.st .nil
theorem maw_cons {e : Expr} {es : List Expr} {m : ME τ D} {ms : ME τ (List D)} (h : PE X e (tW X.K W m)) (hs : PA X es (tAW X.K W ms)) (hst : starEach (e :: es) X.env = (false, eval e X.env) :: starEach es X.env := by rfl) : PA X (e :: es) (tAW X.K W (aCons m ms)) :=
  PA.imp (pa_cons h hs hst) fun σ H Q ⟨C, ρ, t, A, p⟩ => by
    refine use okAW A p fun d t1 v H1 e1 s1 A1 r1 p1 => ?_
    refine use okAW A1 p1 fun d2 t2 v2 H2 e2 s2 A2 r2 p2 => ?_
    exact p2 _ H2 (Sm.refl _ _) A2.st (.cons (r1.same s2 fun _ => Fo.base) r2)
def lim {α : Type} (ds : List α) : Option (List α) := if ds.length ≤ 16777216 then some ds else none
theorem lim_le {α : Type} {ds es : List α} (h : lim ds = some es) : es = ds ∧ ds.length ≤ sizeLine := by
  unfold lim at h
  split at h
  · cases h; exact ⟨rfl, by assumption⟩
  · cases h
def eTup (a : ME τ (List D)) : ME τ D := e1 (fun ds => (lim ds).map D.tup) a
theorem Rep.newTup {F : Fp} {H : Hp} {vs : List V} {ds : List D} {p : Addr} (r : Reps K F H vs ds) (dm : Dom F H) (np : H p = none) : Rep K F (upd H p (.tup vs)) (.ref p) (.tup ds) :=
  .tup (.inl ⟨fun z => dm p z np, .inl upd_same⟩) (r.same fun b o _ e => by rw [upd_ne (ne_of_none e np)]; exact e)
theorem Rep.newLst {F : Fp} {H : Hp} {vs : List V} {ds : List D} {p : Addr} (r : Reps K F H vs ds) (dm : Dom F H) (np : H p = none) : Rep K F (upd H p (.lst vs)) (.ref p) (.lst ds) :=
    .lst ⟨fun z => dm p z np, .inl upd_same⟩ (r.same fun b o _ e => by rw [upd_ne (ne_of_none e np)]; exact e)
theorem same_upd {H : Hp} {p : Addr} {o : HO} (h : H p = none) : Same H (upd H p o) := fun b x e => by
  rw [upd_ne (ne_of_none e h)]
  exact e
theorem me_tup {es : List Expr} {x1} {pos : Pos} {ms : ME τ (List D)} (h : PA X es (tA X.K W ms)) : PE X (.Tuple es x1 pos) (tE X.K W (eTup ms)) := PE.imp (pe_tup h) fun σ H Q ⟨C, ρ, t, A, p⟩ => by
  refine use okE A p fun d t1 v H1 e1 s1 A1 r1 p1 => ?_
  dsimp only at p1
  cases e : lim d with
  | none => rw [e] at p1; exact p1.elim
  | some z =>
    rw [e] at p1
    obtain ⟨rfl, hz⟩ := lim_le e
    exact ⟨by rw [r1.length]; exact hz, fun a na => p1 _ _ (Sm.of_same (same_upd na)) (C.stay A1.st (same_upd na)) (Rep.newTup r1 A1.dom na)⟩
theorem mf_lst {es : List Expr} {pos : Pos} {ms : ME τ (List D)} (h : PA X es (tA X.K W ms)) : PE X (.List es pos) (tF X.K W (e1 lim ms)) := PE.imp (pe_lst h) fun σ H Q ⟨C, ρ, t, A, p⟩ => by
  refine use okF A p fun d t1 v H1 e1 s1 A1 r1 p1 => ?_
  cases e : lim d with
  | none => rw [e] at p1; exact p1.elim
  | some z =>
    rw [e] at p1
    obtain ⟨rfl, hz⟩ := lim_le e
    refine ⟨by rw [r1.length]; exact hz, fun a na => p1 _ _ (Sm.of_same (same_upd na)) (C.stay A1.st (same_upd na)) ⟨a, v, rfl, fun z => A1.dom a z na, na, upd_same, ?_⟩⟩
    have sp : Stp (Fo C.F ρ σ) H1 (fun b => Fo C.F ρ σ b ∨ b = a) (upd H1 a (.lst v)) := ⟨fun b o _ e => by rw [upd_ne (ne_of_none e na)]; exact e, fun b h => h.elim .inl fun e => .inr (by rw [e]; exact na)⟩
    exact ⟨Reps.step sp r1, C.step _ _ _ _ _ A1.st (fun b o _ e => by rw [upd_ne (ne_of_none e na)]; exact e) sp⟩
def eLst (a : ME τ (List D)) : ME τ D := fun ρ t => (a ρ t).bind fun ds t => .ok (.lst ds) t
theorem me_new {e : Expr} {m : ME τ (List D)} (h : PE X e (tF K W m)) : PE X e (tE K W (eLst m)) := PE.imp h fun σ H Q ⟨C, ρ, t, A, p⟩ => by
  refine ⟨C, ρ, t, A, ?_⟩
  unfold eLst at p
  cases e : m ρ t with
  | ok d t' =>
    rw [e] at p
    intro v H' s i r
    obtain ⟨a, vs, rfl, n, q, l, r, _⟩ := r
    exact p _ H' s i (.lst ⟨n, .inl l⟩ (r.anti fun _ => .inl))
  | ex n fs t' => rw [e] at p; exact p
  | bad => rw [e] at p; exact p

def DCall (K : Fg) (r : List V → Hp → VK → Prop) (f : List D → Option D) : Prop := ∀ (F0 F : Fp) (H : Hp) (xs : List V) (ds : List D) (z : D) (Q : VK), Dom F H → RepsW K F0 F H xs ds → f ds = some z →
  (∀ v H', Same H H' → Rep K F H' v z → Q v H') → r xs H Q
theorem runC {r : List V → Hp → VK → Prop} {f : List D → Option D} {ms : ME τ (List D)} {σ : L2.St} {H : Hp} {Q : VK} (hf : DCall K r f) (p : tE K W (MM.e1 f ms) σ H Q) : tCB r (tAW K W ms) σ H Q := by
  obtain ⟨C, ρ, t, A, p⟩ := p
  refine use okE A p fun d t1 v H1 e1 s1 A1 r1 p1 => ?_
  cases e : f d with
  | none => rw [e] at p1; exact p1.elim
  | some z =>
    rw [e] at p1
    exact hf C.F _ H1 v d z Q A1.dom r1 e fun v' H' sm rr => p1 v' H' (Sm.of_same sm) (C.stay A1.st sm) rr
theorem me_callB {id : String} {x : Str} {e : Expr} {es : List Expr} {p pos : Pos} {r : List V → Hp → VK → Prop} {f : List D → Option D} {ms : ME τ (List D)} (hc : CallR X (.builtin id) r) (hf : DCall X.K r f) (hg : Gl X x) (hm : X.mg x = none) (hv : bootBuiltins x = some (.builtin id))
    (ha : PA X (e :: es) (tAW X.K W ms)) (hn : x ≠ "__name__" := by decide) (hdb : (x == ("__debug__" : Str)) = false := by decide)
    (he : starEach (e :: es) X.env = (false, eval e X.env) :: starEach es X.env := by rfl) (hpl : (backTo pos (starEach es X.env)).any (·.1) = false := by rfl) :
    PE X (.Call (.Name x p) (e :: es) [] pos) (tE X.K W (MM.e1 f ms)) := PE.imp (pe_callB hc hg hm hv ha hn hdb he hpl) fun σ H Q p => runC hf p
theorem me_callTy {id : String} {x : Str} {e : Expr} {es : List Expr} {p pos : Pos} {r : List V → Hp → VK → Prop} {f : List D → Option D} {ms : ME τ (List D)} (hc : CallR X (.type id) r) (hf : DCall X.K r f) (hg : Gl X x) (hm : X.mg x = none) (hv : bootBuiltins x = some (.type id))
    (ha : PA X (e :: es) (tAW X.K W ms)) (hn : x ≠ "__name__" := by decide) (hdb : (x == ("__debug__" : Str)) = false := by decide)
    (he : starEach (e :: es) X.env = (false, eval e X.env) :: starEach es X.env := by rfl) (hpl : (backTo pos (starEach es X.env)).any (·.1) = false := by rfl) :
    PE X (.Call (.Name x p) (e :: es) [] pos) (tE X.K W (MM.e1 f ms)) := PE.imp (pe_callTy hc hg hm hv ha hn hdb he hpl) fun σ H Q p => runC hf p
end
end MM

namespace MM
open PySem PySem.Spec PyProof.Rows L2
abbrev MS (τ : Type) := Rho → τ → Fl τ
abbrev Tgt := Rho → D → Option Rho
abbrev Tgts := Rho → List D → Option Rho

section
variable {τ : Type} [Sto τ] {K : Fg} {C : SC τ} {ρ : Rho} {t t' : τ} {σ : St} {H H' H1 : Hp}
theorem set_at {α : Type} {l : List α} {i j : Nat} {x y : α} (h : (l.set i x)[j]? = some y) : (i = j ∧ y = x ∧ i < l.length) ∨ (i ≠ j ∧ l[j]? = some y) := by
  by_cases e : i = j
  · subst e
    by_cases q : i < l.length
    · rw [List.getElem?_set_self q] at h
      exact .inl ⟨rfl, (Option.some.inj h).symm, q⟩
    · rw [List.getElem?_eq_none (by simpa using q)] at h
      cases h
  · rw [List.getElem?_set_ne e] at h
    exact .inr ⟨e, h⟩
theorem Fo.setVal {F : Fp} {i : Nat} {d : D} {v : Option V} {b : Addr} (h : Fo F (ρ.set i (.val d)) (σ.set i v) b) : Fo F ρ σ b := by
  rcases h with h | ⟨j, xs, ⟨h1, hm⟩, h2⟩
  · exact .inl h
  · rcases set_at h1 with ⟨_, e, _⟩ | ⟨ne, h1⟩
    · cases e; cases hm
    · rw [List.getElem?_set_ne ne] at h2
      exact .inr ⟨j, xs, ⟨h1, hm⟩, h2⟩
theorem At.setVal {i : Nat} {v : V} {d : D} (A : At K C ρ t σ H) (r : Rep K (Fo C.F ρ σ) H v d) : At K C (ρ.set i (.val d)) t (σ.set i (some v)) H where
  okC := A.okC
  st := C.less A.st fun _ => Fo.setVal
  len := by simp [A.len]
  val := fun j e h => by
    rcases set_at h with ⟨rfl, e1, hl⟩ | ⟨ne, h⟩
    · cases e1
      refine ⟨v, ?_, r.anti fun _ => Fo.setVal⟩
      rw [List.getElem?_set_self (by rw [A.len]; exact hl)]
    · obtain ⟨w, h1, h2⟩ := A.val j e h
      exact ⟨w, by rw [List.getElem?_set_ne ne]; exact h1, h2.anti fun _ => Fo.setVal⟩
  mine := fun j xs hh => by
    obtain ⟨h, hm⟩ := hh
    rcases set_at h with ⟨rfl, e1, hl⟩ | ⟨ne, h⟩
    · cases e1; cases hm
    · obtain ⟨a, vs, h1, h2, h3, h4⟩ := A.mine j xs ⟨h, hm⟩
      exact ⟨a, vs, by rw [List.getElem?_set_ne ne]; exact h1, h2, h3, h4.anti fun _ => Fo.setVal⟩
  dis := fun j k xs ys hh1 hh2 e => by
    obtain ⟨h1, m1⟩ := hh1
    obtain ⟨h2, m2⟩ := hh2
    rcases set_at h1 with ⟨_, e1, _⟩ | ⟨n1, h1⟩
    · cases e1; cases m1
    · rcases set_at h2 with ⟨_, e2, _⟩ | ⟨n2, h2⟩
      · cases e2; cases m2
      · rw [List.getElem?_set_ne n1, List.getElem?_set_ne n2] at e
        exact A.dis j k xs ys ⟨h1, m1⟩ ⟨h2, m2⟩ e
theorem Stp.setVal {i : Nat} {v : Option V} {d : D} {F : Fp} : Stp (Fo F ρ σ) H (Fo F (ρ.set i (.val d)) (σ.set i v)) H := Stp.less fun _ => Fo.setVal
theorem Fo.setMine {F : Fp} {i : Nat} {x : Slot} {a b : Addr} (h : Fo F (ρ.set i x) (σ.set i (some (.ref a))) b) : Fo F ρ σ b ∨ b = a := by
  rcases h with h | ⟨j, ys, ⟨h1, hm⟩, h2⟩
  · exact .inl (.inl h)
  · rcases set_at h1 with ⟨rfl, e, _⟩ | ⟨ne, h1⟩
    · rcases set_at h2 with ⟨_, e2, _⟩ | ⟨ne, _⟩
      · cases e2; exact .inr rfl
      · exact absurd rfl ne
    · rw [List.getElem?_set_ne ne] at h2
      exact .inl (.inr ⟨j, ys, ⟨h1, hm⟩, h2⟩)
theorem Fo.setOwn {F : Fp} {i : Nat} {xs : List D} {a b : Addr} (h : Fo F (ρ.set i (.own xs)) (σ.set i (some (.ref a))) b) : Fo F ρ σ b ∨ b = a := Fo.setMine h
theorem At.setMine {i : Nat} {a : Addr} {u : HO} {x : Slot} (hx : x.mine = true) (A0 : At K C ρ t σ H) (s : Sm C.F H H') (iv : C.Iv t' (fun b => Fo C.F ρ σ b ∨ b = a) H') (nF : ¬ Fo C.F ρ σ a) (na : H a = none) (l : H' a = some u) (r : OwnR K (fun b => Fo C.F ρ σ b ∨ b = a) H' a u x) :
    At K C (ρ.set i x) t' (σ.set i (some (.ref a))) H' ∧ Stp (Fo C.F ρ σ) H (Fo C.F (ρ.set i x) (σ.set i (some (.ref a)))) H' := by
  have A := A0.next s (C.less iv fun _ => .inl)
  have sp : Stp (Fo C.F ρ σ) H (Fo C.F (ρ.set i x) (σ.set i (some (.ref a)))) H' := ⟨fun b o n e => s b o (fun z => n (.inl z)) e, fun b h => (Fo.setMine h).elim .inl fun e => .inr (by rw [e]; exact na)⟩
  have iv' : C.Iv t' (Fo C.F (ρ.set i x) (σ.set i (some (.ref a)))) H' := C.less iv fun _ => Fo.setMine
  refine ⟨⟨A.okC, iv', by simp [A.len], fun j e h => ?_, fun j xs hh => ?_, fun j k xs ys hh1 hh2 e => ?_⟩, sp⟩
  · rcases set_at h with ⟨_, e1, _⟩ | ⟨ne, h⟩
    · rw [← e1] at hx; cases hx
    · obtain ⟨w, h1, h2⟩ := A0.val j e h
      exact ⟨w, by rw [List.getElem?_set_ne ne]; exact h1, h2.step sp⟩
  · obtain ⟨h, hm⟩ := hh
    rcases set_at h with ⟨rfl, e1, hl⟩ | ⟨ne, h⟩
    · subst e1
      exact ⟨a, u, by rw [List.getElem?_set_self (by rw [A.len]; exact hl)], fun z => nF (.inl z), l, r.anti fun _ => Fo.setMine⟩
    · obtain ⟨b, ws, h1, h2, h3, h4⟩ := A0.mine j xs ⟨h, hm⟩
      exact ⟨b, ws, by rw [List.getElem?_set_ne ne]; exact h1, h2, s b _ h2 h3, h4.step sp⟩
  · obtain ⟨h1, m1⟩ := hh1
    obtain ⟨h2, m2⟩ := hh2
    have other : ∀ {m : Nat} {z : Slot}, ρ[m]? = some z → z.mine = true → σ[m]? ≠ some (some (.ref a)) := fun {m zs} h hm z => nF (.inr ⟨m, zs, ⟨h, hm⟩, z⟩)
    rcases set_at h1 with ⟨rfl, e1, l1⟩ | ⟨n1, h1⟩
    · rcases set_at h2 with ⟨rfl, e2, _⟩ | ⟨n2, h2⟩
      · rfl
      · rw [List.getElem?_set_self (by rw [A.len]; exact l1), List.getElem?_set_ne n2] at e
        exact absurd e.symm (other h2 m2)
    · rcases set_at h2 with ⟨rfl, e2, l2⟩ | ⟨n2, h2⟩
      · rw [List.getElem?_set_self (by rw [A.len]; exact l2), List.getElem?_set_ne n1] at e
        exact absurd e (other h1 m1)
      · rw [List.getElem?_set_ne n1, List.getElem?_set_ne n2] at e
        exact A.dis j k xs ys ⟨h1, m1⟩ ⟨h2, m2⟩ e
theorem At.setOwn {i : Nat} {a : Addr} {vs : List V} {ds : List D} (A0 : At K C ρ t σ H) (s : Sm C.F H H') (iv : C.Iv t' (fun b => Fo C.F ρ σ b ∨ b = a) H') (nF : ¬ Fo C.F ρ σ a) (na : H a = none) (l : H' a = some (.lst vs)) (r : Reps K (fun b => Fo C.F ρ σ b ∨ b = a) H' vs ds) :
    At K C (ρ.set i (.own ds)) t' (σ.set i (some (.ref a))) H' ∧ Stp (Fo C.F ρ σ) H (Fo C.F (ρ.set i (.own ds)) (σ.set i (some (.ref a)))) H' := At.setMine rfl A0 s iv nF na l (.lst r)
theorem Fo.reMine {F : Fp} {i : Nat} {x y : Slot} (h0 : ρ[i]? = some x ∧ x.mine = true) (hy : y.mine = true) {b : Addr} : Fo F (ρ.set i y) σ b ↔ Fo F ρ σ b := by
  constructor
  · rintro (h | ⟨j, zs, ⟨h1, hm⟩, h2⟩)
    · exact .inl h
    · rcases set_at h1 with ⟨rfl, _, _⟩ | ⟨_, h1⟩
      · exact .inr ⟨_, x, h0, h2⟩
      · exact .inr ⟨j, zs, ⟨h1, hm⟩, h2⟩
  · rintro (h | ⟨j, zs, ⟨h1, hm⟩, h2⟩)
    · exact .inl h
    · by_cases e : i = j
      · subst e
        exact .inr ⟨i, y, ⟨by rw [List.getElem?_set_self (List.getElem?_eq_some_iff.mp h0.1).1], hy⟩, h2⟩
      · exact .inr ⟨j, zs, ⟨by rw [List.getElem?_set_ne e]; exact h1, hm⟩, h2⟩
theorem Fo.reOwn {F : Fp} {i : Nat} {xs ys : List D} (h0 : ρ[i]? = some (.own xs)) {b : Addr} : Fo F (ρ.set i (.own ys)) σ b ↔ Fo F ρ σ b := Fo.reMine ⟨h0, rfl⟩ rfl
theorem At.reMine {i : Nat} {a : Addr} {u : HO} {x y : Slot} (A : At K C ρ t σ H) (h0 : ρ[i]? = some x ∧ x.mine = true) (hy : y.mine = true) (hs : σ[i]? = some (some (.ref a))) (r : OwnR K (Fo C.F ρ σ) H a u y) :
    At K C (ρ.set i y) t σ (upd H a u) ∧ Stp (Fo C.F ρ σ) H (Fo C.F (ρ.set i y) σ) (upd H a u) := by
  obtain ⟨a', vs', hs', nF, ha, _⟩ := A.mine i x h0
  rw [hs] at hs'; cases hs'
  have fa : Fo C.F ρ σ a := .inr ⟨i, x, h0, hs⟩
  have sp : Stp (Fo C.F ρ σ) H (Fo C.F (ρ.set i y) σ) (upd H a u) := ⟨fun b o n e => by rw [upd_ne (fun z => n (by rw [z]; exact fa))]; exact e, fun b h => .inl ((Fo.reMine h0 hy).mp h)⟩
  have iv : C.Iv t (Fo C.F (ρ.set i y) σ) (upd H a u) := C.step _ _ _ _ _ A.st (fun b o h e => by rw [upd_ne (fun z => nF (by rw [← z]; exact h))]; exact e) sp
  refine ⟨⟨A.okC, iv, by simp [A.len], fun j e h => ?_, fun j zs hh => ?_, fun j k zs us hh1 hh2 e => ?_⟩, sp⟩
  · rcases set_at h with ⟨_, e1, _⟩ | ⟨ne, h⟩
    · rw [← e1] at hy; cases hy
    · obtain ⟨w, h1, h2⟩ := A.val j e h
      exact ⟨w, h1, h2.step sp⟩
  · obtain ⟨h, hm⟩ := hh
    rcases set_at h with ⟨rfl, e1, hl⟩ | ⟨ne, h⟩
    · subst e1
      exact ⟨a, u, hs, nF, upd_same, r.step sp⟩
    · obtain ⟨b, us, h1, h2, h3, h4⟩ := A.mine j zs ⟨h, hm⟩
      have nb : b ≠ a := fun z => ne (A.dis i j x zs h0 ⟨h, hm⟩ (by rw [hs, h1, z]))
      exact ⟨b, us, h1, h2, by rw [upd_ne nb]; exact h3, h4.step sp⟩
  · have tr : ∀ {m : Nat} {z : Slot}, ((ρ.set i y)[m]? = some z ∧ z.mine = true) → ∃ us, (ρ[m]? = some us ∧ us.mine = true) := fun {m zs} hh => by
      obtain ⟨h, hm⟩ := hh
      rcases set_at h with ⟨rfl, _, _⟩ | ⟨_, h⟩
      · exact ⟨_, h0⟩
      · exact ⟨_, h, hm⟩
    obtain ⟨u1, g1⟩ := tr hh1
    obtain ⟨u2, g2⟩ := tr hh2
    exact A.dis j k u1 u2 g1 g2 e
theorem At.reOwn {i : Nat} {a : Addr} {ws : List V} {xs ys : List D} (A : At K C ρ t σ H) (h0 : ρ[i]? = some (.own xs)) (hs : σ[i]? = some (some (.ref a))) (r : Reps K (Fo C.F ρ σ) H ws ys) :
    At K C (ρ.set i (.own ys)) t σ (upd H a (.lst ws)) ∧ Stp (Fo C.F ρ σ) H (Fo C.F (ρ.set i (.own ys)) σ) (upd H a (.lst ws)) := A.reMine ⟨h0, rfl⟩ rfl hs (.lst r)
end
end MM

namespace MM
open PySem PySem.Spec PyProof.Rows L2
section
variable {X : Cx} {W : WX} {τ : Type} [Sto τ] {K : Fg}
def sDo {α : Type} (m : ME τ α) (k : α → Rho → τ → Fl τ) : MS τ := fun ρ t => match m ρ t with
  | .ok d t' => k d ρ t'
  | .ex n fs t' => .ex n fs ρ t'
  | .bad => .bad
theorem useS {α β : Type} {R : Rel β α} {C : SC τ} {ρ : Rho} {t : τ} {σ : St} {H : Hp} {ma : ME τ α} {k : α → Rho → τ → Fl τ} {E : Ends} {Q : β → Hp → Prop} (A : At K C ρ t σ H) (h : SPost K W C (Fo C.F ρ σ) H (sDo ma k ρ t) E)
    (hk : ∀ d t1 v H1, ma ρ t = .ok d t1 → Sm C.F H H1 → At K C ρ t1 σ H1 → R K (C.Iv t1) C.F (Fo C.F ρ σ) H H1 v d → SPost K W C (Fo C.F ρ σ) H1 (k d ρ t1) E → Q v H1) : tG R K W ma σ H Q := by
  refine ⟨C, ρ, t, A, ?_⟩
  unfold sDo at h
  cases e : ma ρ t with
  | ok d t1 =>
    rw [e] at h
    exact fun v H1 s i r => hk d t1 v H1 e s (A.next s i) r (SPost.rebase h (Stp.of_sm s fun _ => .inl))
  | ex n fs t1 =>
    rw [e] at h
    exact fun cls dd H' s i x => h cls dd σ H' (Stp.of_sm s fun _ => .inl) (A.next s i) x
  | bad =>
    rw [e] at h
    exact h

def tTg (τ : Type) [Sto τ] (K : Fg) (g : Tgt) (vs : List Nat) : TG := fun v σ H Q => ∃ (C : SC τ) (ρ : Rho) (t : τ) (d : D), At K C ρ t σ H ∧ Rep K (Fo C.F ρ σ) H v d ∧ ∃ ρ', g ρ d = some ρ' ∧
  ∀ σ' H', (σ'.length = σ.length ∧ ∀ (j : Nat), j ∉ vs → σ'[j]? = σ[j]? ∧ ρ'[j]? = ρ[j]?) → Same H H' → Stp (Fo C.F ρ σ) H (Fo C.F ρ' σ') H' → At K C ρ' t σ' H' → Q σ' H'
def tTgs (τ : Type) [Sto τ] (K : Fg) (g : Tgts) (vs : List Nat) : TGs := fun v σ H Q => ∃ (C : SC τ) (ρ : Rho) (t : τ) (d : List D), At K C ρ t σ H ∧ Reps K (Fo C.F ρ σ) H v d ∧ ∃ ρ', g ρ d = some ρ' ∧
  ∀ σ' H', (σ'.length = σ.length ∧ ∀ (j : Nat), j ∉ vs → σ'[j]? = σ[j]? ∧ ρ'[j]? = ρ[j]?) → Same H H' → Stp (Fo C.F ρ σ) H (Fo C.F ρ' σ') H' → At K C ρ' t σ' H' → Q σ' H'
theorem PG.imp {e : Expr} {t t' : TG} (h : PG X e t) (i : ∀ v σ H Q, t' v σ H Q → t v σ H Q) : PG X e t' := ⟨fun pins s σ H v u Q I r q => h.run pins s σ H v u Q I r (i v σ H Q q)⟩
theorem PGs.imp {e : List Expr} {t t' : TGs} (h : PGs X e t) (i : ∀ v σ H Q, t' v σ H Q → t v σ H Q) : PGs X e t' := ⟨fun pins s σ H v u Q I r q => h.run pins s σ H v u Q I r (i v σ H Q q)⟩
def gN (i : Nat) : Tgt := fun ρ d => some (ρ.set i (.val d))
def gNil : Tgts := fun ρ ds => match ds with
  | [] => some ρ
  | _ => none
def gCons (g : Tgt) (gs : Tgts) : Tgts := fun ρ ds => match ds with
  | d :: ds => (g ρ d).bind fun ρ' => gs ρ' ds
  | [] => none
def gT (gs : Tgts) : Tgt := fun ρ d => match d with
  | .tup ds => gs ρ ds
  | _ => none
theorem mg_name {i : Nat} {e : Expr} (h : PG X e (L2.gName i)) : PG X e (tTg τ X.K (gN i) [i]) := PG.imp h fun v σ H Q ⟨C, ρ, t, d, A, r, ρ', e, k⟩ => by
  cases e
  exact k _ H ⟨by simp, fun j hj => ⟨by rw [List.getElem?_set_ne (fun e => hj (by simp [e]))], by rw [List.getElem?_set_ne (fun e => hj (by simp [e]))]⟩⟩ (Same.refl H) Stp.setVal (A.setVal r)
theorem mgs_nil : PGs X [] (tTgs τ X.K gNil []) := PGs.imp pgs_nil fun v σ H Q ⟨C, ρ, t, d, A, r, ρ', e, k⟩ => by
  cases r with
  | nil => cases e; exact ⟨rfl, k σ H ⟨rfl, fun _ _ => ⟨rfl, rfl⟩⟩ (Same.refl H) (Stp.refl _ _) A⟩
  | cons r t => cases e
theorem mgs_cons {e : Expr} {es : List Expr} {g : Tgt} {gs : Tgts} {v1 v2 : List Nat} (h1 : PG X e (tTg τ X.K g v1)) (h2 : PGs X es (tTgs τ X.K gs v2)) (hs : (assignEach (e :: es) X.env).map (·.2) = assign e X.env :: (assignEach es X.env).map (·.2) := by rfl) :
    PGs X (e :: es) (tTgs τ X.K (gCons g gs) (v1 ++ v2)) := PGs.imp (pgs_cons h1 h2 hs) fun v σ H Q ⟨C, ρ, t, d, A, r, ρ', e, k⟩ => by
  cases r with
  | nil => cases e
  | cons r1 r2 =>
    rename_i x xs dd ds _
    have e' : (g ρ dd).bind (fun ρ' => gs ρ' ds) = some ρ' := e
    cases q : g ρ dd with
    | none => rw [q] at e'; cases e'
    | some ρ1 =>
      rw [q] at e'
      exact ⟨x, xs, rfl, C, ρ, t, dd, A, r1, ρ1, q, fun σ1 H1 f1 m1 s1 A1 => ⟨C, ρ1, t, ds, A1, r2.step s1, ρ', e', fun σ2 H2 f2 m2 s2 A2 => k σ2 H2 ⟨f2.1.trans f1.1, fun j hj => ⟨(f2.2 j fun z => hj (List.mem_append_right _ z)).1.trans (f1.2 j fun z => hj (List.mem_append_left _ z)).1, (f2.2 j fun z => hj (List.mem_append_right _ z)).2.trans (f1.2 j fun z => hj (List.mem_append_left _ z)).2⟩⟩ (fun b o e => m2 b o (m1 b o e)) (s1.trans s2) A2⟩⟩
def glen (gs : Tgts) (n : Nat) : Prop := ∀ ρ ds ρ', gs ρ ds = some ρ' → ds.length = n
theorem glen_nil : glen gNil 0 := fun ρ ds ρ' e => by
  cases ds with
  | nil => rfl
  | cons => cases e
theorem glen_cons {g : Tgt} {gs : Tgts} {n : Nat} (h : glen gs n) : glen (gCons g gs) (n + 1) := fun ρ ds ρ' e => by
  cases ds with
  | nil => cases e
  | cons d ds =>
    have e' : (g ρ d).bind (fun ρ' => gs ρ' ds) = some ρ' := e
    cases q : g ρ d with
    | none => rw [q] at e'; cases e'
    | some ρ1 =>
      rw [q] at e'
      show ds.length + 1 = n + 1
      rw [h ρ1 ds ρ' e']
theorem mg_tup {es : List Expr} {k n : Nat} {pos : Pos} {gs : Tgts} (hc : X.calm = true) (hg : glen gs n) {vs : List Nat} (h : PGs X es (tTgs τ X.K gs vs)) (hn : (assignEach es X.env).length = n := by rfl) (hst : (assignEach es X.env).findIdx? (·.1) = none := by rfl) :
    PG X (.Tuple es k pos) (tTg τ X.K (gT gs) vs) := PG.imp (pg_tup hc h hn hst) fun v σ H Q ⟨C, ρ, t, d, A, r, ρ', e, k⟩ => by
  cases r with
  | tup tf rs =>
    have e' : gs ρ _ = some ρ' := e
    exact ⟨_, _, rfl, tf.sq, by rw [rs.length]; exact hg _ _ _ e', C, ρ, t, _, A, rs, ρ', e', k⟩
  | _ => cases e

def sSeq (a b : MS τ) : MS τ := fun ρ t => match a ρ t with
  | .nx ρ' t' => b ρ' t'
  | r => r
theorem mss_cons {s : Stmt} {rest : List Stmt} {a b : MS τ} (h1 : PS X s (tS X.K W a)) (h2 : PSs X rest (tS X.K W b)) : PSs X (s :: rest) (tS X.K W (sSeq a b)) := PSs.imp (pss_cons h1 h2) fun E σ H ⟨C, ρ, t, A, p⟩ => by
  refine ⟨C, ρ, t, A, ?_⟩
  unfold sSeq at p
  cases e : a ρ t with
  | nx ρ' t' => rw [e] at p; exact fun σ' H' s' A' => ⟨C, ρ', t', A', SPost.rebase p s'⟩
  | rt d t' => rw [e] at p; exact p
  | bk ρ' t' => rw [e] at p; exact p
  | ct ρ' t' => rw [e] at p; exact p
  | ex n fs ρ' t' => rw [e] at p; exact p
  | bad => rw [e] at p; exact p
theorem mss_one {s : Stmt} {a : MS τ} (h1 : PS X s (tS X.K W a)) : PSs X [s] (tS X.K W a) := pss_one h1
def sSkip : MS τ := fun ρ t => .nx ρ t
theorem mss_nil : PSs X [] (tS X.K W (sSkip (τ := τ))) := PSs.imp pss_nil fun E σ H ⟨C, ρ, t, A, p⟩ => p σ H (Stp.refl _ _) A
def sAsg (g : Tgt) (m : ME τ D) : MS τ := sDo m fun d ρ t => match g ρ d with
  | some ρ' => .nx ρ' t
  | none => .bad
theorem asg_red {g : Tgt} {vs : List Nat} {m : ME τ D} {E : Ends} {σ : St} {H : Hp} (p : tS K W (sAsg g m) E σ H) : tAsg (tE K W m) (tTg τ K g vs) E σ H := by
  obtain ⟨C, ρ, t, A, p⟩ := p
  refine useS A p fun d t1 v H1 e1 s1 A1 r1 p1 => ?_
  refine ⟨C, ρ, t1, d, A1, r1, ?_⟩
  cases e : g ρ d with
  | none => rw [e] at p1; exact p1.elim
  | some ρ' => rw [e] at p1; exact ⟨ρ', rfl, fun σ' H' _ _ s' A' => p1 σ' H' s' A'⟩
theorem ms_asg {tg e : Expr} {pos : Pos} {g : Tgt} {vs : List Nat} {m : ME τ D} (he : PE X e (tE X.K W m)) (hg : PG X tg (tTg τ X.K g vs)) (hs : swapsWithSole [tg] e pos.line X.env = pure false := by rfl) (hw : swappedStores [tg] e X.env = pure none := by rfl)
    (h1 : (assignEach [tg] X.env).map (·.2) = [assign tg X.env] := by rfl) : PS X (.Assign [tg] e pos) (tS X.K W (sAsg g m)) := PS.imp (ps_asg he hg hs hw h1) fun _ _ _ p => asg_red p
theorem ms_set {s : Stmt} {i : Nat} {m : ME τ D} (h : PS X s (tAsg (tE X.K W m) (gName i))) : PS X s (tS X.K W (sAsg (gN i) m)) := PS.imp h fun E σ H ⟨C, ρ, t, A, p⟩ => by
  refine useS A p fun d t1 v H1 e1 s1 A1 r1 p1 => ?_
  exact p1 _ H1 Stp.setVal (A1.setVal r1)
def sOwn (i : Nat) (m : ME τ (List D)) : MS τ := sDo m fun ds ρ t => .nx (ρ.set i (.own ds)) t
theorem ms_setOwn {s : Stmt} {i : Nat} {m : ME τ (List D)} (h : PS X s (tAsg (tF X.K W m) (gName i))) : PS X s (tS X.K W (sOwn i m)) := PS.imp h fun E σ H ⟨C, ρ, t, A, p⟩ => by
  refine ⟨C, ρ, t, A, ?_⟩
  unfold sOwn sDo at p
  cases e : m ρ t with
  | ok d t1 =>
    rw [e] at p
    intro v H1 s1 i1 r1
    obtain ⟨a, vs, rfl, n, q, l, r, iv⟩ := r1
    obtain ⟨A', sp⟩ := At.setOwn (i := i) A s1 iv n q l r
    exact p _ H1 sp A'
  | ex n fs t1 =>
    rw [e] at p
    exact fun cls dd H' s i x => p cls dd σ H' (Stp.of_sm s fun _ => .inl) (A.next s i) x
  | bad => rw [e] at p; exact p
def sFrz (i : Nat) (m : MS τ) : MS τ := fun ρ t => match ρ[i]? with
  | some (.own xs) => m (ρ.set i (.val (.lst xs))) t
  | some (.dct ks xs) => m (ρ.set i (.val (.dct ks xs))) t
  | _ => m ρ t
theorem frz_one {i : Nat} {x : Slot} {d : D} {C : SC τ} {ρ : Rho} {t : τ} {σ : St} {H : Hp} {r : Fl τ} {E : Ends} (A : At K C ρ t σ H) (e : ρ[i]? = some x ∧ x.mine = true) (hd : ∀ (F' : Fp) (a : Addr) (u : HO), (∀ b, F' b → Fo C.F ρ σ b) → ¬ F' a → H a = some u → OwnR K (Fo C.F ρ σ) H a u x → Rep K F' H (.ref a) d)
    (p : SPost K W C (Fo C.F ρ σ) H r E) : At K C (ρ.set i (.val d)) t σ H ∧ SPost K W C (Fo C.F (ρ.set i (.val d)) σ) H r E := by
  obtain ⟨a, u, hs, nF, ha, hr⟩ := A.mine i x e
  have il : i < ρ.length := (List.getElem?_eq_some_iff.mp e.1).1
  have sub : ∀ b, Fo C.F (ρ.set i (.val d)) σ b → Fo C.F ρ σ b := fun b h => by
    rcases h with h | ⟨j, zs, ⟨h1, hm⟩, h2⟩
    · exact .inl h
    · rcases set_at h1 with ⟨_, e1, _⟩ | ⟨ne, h1⟩
      · cases e1; cases hm
      · exact .inr ⟨j, zs, ⟨h1, hm⟩, h2⟩
  have na : ¬ Fo C.F (ρ.set i (.val d)) σ a := fun h => by
    rcases h with h | ⟨j, zs, ⟨h1, hm⟩, h2⟩
    · exact nF h
    · rcases set_at h1 with ⟨_, e1, _⟩ | ⟨ne, h1⟩
      · cases e1; cases hm
      · exact ne (A.dis i j x zs e ⟨h1, hm⟩ (by rw [hs, h2]))
  refine ⟨⟨A.okC, C.less A.st sub, by simp [A.len], fun j d h => ?_, fun j zs hh => ?_, fun j k zs us hh1 hh2 e2 => ?_⟩, SPost.rebase p (Stp.less sub)⟩
  · rcases set_at h with ⟨rfl, e1, _⟩ | ⟨ne, h⟩
    · cases e1
      exact ⟨.ref a, hs, hd _ a u sub na ha hr⟩
    · obtain ⟨w, h1, h2⟩ := A.val j d h
      exact ⟨w, h1, h2.anti sub⟩
  · obtain ⟨h, hm⟩ := hh
    rcases set_at h with ⟨rfl, e1, _⟩ | ⟨ne, h⟩
    · cases e1; cases hm
    · obtain ⟨b, us, h1, h2, h3, h4⟩ := A.mine j zs ⟨h, hm⟩
      exact ⟨b, us, h1, h2, h3, h4.anti sub⟩
  · obtain ⟨h1, m1⟩ := hh1
    obtain ⟨h2, m2⟩ := hh2
    rcases set_at h1 with ⟨_, e1, _⟩ | ⟨_, h1⟩
    · cases e1; cases m1
    · rcases set_at h2 with ⟨_, e2, _⟩ | ⟨_, h2⟩
      · cases e2; cases m2
      · exact A.dis j k zs us ⟨h1, m1⟩ ⟨h2, m2⟩ e2
theorem frz_red {i : Nat} {m : MS τ} {E : Ends} {σ : St} {H : Hp} (p : tS K W (sFrz i m) E σ H) : tS K W m E σ H := by
  obtain ⟨C, ρ, t, A, p⟩ := p
  unfold sFrz at p
  split at p
  · rename_i xs e
    obtain ⟨A', p'⟩ := frz_one (d := .lst xs) A ⟨e, rfl⟩ (fun F' a u sub na ha hr => by
      cases hr with
      | lst hr => exact .lst ⟨na, .inl ha⟩ (hr.anti sub)) p
    exact ⟨C, _, t, A', p'⟩
  · rename_i ks xs e
    obtain ⟨A', p'⟩ := frz_one (d := .dct ks xs) A ⟨e, rfl⟩ (fun F' a u sub na ha hr => by
      cases hr with
      | dct hr => exact (hr.anti sub).rep na ha) p
    exact ⟨C, _, t, A', p'⟩
  · exact ⟨C, ρ, t, A, p⟩
theorem mss_frz {i : Nat} {sts : List Stmt} {m : MS τ} (h : PSs X sts (tS X.K W m)) : PSs X sts (tS X.K W (sFrz i m)) := PSs.imp h fun _ _ _ p => frz_red p
def sRet (m : ME τ D) : MS τ := sDo m fun d _ t => .rt d t
theorem ms_ret {e : Expr} {pos : Pos} {m : ME τ D} (h : PE X e (tE X.K W m)) : PS X (.Return (some e) pos) (tS X.K W (sRet m)) := PS.imp (ps_ret h) fun E σ H ⟨C, ρ, t, A, p⟩ => by
  refine useS A p fun d t1 v H1 e1 s1 A1 r1 p1 => ?_
  exact p1 v H1 (Sm.refl _ _) (C.less A1.st fun _ => .inl) (r1.anti fun _ => .inl)
def sIf (c : ME τ Bool) (a b : MS τ) : MS τ := sDo c fun k ρ t => if k = true then a ρ t else b ρ t
theorem ms_if {c : Expr} {sa sb : List Stmt} {pos : Pos} {mc : ME τ Bool} {a b : MS τ} (hc : PT X c (tT X.K W mc)) (ha : PSs X sa (tS X.K W a)) (hb : PSs X sb (tS X.K W b)) : PS X (.If c sa sb pos) (tS X.K W (sIf mc a b)) :=
  PS.imp (ps_if hc ha hb) fun E σ H ⟨C, ρ, t, A, p⟩ => by
    refine useS A p fun d t1 v H1 e1 s1 A1 r1 p1 => ?_
    cases r1
    cases d with
    | true => exact ⟨C, ρ, t1, A1, p1⟩
    | false => exact ⟨C, ρ, t1, A1, p1⟩
def sApp (i : Nat) (m : ME τ D) : MS τ := fun ρ t => match ρ[i]? with
  | some (.own xs) => sDo m (fun d ρ t => if xs.length < 16777216 then .nx (ρ.set i (.own (xs ++ [d]))) t else .bad) ρ t
  | _ => .bad
theorem ms_app {s : Stmt} {i : Nat} {m : ME τ D} (h : PS X s (tDrop (tBM X.K "list" rAppend (tVar i) (tCons (tE X.K W m) tNil)))) : PS X s (tS X.K W (sApp i m)) := PS.imp h fun E σ H ⟨C, ρ, t, A, p⟩ => by
  unfold sApp at p
  split at p
  · rename_i xs hi
    obtain ⟨a, vs, hs, nF, ha, hr⟩ := A.own i xs hi
    refine ⟨_, hs, .inl ⟨rfl, _, .inl (.inl ha)⟩, ?_⟩
    refine useS A p fun d t1 v H1 e1 s1 A1 r1 p1 => ?_
    obtain ⟨a', vs', hs', nF', ha', hr'⟩ := A1.own i xs hi
    rw [hs] at hs'; cases hs'
    split at p1
    · rename_i hl
      obtain ⟨A2, sp⟩ := A1.reOwn (ws := vs' ++ [v]) (ys := xs ++ [d]) hi hs (hr'.snoc r1)
      exact ⟨a, vs', v, rfl, rfl, ha', by rw [hr'.length]; exact hl, p1 σ _ sp A2⟩
    · exact p1.elim
  · exact p.elim
end
end MM

namespace MM
open PySem PySem.Spec PyProof.Rows L2
section
variable {X : Cx} {W : WX} {τ : Type} [Sto τ] {K : Fg}
def loopW (c : ME τ Bool) (b : MS τ) : Nat → MS τ
  | 0 => fun _ _ => .bad
  | n + 1 => sDo c fun k ρ t => if k = true then (match b ρ t with
      | .nx ρ' t' => loopW c b n ρ' t'
      | .ct ρ' t' => loopW c b n ρ' t'
      | .bk ρ' t' => .nx ρ' t'
      | r => r) else .nx ρ t
theorem loopW_mono {c : ME τ Bool} {b : MS τ} : ∀ {n m : Nat} {ρ : Rho} {t : τ}, n ≤ m → loopW c b n ρ t ≠ .bad → loopW c b m ρ t = loopW c b n ρ t
  | 0, _, _, _, _, h => absurd rfl h
  | n + 1, 0, _, _, hl, _ => absurd hl (by omega)
  | n + 1, m + 1, ρ, t, hl, h => by
    unfold loopW sDo at h ⊢
    cases e : c ρ t with
    | ok k t' =>
      rw [e] at h
      dsimp only at h ⊢
      cases k with
      | false => rfl
      | true =>
        rw [if_pos rfl] at h ⊢
        rw [if_pos rfl]
        cases e2 : b ρ t' with
        | nx ρ' t'' => rw [e2] at h; exact loopW_mono (by omega) h
        | ct ρ' t'' => rw [e2] at h; exact loopW_mono (by omega) h
        | _ => rfl
    | ex n fs t' => rfl
    | bad => rfl
open Classical in
noncomputable def sWhile (c : ME τ Bool) (b : MS τ) : MS τ := fun ρ t => if h : ∃ n, loopW c b n ρ t ≠ .bad then loopW c b h.choose ρ t else .bad
theorem sWhile_of {c : ME τ Bool} {b : MS τ} {n : Nat} {ρ : Rho} {t : τ} (h : loopW c b n ρ t ≠ .bad) : sWhile c b ρ t = loopW c b n ρ t := by
  have hx : ∃ n, loopW c b n ρ t ≠ .bad := ⟨n, h⟩
  unfold sWhile
  rw [dif_pos hx]
  have h1 := hx.choose_spec
  rcases Nat.le_total n hx.choose with q | q
  · exact loopW_mono q h
  · exact (loopW_mono q h1).symm
theorem sWhile_turn (c : ME τ Bool) (b : MS τ) (ρ : Rho) (t : τ) : sWhile c b ρ t = sDo c (fun k ρ t => if k = true then (match b ρ t with
      | .nx ρ' t' => sWhile c b ρ' t'
      | .ct ρ' t' => sWhile c b ρ' t'
      | .bk ρ' t' => .nx ρ' t'
      | r => r) else .nx ρ t) ρ t := by
  have inner : ∀ ρ' t', sWhile c b ρ' t' ≠ .bad → ∃ n, sWhile c b ρ' t' = loopW c b n ρ' t' := fun ρ' t' h => by
    unfold sWhile at h ⊢
    split at h
    · rename_i hx
      rw [dif_pos hx]
      exact ⟨_, rfl⟩
    · exact absurd rfl h
  have inner2 : ∀ ρ' t', sWhile c b ρ' t' = .bad → ∀ n, loopW c b n ρ' t' = .bad := fun ρ' t' h n => by
    cases q : loopW c b n ρ' t' with
    | bad => rfl
    | _ =>
      have := sWhile_of (c := c) (b := b) (n := n) (ρ := ρ') (t := t') (by rw [q]; intro z; cases z)
      rw [h, q] at this
      cases this
  unfold sDo
  cases e : c ρ t with
  | ok k t1 =>
    cases k with
    | false =>
      rw [sWhile_of (n := 1) (by unfold loopW sDo; rw [e]; intro z; cases z)]
      unfold loopW sDo
      rw [e]
      rfl
    | true =>
      dsimp only
      rw [if_pos rfl]
      have two : ∀ ρ' t', (∀ n, loopW c b (n + 1) ρ t = loopW c b n ρ' t') → sWhile c b ρ t = sWhile c b ρ' t' := fun ρ' t' h => by
        by_cases q : sWhile c b ρ' t' = .bad
        · rw [q]
          unfold sWhile
          rw [dif_neg]
          rintro ⟨n, hn⟩
          cases n with
          | zero => exact hn rfl
          | succ n => rw [h n, inner2 _ _ q n] at hn; exact hn rfl
        · obtain ⟨n, hn⟩ := inner _ _ q
          rw [hn, ← h n]
          exact sWhile_of (by rw [h n, ← hn]; exact q)
      cases e2 : b ρ t1 with
      | nx ρ' t2 => exact two ρ' t2 fun n => by rw [show loopW c b (n + 1) = sDo c _ from rfl]; unfold sDo; rw [e]; dsimp only; rw [if_pos rfl, e2]
      | ct ρ' t2 => exact two ρ' t2 fun n => by rw [show loopW c b (n + 1) = sDo c _ from rfl]; unfold sDo; rw [e]; dsimp only; rw [if_pos rfl, e2]
      | bk ρ' t2 =>
        have l : loopW c b 1 ρ t = .nx ρ' t2 := by unfold loopW sDo; rw [e]; dsimp only; rw [if_pos rfl, e2]
        rw [sWhile_of (n := 1) (by rw [l]; intro z; cases z), l]
      | rt d t2 =>
        have l : loopW c b 1 ρ t = .rt d t2 := by unfold loopW sDo; rw [e]; dsimp only; rw [if_pos rfl, e2]
        rw [sWhile_of (n := 1) (by rw [l]; intro z; cases z), l]
      | ex n fs ρ' t2 =>
        have l : loopW c b 1 ρ t = .ex n fs ρ' t2 := by unfold loopW sDo; rw [e]; dsimp only; rw [if_pos rfl, e2]
        rw [sWhile_of (n := 1) (by rw [l]; intro z; cases z), l]
      | bad =>
        unfold sWhile
        rw [dif_neg]
        rintro ⟨n, hn⟩
        cases n with
        | zero => exact hn rfl
        | succ n => exact hn (by unfold loopW sDo; rw [e]; dsimp only; rw [if_pos rfl, e2])
  | ex n fs t1 =>
    have l : loopW c b 1 ρ t = .ex n fs ρ t1 := by unfold loopW sDo; rw [e]
    rw [sWhile_of (n := 1) (by rw [l]; intro z; cases z), l]
  | bad =>
    unfold sWhile
    rw [dif_neg]
    rintro ⟨n, hn⟩
    cases n with
    | zero => exact hn rfl
    | succ n => exact hn (by unfold loopW sDo; rw [e])
theorem while_red {c : ME τ Bool} {b : MS τ} {E : Ends} {σ : St} {H : Hp} (p : tS K W (sWhile c b) E σ H) : tWhile (tT K W c) (tS K W b) E σ H := by
  obtain ⟨C, ρ, t, A, p⟩ := p
  unfold sWhile at p
  split at p
  · rename_i hx
    refine ⟨fun n σ H => ∃ ρ t, At K C ρ t σ H ∧ SPost K W C (Fo C.F ρ σ) H (loopW c b n ρ t) E, ⟨_, ρ, t, A, p⟩, ?_⟩
    rintro n σ H ⟨ρ, t, A, p⟩
    cases n with
    | zero => exact p.elim
    | succ n =>
      refine useS A p fun k t1 v H1 e1 s1 A1 r1 p1 => ?_
      cases r1
      cases k with
      | false => exact p1 σ H1 (Stp.refl _ _) A1
      | true =>
        rw [if_pos rfl] at p1
        refine ⟨fun σ' H' => ∃ ρ t, At K C ρ t σ' H' ∧ SPost K W C (Fo C.F ρ σ') H' (loopW c b n ρ t) E, fun σ' H' h => ⟨n, Nat.lt_succ_self n, h⟩, C, ρ, t1, A1, ?_⟩
        cases e2 : b ρ t1 with
        | nx ρ' t2 => rw [e2] at p1; exact fun σ' H' s' A' => ⟨ρ', t2, A', SPost.rebase p1 s'⟩
        | ct ρ' t2 => rw [e2] at p1; exact fun σ' H' s' A' => ⟨ρ', t2, A', SPost.rebase p1 s'⟩
        | bk ρ' t2 => rw [e2] at p1; exact p1
        | rt d t2 => rw [e2] at p1; exact p1
        | ex n fs ρ' t2 => rw [e2] at p1; exact p1
        | bad => rw [e2] at p1; exact p1
  · exact p.elim
theorem ms_while {c : Expr} {body : List Stmt} {pos : Pos} {mc : ME τ Bool} {b : MS τ} (hp : PassesOwn (model X.prog X.w) X.A X.env X.xe) (hc : PT X c (tT X.K W mc)) (hb : PSs X body (tS X.K W b)) : PS X (.While c body [] pos) (tS X.K W (sWhile mc b)) :=
  PS.imp (ps_while hp hc hb) fun _ _ _ p => while_red p

def rIt : Rel It (List D) := fun K _ _ F _ H' J ds => ∃ (G : Hp → Prop) (Y : Nat → Hp → V → Hp → Prop), Walk J ds.length G Y ∧ (∀ H2, Sm F H' H2 → G H2) ∧
  ∀ (Fc : Fp) (i : Nat) (H2 : Hp) (x : V) (H3 : Hp), i < ds.length → Stp F H' Fc H2 → Dom Fc H2 → Y i H2 x H3 → Same H2 H3 ∧ ∃ d, ds[i]? = some d ∧ Rep K Fc H3 x d
theorem okI : RelOk rIt := ⟨fun _ _ _ _ _ _ _ _ _ _ h => h⟩
abbrev tI {τ : Type} [Sto τ] (K : Fg) (W : WX) (m : ME τ (List D)) : TI := tG rIt K W m
theorem PI.imp {tg e : Expr} {t t' : TI} (h : PI X tg e t) (i : ∀ σ H Q, t' σ H Q → t σ H Q) : PI X tg e t' := ⟨fun pins s σ H R I q => h.run pins s σ H R I (i σ H R q)⟩
def itD : D → Option (List D)
  | .lst ds => some ds
  | .tup ds => some ds
  | .scr ns => some (ns.map .int)
  | _ => none
theorem rIt_list {K : Fg} {I : Fp → Hp → Prop} {F0 F : Fp} {H H' : Hp} {a : Addr} {vs : List V} {ds : List D} (hl : LstF K F H' a vs) (r : Reps K F H' vs ds) : rIt K I F0 F H H' (Itl K a) ds := by
  have w : Walk (Itl K a) ds.length (fun H => SqL K H a vs) (YAt vs) := by rw [← r.length]; exact walk_list
  refine ⟨_, _, w, fun H2 s => (hl.step ⟨s, fun _ z => .inl z⟩).sq, fun Fc i H2 x H3 hi s dm y => ?_⟩
  obtain ⟨rfl, y⟩ := y
  obtain ⟨d, e, q⟩ := (r.step s).getV y
  exact ⟨fun _ _ e => e, d, e, q⟩
theorem rIt_scr {K : Fg} {I : Fp → Hp → Prop} {F0 F : Fp} {H H' : Hp} {a : Addr} {ns : List Int} (hl : ScrF K F H' a (ns.map V.int)) : rIt K I F0 F H H' (Itl K a) (ns.map .int) := by
  have w : Walk (Itl K a) (ns.map D.int).length (fun H => SqL K H a (ns.map V.int)) (YAt (ns.map V.int)) := by rw [List.length_map, ← List.length_map (f := V.int)]; exact walk_list
  refine ⟨_, _, w, fun H2 s => (hl.step ⟨s, fun _ z => .inl z⟩).sq, fun Fc i H2 x H3 hi s dm y => ?_⟩
  obtain ⟨rfl, y⟩ := y
  rw [List.getElem?_map] at y ⊢
  cases e : ns[i]? with
  | none => rw [e] at y; cases y
  | some n => rw [e] at y; cases y; exact ⟨fun _ _ e => e, _, rfl, .int n⟩
theorem rIt_tup {K : Fg} {I : Fp → Hp → Prop} {F0 F : Fp} {H H' : Hp} {a : Addr} {vs : List V} {ds : List D} (hl : TupF K F H' a vs) (r : Reps K F H' vs ds) : rIt K I F0 F H H' (Itt K a) ds := by
  have w : Walk (Itt K a) ds.length (fun H => SqT K H a vs) (YAt vs) := by rw [← r.length]; exact walk_tup
  refine ⟨_, _, w, fun H2 s => (hl.step ⟨s, fun _ z => .inl z⟩).sq, fun Fc i H2 x H3 hi s dm y => ?_⟩
  obtain ⟨rfl, y⟩ := y
  obtain ⟨d, e, q⟩ := (r.step s).getV y
  exact ⟨fun _ _ e => e, d, e, q⟩
def iSeq (K : Fg) (tl : TE) : TI := fun σ H R => tl σ H fun x H1 => (∃ a, x = .ref a ∧ (∃ xs, SqL K H1 a xs) ∧ R (Itl K a) H1) ∨ (∃ a, x = .ref a ∧ (∃ xs, SqT K H1 a xs) ∧ R (Itt K a) H1)
theorem pi_seq {tg l : Expr} {tl : TE} (hl : PE X l tl) : PI X tg l (iSeq X.K tl) := by
  refine ⟨fun pins s σ H R I h => ?_⟩
  refine thn (hl.run pins s σ H _ I h) fun v s1 ⟨x, H1, I1, r1, q1⟩ => ?_
  rcases q1 with ⟨a, e, ⟨xs, hq⟩, q⟩ | ⟨a, e, ⟨xs, hq⟩, q⟩
  · subst e
    cases r1
    obtain ⟨its, rv, p, hz⟩ := I1.list hq
    refine wpAny_pyIter_list p.isList ?_
    refine ⟨s1.heap.objs.size, [s1.heap.objs.size], _, _, H1, rfl, I1.kept (t' := s1.toks) fun b o e => Heap.get?_push_of_some _ e, turn_list a _, ⟨_, Heap.get?_push_size _ rfl, rfl, rfl⟩, fun b hb => ?_, q⟩
    have e : b = s1.heap.objs.size := by simpa using hb
    subst e
    exact I1.fpOk (Nat.le_refl _) (I1.hok.fresh (Nat.le_refl _))
  · subst e
    cases r1
    obtain ⟨its, rv, p, hz⟩ := I1.tuple hq
    refine wpAny_pyIter_tuple (show s1.heap.IsTuple a its.toArray from p) ?_
    refine ⟨s1.heap.objs.size, [s1.heap.objs.size], _, _, H1, rfl, I1.kept (t' := s1.toks) fun b o e => Heap.get?_push_of_some _ e, turn_tuple a _, ⟨_, Heap.get?_push_size _ rfl, rfl, rfl⟩, fun b hb => ?_, q⟩
    have e : b = s1.heap.objs.size := by simpa using hb
    subst e
    exact I1.fpOk (Nat.le_refl _) (I1.hok.fresh (Nat.le_refl _))
theorem mi_seq {tg l : Expr} {m : ME τ D} (h : PE X l (tE X.K W m)) : PI X tg l (tI X.K W (e1 itD m)) := PI.imp (pi_seq h) fun σ H R ⟨C, ρ, t, A, p⟩ => by
  refine use okI A p fun d t1 v H1 e1 s1 A1 r1 p1 => ?_
  cases d <;> first
    | exact p1.elim
    | skip
  · cases r1 with
    | tup hl r => exact .inr ⟨_, rfl, ⟨_, hl.sq⟩, p1 _ H1 (Sm.refl _ _) A1.st (rIt_tup hl r)⟩
  · cases r1 with
    | lst hl r => exact .inl ⟨_, rfl, ⟨_, hl.sq⟩, p1 _ H1 (Sm.refl _ _) A1.st (rIt_list hl r)⟩
  · cases r1 with
    | scr hl => exact .inl ⟨_, rfl, ⟨_, hl.sq⟩, p1 _ H1 (Sm.refl _ _) A1.st (rIt_scr hl)⟩
def rngD (lo : Int) (n : Nat) : List D := (List.range n).map fun i => .int (lo + (i : Nat))
theorem rIt_rng {K : Fg} {I : Fp → Hp → Prop} {F0 F : Fp} {H H' : Hp} {lo : Int} {n : Nat} : rIt K I F0 F H H' (Itr lo n) (rngD lo n) := by
  have w : Walk (Itr lo n) (rngD lo n).length (fun _ => True) (YFn fun i => .int (lo + i)) := by
    rw [show (rngD lo n).length = n by simp [rngD]]
    exact walk_range
  refine ⟨_, _, w, fun _ _ => trivial, fun Fc i H2 x H3 hi s dm y => ?_⟩
  obtain ⟨rfl, rfl⟩ := y
  have hn : i < n := by simpa [rngD] using hi
  exact ⟨fun _ _ e => e, .int (lo + i), by simp [rngD, hn], .int _⟩
def fRng1 : List D → Option (List D)
  | [.int j] => if -(2 ^ 62) ≤ j ∧ j < 2 ^ 62 then some (rngD 0 j.toNat) else none
  | _ => none
def fRng2 : List D → Option (List D)
  | [.int i, .int j] => if -(2 ^ 62) ≤ i ∧ i < 2 ^ 62 ∧ -(2 ^ 62) ≤ j ∧ j < 2 ^ 62 then some (rngD i (j - i).toNat) else none
  | _ => none
theorem mi_range1 {tg a : Expr} {p pos : Pos} {m : ME τ (List D)} (hg : Gl X "range") (hm : X.mg "range" = none) (ha : PA X [a] (tAW X.K W m)) (hs : starEach [a] X.env = [(false, eval a X.env)] := by rfl) : PI X tg (.Call (.Name "range" p) [a] [] pos) (tI X.K W (e1 fRng1 m)) :=
  PI.imp (pi_range1 hg hm ha hs) fun σ H R ⟨C, ρ, t, A, p⟩ => by
    refine use okI A p fun d t1 v H1 e1 s1 A1 r1 p1 => ?_
    unfold fRng1 at p1
    split at p1
    · rename_i j
      obtain ⟨x, rfl, rx⟩ := RepsW.one r1
      cases rx.intOf
      split at p1
      · rename_i hj
        exact ⟨j, rfl, hj.1, hj.2, p1 _ H1 (Sm.refl _ _) A1.st rIt_rng⟩
      · exact p1.elim
    · exact p1.elim
theorem mi_range2 {tg a b : Expr} {p pos : Pos} {m : ME τ (List D)} (hg : Gl X "range") (hm : X.mg "range" = none) (ha : PA X [a, b] (tAW X.K W m)) (hs : starEach [a, b] X.env = [(false, eval a X.env), (false, eval b X.env)] := by rfl) (hs2 : starEach [b] X.env = [(false, eval b X.env)] := by rfl) :
    PI X tg (.Call (.Name "range" p) [a, b] [] pos) (tI X.K W (e1 fRng2 m)) :=
  PI.imp (pi_range2 hg hm ha hs hs2) fun σ H R ⟨C, ρ, t, A, p⟩ => by
    refine use okI A p fun d t1 v H1 e1 s1 A1 r1 p1 => ?_
    unfold fRng2 at p1
    split at p1
    · rename_i i j
      obtain ⟨x, y, rfl, rx, ry⟩ := RepsW.two r1
      cases rx.intOf
      cases ry.intOf
      split at p1
      · rename_i hj
        exact ⟨i, j, rfl, hj, p1 _ H1 (Sm.refl _ _) A1.st rIt_rng⟩
      · exact p1.elim
    · exact p1.elim

def loopF (g : Tgt) (b : MS τ) : List D → MS τ
  | [] => fun ρ t => .nx ρ t
  | d :: ds => fun ρ t => match g ρ d with
    | some ρ1 => (match b ρ1 t with
      | .nx ρ' t' => loopF g b ds ρ' t'
      | .ct ρ' t' => loopF g b ds ρ' t'
      | .bk ρ' t' => .nx ρ' t'
      | r => r)
    | none => .bad
def sFor (m : ME τ (List D)) (g : Tgt) (b : MS τ) : MS τ := sDo m fun ds ρ t => loopF g b ds ρ t
theorem for_red {m : ME τ (List D)} {g : Tgt} {vs : List Nat} {b : MS τ} {E : Ends} {σ : St} {H : Hp} (p : tS K W (sFor m g b) E σ H) : tFor (tI K W m) (tTg τ K g vs) (tS K W b) E σ H := by
  obtain ⟨C, ρ0, t0, A0, p⟩ := p
  refine useS A0 p fun ds t1 J H1 e1 s1 A1 r1 p1 => ?_
  obtain ⟨G, Y, w, hG, hY⟩ := r1
  refine for_it w (fun i σ' H' => ∃ ρ t, At K C ρ t σ' H' ∧ Stp (Fo C.F ρ0 σ) H1 (Fo C.F ρ σ') H' ∧ SPost K W C (Fo C.F ρ σ') H' (loopF g b (ds.drop i) ρ t) E) ⟨ρ0, t1, A1, Stp.refl _ _, p1⟩ ?_ ?_ ?_
  · rintro i σ' H' hi ⟨ρ, t, A, s, q⟩
    exact hG H' s.keep
  · rintro i x σ' H' H'' hi ⟨ρ, t, A, s, q⟩ y
    obtain ⟨sm, d, ed, r⟩ := hY (Fo C.F ρ σ') i H' x H'' hi s A.dom y
    have A' := A.next (Sm.of_same sm) (C.stay A.st sm)
    have dr : ds.drop i = d :: ds.drop (i + 1) := by
      obtain ⟨hl, e⟩ := List.getElem?_eq_some_iff.mp ed
      rw [List.drop_eq_getElem_cons hl, e]
    rw [dr] at q
    unfold loopF at q
    cases eg : g ρ d with
    | none => rw [eg] at q; exact q.elim
    | some ρ1 =>
      rw [eg] at q
      refine ⟨C, ρ, t, d, A', r, ρ1, eg, fun σ2 Hg _ _ s2 A2 => ⟨C, ρ1, t, A2, ?_⟩⟩
      have s02 : Stp (Fo C.F ρ σ') H' (Fo C.F ρ1 σ2) Hg := Stp.trans (Stp.of_sm (Sm.of_same (F := C.F) sm) fun _ => .inl) s2
      dsimp only at q
      cases eb : b ρ1 t with
      | nx ρ' t' => rw [eb] at q; exact fun σ3 H3 s3 A3 => ⟨ρ', t', A3, s.trans (s02.trans s3), SPost.rebase q (s02.trans s3)⟩
      | ct ρ' t' => rw [eb] at q; exact fun σ3 H3 s3 A3 => ⟨ρ', t', A3, s.trans (s02.trans s3), SPost.rebase q (s02.trans s3)⟩
      | bk ρ' t' => rw [eb] at q; exact SPost.rebase (K := K) (W := W) (E := E) (r := .nx ρ' t') q s02
      | rt v t' => rw [eb] at q; exact SPost.rebase (K := K) (W := W) (r := .rt v t') (E := E) q s02
      | ex n fs ρ' t' => rw [eb] at q; exact SPost.rebase (K := K) (W := W) (r := .ex n fs ρ' t') (E := E) q s02
      | bad => rw [eb] at q; exact q.elim
  · rintro σ' H' ⟨ρ, t, A, s, q⟩
    rw [List.drop_length] at q
    exact q σ' H' (Stp.refl _ _) A
theorem ms_for {tg iter : Expr} {body : List Stmt} {pos : Pos} {m : ME τ (List D)} {g : Tgt} {vs : List Nat} {b : MS τ} (hp : PassesOwn (model X.prog X.w) X.A X.env X.xe) (hc : X.calm = true) (hi : PI X tg iter (tI X.K W m)) (hg : PG X tg (tTg τ X.K g vs)) (hb : PSs X body (tS X.K W b))
    (hs : ∀ x, foldedSetIterable iter X.env x = pure x := by intro _; rfl) : PS X (.For tg iter body [] pos) (tS X.K W (sFor m g b)) := PS.imp (ps_for hp hc hi hg hb hs) fun _ _ _ p => for_red p
end
end MM

namespace MM
open PySem PySem.Spec PyProof.Rows L2
abbrev W0 : WX := fun _ _ _ _ => False
section
variable {X : Cx} {W : WX} {τ : Type} [Sto τ] {K : Fg}
def wipeR (ρ : Rho) : List Nat → Rho
  | [] => ρ
  | v :: vs => (wipeR ρ vs).set v .no
theorem wipeR_some {ρ : Rho} {i : Nat} {x : Slot} : ∀ {vs : List Nat}, (wipeR ρ vs)[i]? = some x → x ≠ .no → ρ[i]? = some x ∧ i ∉ vs
  | [], h, _ => ⟨h, by simp⟩
  | v :: vs, h, hn => by
    unfold wipeR at h
    rcases set_at h with ⟨_, e, _⟩ | ⟨ne, h⟩
    · exact absurd e hn
    · obtain ⟨h1, h2⟩ := wipeR_some h hn
      exact ⟨h1, by simp only [List.mem_cons, not_or]; exact ⟨fun e => ne e.symm, h2⟩⟩
theorem wipeR_length (ρ : Rho) : ∀ vs : List Nat, (wipeR ρ vs).length = ρ.length
  | [] => rfl
  | v :: vs => by unfold wipeR; rw [List.length_set, wipeR_length ρ vs]
theorem wipe_keep {σ : St} {i : Nat} : ∀ {vs : List Nat}, i ∉ vs → (wipe σ vs)[i]? = σ[i]?
  | [], _ => rfl
  | v :: vs, h => by
    simp only [List.mem_cons, not_or] at h
    unfold wipe
    rw [List.getElem?_set_ne (fun e => h.1 e.symm), wipe_keep h.2]
def noEx {α : Type} (r : Res τ α) : Res τ α := match r with
  | .ok a t => .ok a t
  | _ => .bad
def compL (g : Tgt) (tt : ME τ Bool) (te : ME τ D) (ρ : Rho) : List D → τ → Res τ (List D)
  | [], t => .ok [] t
  | d :: ds, t => match g ρ d with
    | some ρ1 => (noEx (tt ρ1 t)).bind fun b t => if b = true then (noEx (te ρ1 t)).bind fun y t => (compL g tt te ρ ds t).bind fun ys t => .ok (y :: ys) t else compL g tt te ρ ds t
    | none => .bad
theorem wipe_eq {σ σ' : St} {vs ws : List Nat} (hl : σ'.length = σ.length) (h : ∀ j, j ∉ vs → σ'[j]? = σ[j]?) (hs : ∀ j, j ∈ vs → j ∈ ws) : wipe σ' ws = wipe σ ws := by
  have wn : ∀ (τ0 : St) (us : List Nat) (j : Nat), j ∈ us → j < τ0.length → (wipe τ0 us)[j]? = some none := fun τ0 us => by
    induction us with
    | nil => intro j h; cases h
    | cons u us ih =>
      intro j hj hl
      unfold wipe
      by_cases e : u = j
      · subst e
        rw [List.getElem?_set_self (by rw [wipe_length]; exact hl)]
      · rw [List.getElem?_set_ne e]
        exact ih j ((List.mem_cons.mp hj).resolve_left fun q => e q.symm) hl
  refine List.ext_getElem? fun j => ?_
  by_cases q : j ∈ ws
  · by_cases l : j < σ.length
    · rw [wn σ' ws j q (by rw [hl]; exact l), wn σ ws j q l]
    · rw [List.getElem?_eq_none (by rw [wipe_length, hl]; omega), List.getElem?_eq_none (by rw [wipe_length]; omega)]
  · rw [wipe_keep q, wipe_keep q]
    exact h j fun z => q (hs j z)
def noOwn (ρ : Rho) (vs : List Nat) : Bool := vs.all fun v => match ρ[v]? with
  | some (.own _) => false
  | some (.dct ..) => false
  | _ => true
theorem noOwn_mine {ρ : Rho} {vs : List Nat} (hno : noOwn ρ vs = true) {j : Nat} {x : Slot} (h : ρ[j]? = some x ∧ x.mine = true) (hj : j ∈ vs) : False := by
  have z := List.all_eq_true.mp hno j hj
  rw [h.1] at z
  cases x with
  | own _ => cases z
  | dct _ _ => cases z
  | no => cases h.2
  | val _ => cases h.2
def eComp (mi : ME τ (List D)) (vs : List Nat) (g : Tgt) (tt : ME τ Bool) (te : ME τ D) : ME τ (List D) := fun ρ t => (mi ρ t).bind fun ds t => if ds.length ≤ 16777216 ∧ noOwn ρ vs = true then compL g tt te (wipeR ρ vs) ds t else .bad
theorem At.blk {C : SC τ} {ρ : Rho} {t : τ} {σ : St} {H1 H' : Hp} {D0 : Addr} {acc : HO} {vs : List Nat} {t' : τ} (A : At K C ρ t σ H1) (nD : H1 D0 = none) (s : Sm C.F H1 H') (iv : C.Iv t' (fun b => Fo C.F ρ σ b ∨ b = D0) H') (hD : H' D0 = some acc) :
    At K (C.cmp D0 acc) (wipeR ρ vs) t' (wipe σ vs) H' ∧ ∀ b, Fo (C.cmp D0 acc).F (wipeR ρ vs) (wipe σ vs) b → Fo C.F ρ σ b ∨ b = D0 := by
  have tr : ∀ {j : Nat} {x : Slot}, ((wipeR ρ vs)[j]? = some x ∧ x.mine = true) → (ρ[j]? = some x ∧ x.mine = true) ∧ j ∉ vs := fun {j x} h => by
    obtain ⟨q1, q2⟩ := wipeR_some h.1 (by intro z; rw [z] at h; cases h.2)
    exact ⟨⟨q1, h.2⟩, q2⟩
  have fo : ∀ b, Fo (C.cmp D0 acc).F (wipeR ρ vs) (wipe σ vs) b → Fo C.F ρ σ b ∨ b = D0 := fun b h => by
    rcases h with (h | h) | ⟨j, xs, h1, h2⟩
    · exact .inl (.inl h)
    · exact .inr h
    · obtain ⟨h3, h4⟩ := tr h1
      exact .inl (.inr ⟨j, xs, h3, by rw [← wipe_keep h4]; exact h2⟩)
  have sp : Stp (Fo C.F ρ σ) H1 (Fo (C.cmp D0 acc).F (wipeR ρ vs) (wipe σ vs)) H' := ⟨fun b o n e => s b o (fun z => n (.inl z)) e, fun b h => (fo b h).elim .inl fun e => .inr (by rw [e]; exact nD)⟩
  refine ⟨⟨Sto.cmp _ _ _ _ (fun z => C.dom _ _ _ _ A.st z nD) A.okC, ⟨C.less iv fo, hD⟩, by rw [wipe_length, wipeR_length, A.len], fun j d h => ?_, fun j xs h => ?_, fun i j xs ys h1 h2 e => ?_⟩, fo⟩
  · obtain ⟨h3, h4⟩ := wipeR_some h (by intro z; cases z)
    obtain ⟨v, h5, h6⟩ := A.val j d h3
    exact ⟨v, by rw [wipe_keep h4]; exact h5, h6.step sp⟩
  · obtain ⟨h3, h4⟩ := tr h
    obtain ⟨a, ws, h5, h6, h7, h8⟩ := A.mine j xs h3
    refine ⟨a, ws, by rw [wipe_keep h4]; exact h5, fun z => z.elim h6 fun e => ?_, s a _ h6 h7, h8.step sp⟩
    rw [e, nD] at h7; cases h7
  · obtain ⟨h3, h4⟩ := tr h1
    obtain ⟨h5, h6⟩ := tr h2
    rw [wipe_keep h4, wipe_keep h6] at e
    exact A.dis i j xs ys h3 h5 e
def rItO : Rel It (List D) := fun K _ F0 F _ H' J ds => ∃ (G : Hp → Prop) (Y : Nat → Hp → V → Hp → Prop), Walk J ds.length G Y ∧ (∀ H2, Sm F0 H' H2 → G H2) ∧
  ∀ (Fc : Fp) (i : Nat) (H2 : Hp) (x : V) (H3 : Hp), i < ds.length → Stp F H' Fc H2 → Dom Fc H2 → Y i H2 x H3 → Same H2 H3 ∧ ∃ d, ds[i]? = some d ∧ Rep K Fc H3 x d
abbrev tIO {τ : Type} [Sto τ] (K : Fg) (W : WX) (m : ME τ (List D)) : TI := tG rItO K W m
theorem toO {tg e : Expr} {m : ME τ (List D)} (h : PI X tg e (tI X.K W m)) : PI X tg e (tIO X.K W m) := PI.imp h fun σ H Q ⟨C, ρ, t, A, p⟩ => ⟨C, ρ, t, A, by
  cases q : m ρ t with
  | ok ds t' =>
    rw [q] at p
    exact fun J H' s i ⟨G, Y, w, hG, hY⟩ => p J H' s i ⟨G, Y, w, fun H2 s2 => hG H2 fun b o n e => s2 b o (fun z => n (.inl z)) e, hY⟩
  | ex n fs t' => rw [q] at p; exact p
  | bad => rw [q] at p; exact p⟩
theorem lc_red {mi : ME τ (List D)} {vs ws : List Nat} {g : Tgt} {tt : ME τ Bool} {te : ME τ D} {σ : St} {H : Hp} {Q : VK} (hv : ∀ j, j ∈ ws → j ∈ vs) (p : tF K W (eComp mi vs g tt te) σ H Q) : tLc (tIO K W mi) (tTg τ K g ws) (tT K W0 tt) (tE K W0 te) vs σ H Q := by
  obtain ⟨C, ρ, t0, A0, p⟩ := p
  refine use okF A0 p fun ds t1 J H1 e1 s1 A1 r1 p1 => ?_
  intro D0 nD
  split at p1
  · rename_i hlo
    obtain ⟨hlen, hno⟩ := hlo
    have own_out : ∀ (j : Nat) (x : Slot), (ρ[j]? = some x ∧ x.mine = true) → j ∉ vs := fun j x h hj => noOwn_mine hno h hj
    obtain ⟨G, Y, w, hG, hY⟩ := r1
    have nF0 : ¬ Fo C.F ρ σ D0 := fun z => A1.dom D0 z nD
    have s0 : Sm C.F H1 (upd H1 D0 (.lst [])) := Sm.of_same (same_upd nD)
    have sp0 : Stp (Fo C.F ρ σ) H1 (fun b => Fo C.F ρ σ b ∨ b = D0) (upd H1 D0 (.lst [])) := ⟨fun b o _ e => same_upd nD b o e, fun b h => h.elim .inl fun e => .inr (by rw [e]; exact nD)⟩
    refine lc_it w (fun i H' => ∃ (t : τ) (av : List V) (ad : List D), C.Iv t (fun b => Fo C.F ρ σ b ∨ b = D0) H' ∧ H' D0 = some (.lst av) ∧ Reps K (fun b => Fo C.F ρ σ b ∨ b = D0) H' av ad ∧ av.length ≤ i ∧ Sm C.F H1 H' ∧
        Post rF K W C (Fo C.F ρ σ) σ H1 ((compL g tt te (wipeR ρ vs) (ds.drop i) t).bind fun ys t => .ok (ad ++ ys) t) Q)
      ⟨t1, [], [], C.step _ _ _ _ _ A1.st (fun b o _ e => same_upd nD b o e) sp0, upd_same, .nil, Nat.le_refl _, s0, ?_⟩ ?_ ?_ ?_
    · rw [List.drop_zero]
      cases q : compL g tt te (wipeR ρ vs) ds t1 with
      | ok d t => rw [q] at p1; exact p1
      | ex n fs t => rw [q] at p1; exact p1
      | bad => rw [q] at p1; exact p1
    · rintro i H' hi ⟨t, av, ad, iv, hD, ra, hl, sm, q⟩
      exact hG H' sm
    · rintro i x H' H'' hi ⟨t, av, ad, iv, hD, ra, hl, sm, q⟩ y
      obtain ⟨AB, fo⟩ := At.blk (vs := vs) A1 nD sm iv hD
      have sp : Stp (Fo C.F ρ σ) H1 (Fo (C.cmp D0 (.lst av)).F (wipeR ρ vs) (wipe σ vs)) H' := ⟨fun b o n e => sm b o (fun z => n (.inl z)) e, fun b h => (fo b h).elim .inl fun e => .inr (by rw [e]; exact nD)⟩
      obtain ⟨sy, d, ed, r⟩ := hY _ i H' x H'' hi sp AB.dom y
      have AB2 := AB.next (Sm.of_same sy) ((C.cmp D0 (.lst av)).stay AB.st sy)
      have dr : ds.drop i = d :: ds.drop (i + 1) := by
        obtain ⟨hl, e⟩ := List.getElem?_eq_some_iff.mp ed
        rw [List.drop_eq_getElem_cons hl, e]
      rw [dr] at q
      unfold compL at q
      cases eg : g (wipeR ρ vs) d with
      | none => rw [eg] at q; exact q.elim
      | some ρ1 =>
        rw [eg] at q
        dsimp only at q
        refine ⟨C.cmp D0 (.lst av), wipeR ρ vs, t, d, AB2, r, ρ1, eg, fun σ2 Hg f2 mg s2 A2 => ⟨(wipe_eq (ws := vs) f2.1 (fun j hj => (f2.2 j hj).1) hv).trans (wipe_eq (ws := vs) (vs := vs) (wipe_length σ vs) (fun j hj => wipe_keep hj) fun _ h => h), ?_⟩⟩
        have sy : Same H' Hg := fun b o e => mg b o (sy b o e)
        have sm2 : Sm C.F H1 Hg := sm.trans (Sm.of_same sy)
        have smB : ∀ {H3 : Hp}, Sm (C.cmp D0 (.lst av)).F Hg H3 → Sm C.F H1 H3 := fun {H3} s3 b o n e => s3 b o (fun z => z.elim n fun q => by rw [q, nD] at e; cases e) (sm2 b o n e)
        have big : ∀ b, (Fo C.F ρ σ b ∨ b = D0) → Fo (C.cmp D0 (.lst av)).F ρ1 σ2 b := fun b h => by
          rcases h with (h | ⟨j, xs, h1, h2⟩) | h
          · exact .inl (.inl h)
          · have hj := own_out j xs h1
            have hj2 : j ∉ ws := fun z => hj (hv j z)
            refine .inr ⟨j, xs, ⟨?_, h1.2⟩, ?_⟩
            · rw [(f2.2 j hj2).2]
              have : ∀ us : List Nat, j ∉ us → (wipeR ρ us)[j]? = ρ[j]? := fun us => by
                induction us with
                | nil => intro _; rfl
                | cons u us ih =>
                  intro hu
                  simp only [List.mem_cons, not_or] at hu
                  unfold wipeR
                  rw [List.getElem?_set_ne (fun e => hu.1 e.symm), ih hu.2]
              rw [this vs hj]; exact h1.1
            · rw [(f2.2 j hj2).1, wipe_keep hj, h2]
          · exact .inl (.inr h)
        have raB : ∀ {H3 : Hp}, Sm (C.cmp D0 (.lst av)).F Hg H3 → Reps K (fun b => Fo C.F ρ σ b ∨ b = D0) H3 av ad := fun {H3} s3 => (ra.same (Sm.of_same sy)).same (s3.mono fun b h => h.elim (fun z => .inl (.inl z)) .inr)
        refine ⟨C.cmp D0 (.lst av), ρ1, t, A2, ?_⟩
        unfold noEx at q
        cases et : tt ρ1 t with
        | bad => rw [et] at q; exact q.elim
        | ex n fs t' => rw [et] at q; exact q.elim
        | ok c t3 =>
          rw [et] at q
          intro c' H3 s3 i3 ec
          cases ec
          cases c with
          | false =>
            rw [if_neg Bool.false_ne_true]
            exact ⟨t3, av, ad, C.less i3.1 big, i3.2, raB s3, Nat.le_succ_of_le hl, smB s3, q⟩
          | true =>
            rw [if_pos rfl]
            have A3 := A2.next s3 i3
            refine ⟨C.cmp D0 (.lst av), ρ1, t3, A3, ?_⟩
            simp only [Res.bind_ok, if_true] at q
            cases ee : te ρ1 t3 with
            | bad => rw [ee] at q; exact q.elim
            | ex n fs t' => rw [ee] at q; exact q.elim
            | ok y t4 =>
              rw [ee] at q
              intro yv H4 s4 i4 ry
              have s34 : Sm (C.cmp D0 (.lst av)).F Hg H4 := s3.trans s4
              have yB : Rep K (fun b => Fo C.F ρ σ b ∨ b = D0) H4 yv y := Rep.anti ry big
              refine ⟨av, i4.2, Nat.lt_of_le_of_lt hl (Nat.lt_of_lt_of_le hi hlen), t4, av ++ [yv], ad ++ [y], ?_, upd_same, ?_, by rw [List.length_append]; exact Nat.succ_le_succ hl, ?_, ?_⟩
              · refine C.step _ _ _ _ _ (C.less i4.1 big) (fun b o h e => ?_) ⟨fun b o n e => by rw [upd_ne (fun z => n (.inr z))]; exact e, fun b h => .inl h⟩
                rw [upd_ne (fun z => nF0 (by rw [← z]; exact .inl h))]
                exact e
              · have sp4 : Stp (fun b => Fo C.F ρ σ b ∨ b = D0) H4 (fun b => Fo C.F ρ σ b ∨ b = D0) (upd H4 D0 (.lst (av ++ [yv]))) := ⟨fun b o n e => by rw [upd_ne (fun z => n (.inr z))]; exact e, fun b h => .inl h⟩
                exact Reps.step sp4 ((raB s34).snoc yB)
              · intro b o n e
                have nb : b ≠ D0 := fun z => by rw [z, nD] at e; cases e
                rw [upd_ne nb]
                exact smB s34 b o n e
              · simp only [noEx, Res.bind_ok] at q
                cases ec : compL g tt te (wipeR ρ vs) (ds.drop (i + 1)) t4 with
                | ok zs t5 => rw [ec] at q; simp only [Res.bind_ok, List.append_assoc, List.singleton_append] at q ⊢; exact q
                | ex n fs t5 => rw [ec] at q; exact q
                | bad => rw [ec] at q; exact q
    · rintro H' ⟨t, av, ad, iv, hD, ra, hl, sm, q⟩
      rw [List.drop_length] at q
      simp only [compL, Res.bind_ok, List.append_nil] at q
      exact q (.ref D0) H' sm (C.less iv fun _ => .inl) ⟨D0, av, rfl, nF0, nD, hD, ra, iv⟩
  · exact p1.elim
theorem mf_lc {elt tg iter : Expr} {ifs : List Expr} {scope : Scope} {own : List (Str × Nat)} {ws : List Nat} {pos : Pos} {mi : ME τ (List D)} {g : Tgt} {tt : ME τ Bool} {te : ME τ D} (hc : X.calm = true) (hN : X.N.Nodup) (hi : PI X tg iter (tIO X.K W mi)) (ok : BlkOk X.N X.env.scope scope own)
    (hv : ∀ j, j ∈ ws → j ∈ own.map (·.2))
    (hg : ∀ (s : Shared) (H : Hp) (C : Addr) (cl : List (Str × Addr)) (fp : List Addr), PG (X.blk s H scope (compEnvC scope cl C X.env) fp) tg (tTg τ X.K g ws)) (ht : ∀ (s : Shared) (H : Hp) (C : Addr) (cl : List (Str × Addr)) (fp : List Addr), PTs (X.blk s H scope (compEnvC scope cl C X.env) fp) ifs (tT X.K W0 tt))
    (he : ∀ (s : Shared) (H : Hp) (C : Addr) (cl : List (Str × Addr)) (fp : List Addr), PE (X.blk s H scope (compEnvC scope cl C X.env) fp) elt (tE X.K W0 te)) (hs : ∀ x, foldedSetIterable iter X.env x = pure x := by intro _; rfl) :
    PE X (.ListComp elt [⟨tg, iter, ifs, 0⟩] scope pos) (tF X.K W (eComp mi (own.map (·.2)) g tt te)) := PE.imp (pe_lc hc hN hi ok hg ht he hs) fun _ _ _ p => lc_red hv p
theorem ms_lc {s : Stmt} {i : Nat} {mi : ME τ (List D)} {vs ws : List Nat} {g : Tgt} {tt : ME τ Bool} {te : ME τ D} (hv : ∀ j, j ∈ ws → j ∈ vs) (h : PS X s (tAsg (tLc (tIO X.K W mi) (tTg τ X.K g ws) (tT X.K W0 tt) (tE X.K W0 te) vs) (gName i))) :
    PS X s (tS X.K W (sAsg (gN i) (eLst (eComp mi vs g tt te)))) := ms_set (PS.imp h fun σ _ _ p => by
  obtain ⟨C, ρ, t, A, p⟩ := p
  refine lc_red hv ⟨C, ρ, t, A, ?_⟩
  unfold eLst at p
  cases e : eComp mi vs g tt te ρ t with
  | ok d t' =>
    rw [e] at p
    intro v H' s i r
    obtain ⟨a, us, rfl, n, q, l, r, _⟩ := r
    exact p _ H' s i (.lst ⟨n, .inl l⟩ (r.anti fun _ => .inl))
  | ex n fs t' => rw [e] at p; exact p
  | bad => rw [e] at p; exact p)
theorem mts_nil : PTs X [] (tT X.K W (fun (_ : Rho) (t : τ) => .ok true t)) := ⟨fun pins s σ H Q I ⟨C, ρ, t, A, p⟩ => pts_nil.run pins s σ H Q I (p true H (Sm.refl _ _) A.st rfl)⟩
theorem mts_one {c : Expr} {m : ME τ Bool} (h : PT X c (tT X.K W m)) : PTs X [c] (tT X.K W m) := pts_one h
end

section
variable {τ : Type} [Sto τ]
def FPost (K : Fg) (C : SC τ) (H : Hp) (r : Res τ D) (Q : VK) (E : XK) : Prop := match r with
  | .ok d t' => ∀ v H', Sm C.F H H' → C.Iv t' C.F H' → Rep K C.F H' v d → Q v H'
  | .ex n fs t' => ∀ cls dd H', Sm C.F H H' → C.Iv t' C.F H' → XRep K C.F H' n fs cls dd → E cls dd H'
  | .bad => False
def spF (np : Nat) (K : Fg) (m : List D → τ → Res τ D) : Sp := fun vs H Q E => ∃ (C : SC τ) (ds : List D) (t : τ), Sto.ok K C ∧ C.Iv t C.F H ∧ Reps K C.F H vs ds ∧ ds.length = np ∧ FPost K C H (m ds t) Q E
def runB (n : Nat) (mb : MS τ) : List D → τ → Res τ D := fun ds t => match mb (ds.map Slot.val ++ List.replicate (n - ds.length) .no) t with
  | .nx _ t' => .ok .non t'
  | .rt d t' => .ok d t'
  | .ex n fs _ t' => .ex n fs t'
  | _ => .bad
theorem noOwnStart {ds : List D} {n i : Nat} {x : Slot} : ¬ ((ds.map Slot.val ++ List.replicate n Slot.no)[i]? = some x ∧ x.mine = true) := fun ⟨h, hm⟩ => by
  rw [List.getElem?_append] at h
  split at h
  · rw [List.getElem?_map] at h
    cases e : ds[i]? with
    | none => rw [e] at h; cases h
    | some d => rw [e] at h; cases h; cases hm
  · rw [List.getElem?_replicate] at h
    split at h
    · cases h; cases hm
    · cases h
theorem FoStart {F : Fp} {ds : List D} {n : Nat} {σ : St} {b : Addr} (h : Fo F (ds.map Slot.val ++ List.replicate n .no) σ b) : F b := by
  rcases h with h | ⟨i, xs, h1, _⟩
  · exact h
  · exact absurd h1 noOwnStart
theorem At.start {K : Fg} {C : SC τ} {N : List Str} {vs : List V} {ds : List D} {t : τ} {H : Hp} (okC : Sto.ok K C) (iv : C.Iv t C.F H) (r : Reps K C.F H vs ds) (hl : ds.length ≤ N.length) : At K C (ds.map Slot.val ++ List.replicate (N.length - ds.length) .no) t (start N vs) H where
  okC := okC
  st := C.less iv fun _ => FoStart
  len := by
    unfold L2.start
    rw [List.length_append, List.length_append, List.length_map, List.length_map, List.length_replicate, List.length_replicate, r.length]
  val := fun i d h => by
    rw [List.getElem?_append] at h
    split at h
    · rename_i hi
      rw [List.getElem?_map] at h
      cases e : ds[i]? with
      | none => rw [e] at h; cases h
      | some d' =>
        rw [e] at h
        cases h
        obtain ⟨v, h1, h2⟩ := r.get e
        refine ⟨v, ?_, h2.anti fun _ => FoStart⟩
        unfold L2.start
        rw [List.getElem?_append_left (by rw [List.length_map]; exact (List.getElem?_eq_some_iff.mp h1).1), List.getElem?_map, h1]
        rfl
    · rw [List.getElem?_replicate] at h
      split at h <;> cases h
  mine := fun i xs h => absurd h noOwnStart
  dis := fun i j xs ys h => absurd h noOwnStart
theorem fn_mk {P : Program} {w : World} {K : Fg} {mg : Str → Option Value} {base : Heap} {x qual : Str} {params : Arguments} {body : List Stmt} {scope : Scope} {dvs : List V} {kws : List (Str × V)} {f : Addr} {fd : FuncData} {N ps : List Str} {k : Nat}
    (F : FunD K x qual params body scope dvs kws f fd) (S : FnScope N ps scope) (mb : MS τ)
    (hb : ∀ (cdv : Value) (A : Around) (outer : List Env) (s : Shared) (H : Hp) (E : XK), Room k (A.deeper (envOfC qual scope s.heap.objs.size f cdv)) →
      PSs (cxOf (L2.CX P w) P w K mg base N qual scope f cdv A outer s H E) body (tS K (fun cls d _ H => E cls d H) mb)) : FnOk P w K mg base (L2.CX P w) (k + 1) f fd ps (spF ps.length K (runB N.length mb)) := by
  have hpl : ps.length ≤ N.length := by have := congrArg List.length S.pre; rw [List.length_take] at this; omega
  refine F.ok S (fun vs H Q E ⟨C, ds, t, _, _, r, hl, _⟩ => r.length.trans hl) fun cdv A outer s H vs Q E hr ⟨C, ds, t, okC, iv, r, hl, p⟩ => ⟨_, hb cdv A outer s H E hr, C, _, t, At.start okC iv r (by rw [hl]; exact hpl), ?_⟩
  unfold runB at p
  cases e : mb (ds.map Slot.val ++ List.replicate (N.length - ds.length) .no) t with
  | nx ρ' t' =>
    rw [e] at p
    exact fun σ' H' s' A' => p .non H' (fun b o n e => s'.keep b o (fun z => n (FoStart z)) e) (C.less A'.st fun _ => .inl) .non
  | rt d t' =>
    rw [e] at p
    exact fun v H' s' i r => p v H' (fun b o n e => s' b o (fun z => n (FoStart z)) e) i r
  | ex n fs ρ' t' =>
    rw [e] at p
    exact fun cls dd σ' H' s' A' x => p cls dd H' (fun b o n e => s'.keep b o (fun z => n (FoStart z)) e) (C.less A'.st fun _ => .inl) (x.anti fun _ => .inl)
  | bk ρ' t' => rw [e] at p; exact p.elim
  | ct ρ' t' => rw [e] at p; exact p.elim
  | bad => rw [e] at p; exact p.elim

structure Def (P : Program) (w : World) (K : Fg) (mg : Str → Option Value) (base : Heap) (k : Nat) (x : Str) (np : Nat) (df : List D) (m : List D → τ → Res τ D) : Prop where
  ex : ∃ (fd : FuncData) (ps : List Str) (ds : List Value) (dvs : List V), FnOk P w K mg base (L2.CX P w) k (He.ga K x) fd ps (spF np K m) ∧ mg x = some (.ref (He.ga K x)) ∧ PySem.W.keepIn K (.ref (He.ga K x)) = true ∧ Binds K fd ps ds ∧ Vals dvs ds ∧ (∀ F H, Reps K F H dvs df)

section
variable {X : Cx} {W : WX} {σc : Type}
def ALen {α : Type} (a : ME τ (List α)) (n : Nat) : Prop := ∀ ρ t ds t', a ρ t = .ok ds t' → ds.length = n
theorem alen_nil {α : Type} : ALen (aNil (τ := τ) (α := α)) 0 := fun _ _ _ _ e => by cases e; rfl
theorem alen_cons {α : Type} {a : ME τ α} {b : ME τ (List α)} {n : Nat} (h : ALen b n) : ALen (aCons a b) (n + 1) := fun ρ t ds t' e => by
  unfold aCons at e
  cases e1 : a ρ t with
  | ok d t1 =>
    rw [e1, Res.bind_ok] at e
    cases e2 : b ρ t1 with
    | ok es t2 =>
      rw [e2, Res.bind_ok] at e
      cases e
      show es.length + 1 = n + 1
      rw [h _ _ _ _ e2]
    | ex n fs t2 => rw [e2] at e; cases e
    | bad => rw [e2] at e; cases e
  | ex n fs t1 => rw [e1] at e; cases e
  | bad => rw [e1] at e; cases e
def eCall (m : List D → Unit → Res Unit D) (df : List D) (a : ME τ (List D)) : ME τ D := fun ρ t => (a ρ t).bind fun ds t => match m (ds ++ df) () with
  | .ok d _ => .ok d t
  | .ex n fs _ => .ex n fs t
  | .bad => .bad
def SC.pure (F : Fp) (H1 : Hp) (dm : Dom F H1) : SC Unit where
  F := F
  Iv := fun _ G H' => Stp F H1 G H' ∧ ∀ b o, F b → H1 b = some o → H' b = some o
  dom := fun _ G H' b h hb => by
    cases e : H1 b with
    | none => exact absurd e (dm b hb)
    | some o => rw [h.2 b o hb e]; intro z; cases z
  step := fun _ G H G' H' h1 h2 s => ⟨h1.1.trans s, fun b o hb e => h2 b o hb (h1.2 b o hb e)⟩
theorem SC.pure_same {F : Fp} {H1 : Hp} {dm : Dom F H1} {G : Fp} {H' : Hp} (h : (SC.pure F H1 dm).Iv () G H') : Same H1 H' := fun b o e => by
  by_cases q : F b
  · exact h.2 b o q e
  · exact h.1.keep b o q e
theorem call_red {np j : Nat} {K : Fg} {m : List D → Unit → Res Unit D} {df : List D} {dvs : List V} {a : ME τ (List D)} {σ : St} {H : Hp} {Q : VK} (hd : ∀ F H, Reps K F H dvs df) (hn : ALen a j) (hj : j + df.length = np) (p : tE K W (eCall m df a) σ H Q) :
    tCallSD (spF np K m) dvs (WE W) (tA K W a) σ H Q := by
  obtain ⟨C, ρ, t, A, p⟩ := p
  refine use okE A p fun ds t1 vs H1 e1 s1 A1 r1 p1 => ?_
  refine ⟨SC.pure (Fo C.F ρ σ) H1 A1.dom, ds ++ df, (), trivial, ⟨Stp.refl _ _, fun _ _ _ e => e⟩, Reps.append r1 (hd _ _), by rw [List.length_append, hn _ _ _ _ e1, hj], ?_⟩
  cases e : m (ds ++ df) () with
  | ok d u =>
    rw [e] at p1
    exact fun v H' s i r => p1 v H' (Sm.of_same (SC.pure_same i)) (C.stay A1.st (SC.pure_same i)) r
  | ex n fs u =>
    rw [e] at p1
    exact fun cls dd H' s i x => p1 cls dd H' (Sm.of_same (SC.pure_same i)) (C.stay A1.st (SC.pure_same i)) x
  | bad =>
    rw [e] at p1
    exact p1.elim
theorem me_call {k np j : Nat} {x : Str} {df : List D} {m : List D → Unit → Res Unit D} {e : Expr} {es : List Expr} {p pos : Pos} {a : ME τ (List D)} (Df : Def X.prog X.w X.K X.mg X.base k x np df m) (hr : Room k X.A) (tk : Takes X W) (hg : Gl X x) (hn : ALen a j)
    (ha : PA X (e :: es) (tA X.K W a)) (hdb : (x == ("__debug__" : Str)) = false := by decide) (hj : j + df.length = np := by rfl) (he : starEach (e :: es) X.env = (false, eval e X.env) :: starEach es X.env := by rfl) (hpl : (backTo pos (starEach es X.env)).any (·.1) = false := by rfl) :
    PE X (.Call (.Name x p) (e :: es) [] pos) (tE X.K W (eCall m df a)) := by
  obtain ⟨fd, ps, ds, dvs, F, hm, hk, hb, hd, hdf⟩ := Df.ex
  exact PE.imp (pe_callSD F hr hg hm hk hb hd (fun σ => passAt tk σ) ha hdb he hpl) fun _ _ _ p => call_red hdf hn hj p
def eCallS (m : List D → τ → Res τ D) (df : List D) (a : ME τ (List D)) : ME τ D := fun ρ t => (a ρ t).bind fun ds t => m (ds ++ df) t
theorem SC.ov_sm {C : SC τ} {F : Fp} {H1 : Hp} {hF : ∀ b, C.F b → F b} {dm : Dom F H1} {t : τ} {G : Fp} {H' : Hp} (h : (SC.ov C F H1 hF dm).Iv t G H') : Sm C.F H1 H' := fun b o n e => by
  by_cases q : F b
  · exact h.2.2 b o q n e
  · exact h.2.1.keep b o q e
theorem callS_red {np j : Nat} {K : Fg} {m : List D → τ → Res τ D} {df : List D} {dvs : List V} {a : ME τ (List D)} {σ : St} {H : Hp} {Q : VK} (hd : ∀ F H, Reps K F H dvs df) (hn : ALen a j) (hj : j + df.length = np) (p : tE K W (eCallS m df a) σ H Q) :
    tCallSD (spF np K m) dvs (WE W) (tA K W a) σ H Q := by
  obtain ⟨C, ρ, t, A, p⟩ := p
  refine use okE A p fun ds t1 vs H1 e1 s1 A1 r1 p1 => ?_
  refine ⟨SC.ov C (Fo C.F ρ σ) H1 (fun _ => Fo.base) A1.dom, ds ++ df, t1, Sto.ov _ _ _ _ _ _ A1.okC, ⟨A1.st, Stp.refl _ _, fun _ _ _ _ e => e⟩, Reps.append r1 (hd _ _), by rw [List.length_append, hn _ _ _ _ e1, hj], ?_⟩
  cases e : m (ds ++ df) t1 with
  | ok d u =>
    rw [e] at p1
    exact fun v H' s i r => p1 v H' (SC.ov_sm i) i.1 r
  | ex n fs u =>
    rw [e] at p1
    exact fun cls dd H' s i x => p1 cls dd H' (SC.ov_sm i) i.1 x
  | bad =>
    rw [e] at p1
    exact p1.elim
theorem me_callS {k np j : Nat} {x : Str} {df : List D} {m : List D → τ → Res τ D} {e : Expr} {es : List Expr} {p pos : Pos} {a : ME τ (List D)} (Df : Def X.prog X.w X.K X.mg X.base k x np df m) (hr : Room k X.A) (tk : Takes X W) (hg : Gl X x) (hn : ALen a j)
    (ha : PA X (e :: es) (tA X.K W a)) (hdb : (x == ("__debug__" : Str)) = false := by decide) (hj : j + df.length = np := by rfl) (he : starEach (e :: es) X.env = (false, eval e X.env) :: starEach es X.env := by rfl) (hpl : (backTo pos (starEach es X.env)).any (·.1) = false := by rfl) :
    PE X (.Call (.Name x p) (e :: es) [] pos) (tE X.K W (eCallS m df a)) := by
  obtain ⟨fd, ps, ds, dvs, F, hm, hk, hb, hd, hdf⟩ := Df.ex
  exact PE.imp (pe_callSD F hr hg hm hk hb hd (fun σ => passAt tk σ) ha hdb he hpl) fun _ _ _ p => callS_red hdf hn hj p

def sRaise (n : Str) : MS τ := fun ρ t => .ex n none ρ t
end
end
end MM

namespace MM
open PySem PySem.Spec PyProof.Rows L2
section
variable {X : Cx} {K : Fg}
theorem DOp2.int0 {g : Int → Int → V} {f : Int → Int → D} (h : ∀ i j F H, Rep K F H (g i j) (f i j)) : DOp2 K (rI0 g) (fun d e => match d, e with
    | .int i, .int j => some (f i j)
    | _, _ => none) := fun F0 F H x y d e z Q dm rx ry q k => by
  dsimp only at q
  split at q
  · cases q
    exact ⟨_, _, rx.intOf, ry.intOf, k _ _ (Same.refl H) (h _ _ _ _)⟩
  · cases q
theorem DOp2.intC {g : Int → Int → V} {f : Int → Int → D} {C : Int → Int → Prop} {c : Int → Int → Bool} (hc : ∀ i j, c i j = true → C i j) (h : ∀ i j F H, c i j = true → Rep K F H (g i j) (f i j)) : DOp2 K (rI C g) (fun d e => match d, e with
    | .int i, .int j => if c i j = true then some (f i j) else none
    | _, _ => none) := fun F0 F H x y d e z Q dm rx ry q k => by
  dsimp only at q
  split at q
  · split at q
    · rename_i hcc
      cases q
      exact ⟨_, _, rx.intOf, ry.intOf, hc _ _ hcc, k _ _ (Same.refl H) (h _ _ _ _ hcc)⟩
    · cases q
  · cases q
def mulOk (i j : Int) : Bool := decide (i.natAbs.log2 + j.natAbs.log2 < 1000000)
def divOk (_ j : Int) : Bool := decide (j ≠ 0 ∧ j.natAbs.log2 < 9000)
def modOk (_ j : Int) : Bool := decide (j ≠ 0)
def powOk (i j : Int) : Bool := decide (0 ≤ j ∧ j ≤ 1000000 ∧ i.natAbs < 2 ^ 64)
def dSub : D → D → Option D := fun d e => match d, e with
  | .int i, .int j => some (.int (i - j))
  | _, _ => none
def dMulI : D → D → Option D := fun d e => match d, e with
  | .int i, .int j => if mulOk i j = true then some (.int (i * j)) else none
  | _, _ => none
def dDiv : D → D → Option D := fun d e => match d, e with
  | .int i, .int j => if divOk i j = true then some (.int (i.fdiv j)) else none
  | _, _ => none
def dMod : D → D → Option D := fun d e => match d, e with
  | .int i, .int j => if modOk i j = true then some (.int (i.fmod j)) else none
  | _, _ => none
def dPow : D → D → Option D := fun d e => match d, e with
  | .int i, .int j => if powOk i j = true then some (.int (i ^ j.toNat)) else none
  | _, _ => none
theorem o_sub : DOp2 K (rI0 fun i j => .int (i - j)) dSub := DOp2.int0 fun _ _ _ _ => .int _
theorem o_mul : DOp2 K (rI CMulW fun i j => .int (i * j)) dMulI := DOp2.intC (fun i j h => (of_decide_eq_true h : i.natAbs.log2 + j.natAbs.log2 < 1000000)) fun _ _ _ _ _ => .int _
def CDivB (_ j : Int) : Prop := j ≠ 0 ∧ j.natAbs.log2 < 9000
theorem op_fdivB : OpR X (binaryOp .FloorDiv) (rI CDivB fun i j => .int (i.fdiv j)) := opI fun i j _ _ _ _ _ hc q => floordiv_int hc.1 q (.inl (PyProof.noPylong_of_log2 hc.2))
theorem o_div : DOp2 K (rI CDivB fun i j => .int (i.fdiv j)) dDiv := DOp2.intC (fun i j h => (of_decide_eq_true h : j ≠ 0 ∧ j.natAbs.log2 < 9000)) fun _ _ _ _ _ => .int _
theorem o_mod : DOp2 K (rI (fun _ j => j ≠ 0) fun i j => .int (i.fmod j)) dMod := DOp2.intC (fun i j h => of_decide_eq_true h) fun _ _ _ _ _ => .int _
theorem o_pow : DOp2 K (rI CPow fun i j => .int (i ^ j.toNat)) dPow := DOp2.intC (fun i j h => (of_decide_eq_true h : 0 ≤ j ∧ j ≤ 1000000 ∧ i.natAbs < 2 ^ 64)) fun _ _ _ _ _ => .int _
def dLt : D → D → Option D := fun d e => match d, e with
  | .int i, .int j => some (.bl (decide (i < j)))
  | _, _ => none
def dLe : D → D → Option D := fun d e => match d, e with
  | .int i, .int j => some (.bl (decide (i ≤ j)))
  | _, _ => none
def dGt : D → D → Option D := fun d e => match d, e with
  | .int i, .int j => some (.bl (decide (j < i)))
  | _, _ => none
def dGe : D → D → Option D := fun d e => match d, e with
  | .int i, .int j => some (.bl (decide (j ≤ i)))
  | _, _ => none
theorem o_lt : DOp2 K (rI0 fun i j => .bl (decide (i < j))) dLt := DOp2.int0 fun _ _ _ _ => .bl _
theorem o_le : DOp2 K (rI0 fun i j => .bl (decide (i ≤ j))) dLe := DOp2.int0 fun _ _ _ _ => .bl _
theorem o_gt : DOp2 K (rI0 fun i j => .bl (decide (j < i))) dGt := DOp2.int0 fun _ _ _ _ => .bl _
theorem o_ge : DOp2 K (rI0 fun i j => .bl (decide (j ≤ i))) dGe := DOp2.int0 fun _ _ _ _ => .bl _
def lim2 (n : Nat) : Bool := decide (n ≤ 16777216)
def dAdd : D → D → Option D := fun d e => match d, e with
  | .int i, .int j => some (.int (i + j))
  | .str x, .str y => if lim2 (x.length + y.length) = true then some (.str (x ++ y)) else none
  | .lst xs, .lst ys => if lim2 (xs.length + ys.length) = true then some (.lst (xs ++ ys)) else none
  | .tup xs, .tup ys => if lim2 (xs.length + ys.length) = true then some (.tup (xs ++ ys)) else none
  | _, _ => none
theorem lim2_le {n : Nat} (h : lim2 n = true) : n ≤ sizeLine := of_decide_eq_true h
theorem Inv.lstR {pins : List (Addr × Obj)} {σ : L2.St} {H : Hp} {s : Shared} {l : Addr} {xs : List V} (I : Inv X pins σ H s) (hH : LsR X.K H l xs) : xs.length ≤ sizeLine ∧ ∃ (its : List Value) (n : Nat), Vals xs its ∧ xs.length = its.length ∧ s.heap.get? l = some { cls := .type "list", data := .seq its.toArray n } := by
  obtain ⟨z, its, n, r, e⟩ := hH.ok I.hok
  exact ⟨z, its, n, r, r.length, e⟩
def rCatL (K : Fg) : R2 := fun x y H Q => ∃ l b xs zs, x = .ref l ∧ y = .ref b ∧ LsR K H l xs ∧ LsR K H b zs ∧ xs.length + zs.length ≤ sizeLine ∧ ∀ p, H p = none → Q (.ref p) (upd H p (.lst (xs ++ zs)))
theorem op_catL : OpR X (binaryOp .Add) (rCatL X.K) := by
  intro pins s σ H x y v u Q I rx ry h
  obtain ⟨l, b, xs, zs, rfl, rfl, hH, hB, hz, q⟩ := h
  cases rx
  cases ry
  obtain ⟨z, its, n, r, hl, e⟩ := Inv.lstR I hH
  obtain ⟨z2, its2, n2, r2, hl2, e2⟩ := Inv.lstR I hB
  refine PySem.P.add_list e e2 ?_ (by rw [List.size_toArray, List.size_toArray]; omega)
  have ea : its.toArray ++ its2.toArray = (its ++ its2).toArray := by simp
  rw [ea]
  exact ⟨.ref _, _, I.lnew (t' := s.toks) (r.append r2) (by rw [List.length_append]; omega), rfl, q _ I.fresh⟩
def rAdd4 (K : Fg) : R2 := fun x y H Q => rI0 (fun i j => V.int (i + j)) x y H Q ∨ (fun x y H Q => (∃ i j, x = .str i ∧ y = .str j ∧ i.length + j.length ≤ sizeLine ∧ Q (.str (i ++ j)) H) ∨ (fun x y H Q => rCatL K x y H Q ∨ rCatA K x y H Q) x y H Q) x y H Q
theorem op_add4 : OpR X (binaryOp .Add) (rAdd4 X.K) := op_add.or (op_add_str.or (op_catL.or op_catA))
theorem o_add : DOp2 K (rAdd4 K) dAdd := fun F0 F H x y d e z Q dm rx ry q k => by
  unfold dAdd at q
  split at q
  · cases q
    exact .inl ⟨_, _, rx.intOf, ry.intOf, k _ _ (Same.refl H) (.int _)⟩
  · split at q
    · rename_i hl
      cases q
      exact .inr (.inl ⟨_, _, rx.strOf, ry.strOf, lim2_le hl, k _ _ (Same.refl H) (.str _)⟩)
    · cases q
  · split at q
    · rename_i hl
      cases q
      obtain ⟨a, vs, rfl, h1, r1⟩ := rx.lstOf
      obtain ⟨b, ws, rfl, h2, r2⟩ := ry.lstOf
      exact .inr (.inr (.inl ⟨a, b, vs, ws, rfl, rfl, h1, h2, by rw [r1.length, r2.length]; exact lim2_le hl, fun p np => k _ _ (same_upd np) (Rep.newLst (r1.append r2) dm np)⟩))
    · cases q
  · split at q
    · rename_i hl
      cases q
      obtain ⟨a, vs, rfl, h1, r1⟩ := rx.tupOf
      obtain ⟨b, ws, rfl, h2, r2⟩ := ry.tupOf
      refine .inr (.inr (.inr ⟨a, b, vs, ws, rfl, rfl, h1.sq, h2.sq, by rw [r1.length, r2.length]; exact lim2_le hl, fun e => ?_, fun _ e => ?_, fun _ _ p np => k _ _ (same_upd np) (Rep.newTup (r1.append r2) dm np)⟩))
      · subst e
        cases r1
        exact k _ _ (Same.refl H) (.tup h2 r2)
      · subst e
        cases r2
        rw [List.append_nil] at k
        exact k _ _ (Same.refl H) (.tup h1 r1)
    · cases q
  · cases q
def dIx : D → D → Option D := fun d e => match d, e with
  | .lst ds, .int i => atI ds i
  | .tup ds, .int i => atI ds i
  | .scr ns, .int i => (atI ns i).map .int
  | .str z, .int i => if lim2 z.length = true then (atI z.cps.toList i).map fun c => .str ⟨#[c]⟩ else none
  | _, _ => none
theorem Reps.atI {F : Fp} {H : Hp} {vs : List V} {ds : List D} {i : Int} {d : D} (r : Reps K F H vs ds) (h : L2.atI ds i = some d) : ∃ v, L2.atI vs i = some v ∧ Rep K F H v d := by
  unfold L2.atI at h ⊢
  rw [r.length]
  cases e : ixN ds.length i with
  | none => rw [e] at h; cases h
  | some j =>
    rw [e] at h
    exact r.get h
theorem o_ix : DOp2 K (rIx K) dIx := fun F0 F H x y d e z Q dm rx ry q k => by
  unfold dIx at q
  split at q
  · obtain ⟨a, vs, rfl, h1, r1⟩ := rx.lstOf
    obtain ⟨v, h2, r2⟩ := r1.atI q
    exact .inl ⟨a, vs, _, v, rfl, ry.intOf, h1.sq, h2, k _ _ (Same.refl H) r2⟩
  · obtain ⟨a, vs, rfl, h1, r1⟩ := rx.tupOf
    obtain ⟨v, h2, r2⟩ := r1.atI q
    exact .inr (.inl ⟨a, vs, _, v, rfl, ry.intOf, h1.sq, h2, k _ _ (Same.refl H) r2⟩)
  · obtain ⟨a, rfl, h1⟩ := rx.scrOf
    rename_i ns i
    cases e : L2.atI ns i with
    | none => rw [e] at q; cases q
    | some n =>
      rw [e] at q
      cases q
      refine .inl ⟨a, _, _, .int n, rfl, ry.intOf, h1.sq, ?_, k _ _ (Same.refl H) (.int n)⟩
      unfold L2.atI at e ⊢
      rw [List.length_map]
      cases e2 : ixN ns.length i with
      | none => rw [e2] at e; cases e
      | some j =>
        rw [e2] at e
        have e' : ns[j]? = some n := e
        show (ns.map V.int)[j]? = some (V.int n)
        rw [List.getElem?_map, e']
        rfl
  · split at q
    · rename_i zs i hl
      cases e : atI zs.cps.toList i with
      | none => rw [e] at q; cases q
      | some c =>
        rw [e] at q
        cases q
        exact .inr (.inr ⟨_, _, c, rx.strOf, ry.intOf, lim2_le hl, e, k _ _ (Same.refl H) (.str _)⟩)
    · cases q
  · cases q
mutual
def py : D → Option PyData
  | .non => some .none
  | .bl b => some (.bool b)
  | .int i => some (.int i)
  | .str x => some (.str x)
  | .tup ds => (pys ds).map .tuple
  | .lst ds => (pys ds).map .list
  | _ => none
def pys : List D → Option (List PyData)
  | [] => some []
  | d :: ds => (py d).bind fun p => (pys ds).map (p :: ·)
end
mutual
theorem dp_of {F0 F : Fp} {H : Hp} : ∀ {d : D} {v : V} {p : PyData}, Rep K F H v d → py d = some p → Dp K H v p
  | .non, _, _, .non, e => by unfold py at e; cases e; exact .non
  | .bl b, _, _, .bl _, e => by unfold py at e; cases e; exact .bl b
  | .int b, _, _, .int _, e => by unfold py at e; cases e; exact .int b
  | .str b, _, _, .str _, e => by unfold py at e; cases e; exact .str b
  | .tup ds, _, _, .tup h r, e => by
    unfold py at e
    cases q : pys ds with
    | none => rw [q] at e; cases e
    | some ps => rw [q] at e; cases e; exact .tup h.sq (dps_of (F0 := F0) r q)
  | .lst ds, _, _, .lst h r, e => by
    unfold py at e
    cases q : pys ds with
    | none => rw [q] at e; cases e
    | some ps => rw [q] at e; cases e; exact .lst h.sq (dps_of (F0 := F0) r q)
theorem dps_of {F0 F : Fp} {H : Hp} : ∀ {ds : List D} {vs : List V} {ps : List PyData}, Reps K F H vs ds → pys ds = some ps → DpAll K H vs ps
  | [], _, _, .nil, e => by unfold pys at e; cases e; exact .nil
  | d :: ds, _, _, .cons r t, e => by
    unfold pys at e
    cases q : py d with
    | none => rw [q] at e; cases e
    | some p =>
      rw [q] at e
      cases q2 : pys ds with
      | none =>
        have e' : (pys ds).map (p :: ·) = some _ := e
        rw [q2] at e'
        cases e'
      | some ps =>
        have e' : (pys ds).map (p :: ·) = some _ := e
        rw [q2] at e'
        cases e'
        exact .cons (dp_of (F0 := F0) r q) (dps_of (F0 := F0) t q2)
end
theorem RepW.dp {F0 F : Fp} {H : Hp} {d : D} {v : V} {p : PyData} (r : RepW K F0 F H v d) (e : py d = some p) : Dp K H v p := by
  cases r with
  | of r => exact dp_of (F0 := F0) r e
  | dct n h r => unfold py at e; cases e
  | lst h r =>
    unfold py at e
    rename_i a vs ds
    cases q : pys ds with
    | none => rw [q] at e; cases e
    | some ps => rw [q] at e; cases e; exact .lst h.sq (dps_of (F0 := F0) r q)
def eqD (d e : D) : Option Bool := match py d, py e with
  | some p, some q => if SeqAt.shaped p = true ∧ SeqAt.shaped q = true then some (PyData.eqv p q) else none
  | _, _ => none
def dEq : D → D → Option D := fun d e => (eqD d e).map .bl
def dNe : D → D → Option D := fun d e => (eqD d e).map fun b => .bl (!b)
theorem eqD_of {d e : D} {b : Bool} (h : eqD d e = some b) : ∃ p q, py d = some p ∧ py e = some q ∧ SeqAt.shaped p = true ∧ SeqAt.shaped q = true ∧ b = PyData.eqv p q := by
  unfold eqD at h
  split at h
  · rename_i p q h1 h2
    split at h
    · rename_i hs
      cases h
      exact ⟨p, q, h1, h2, hs.1, hs.2, rfl⟩
    · cases h
  · cases h
theorem o_eq : DOp2 K (rEqD K) dEq := fun F0 F H x y d e z Q dm rx ry q k => by
  unfold dEq at q
  cases h : eqD d e with
  | none => rw [h] at q; cases q
  | some b =>
    rw [h] at q
    cases q
    obtain ⟨p, p2, h1, h2, h3, h4, rfl⟩ := eqD_of h
    exact ⟨p, p2, rx.dp h1, ry.dp h2, h3, h4, k _ _ (Same.refl H) (.bl _)⟩
theorem o_ne : DOp2 K (rNeD K) dNe := fun F0 F H x y d e z Q dm rx ry q k => by
  unfold dNe at q
  cases h : eqD d e with
  | none => rw [h] at q; cases q
  | some b =>
    rw [h] at q
    cases q
    obtain ⟨p, p2, h1, h2, h3, h4, rfl⟩ := eqD_of h
    exact ⟨p, p2, rx.dp h1, ry.dp h2, h3, h4, k _ _ (Same.refl H) (.bl _)⟩
def isN : D → Bool
  | .non => true
  | _ => false
theorem RepW.isN {F0 F : Fp} {H : Hp} {d : D} {v : V} (r : RepW K F0 F H v d) : decide (v = .non) = MM.isN d := by
  cases r with
  | of r => cases r <;> rfl
  | lst h r => rfl
  | dct n h r => rfl
def dIs : D → D → Option D := fun d e => match e with
  | .non => some (.bl (isN d))
  | _ => none
theorem o_is : DOp2 K (fun x y H Q => y = .non ∧ Q (.bl (decide (x = .non))) H) dIs := fun F0 F H x y d e z Q dm rx ry q k => by
  unfold dIs at q
  split at q
  · cases q
    exact ⟨ry.nonOf, by rw [rx.isN]; exact k _ _ (Same.refl H) (.bl _)⟩
  · cases q
def dNeg : D → Option D
  | .int i => some (.int (-i))
  | _ => none
theorem o_neg : DOp1 K (rU fun i => .int (-i)) dNeg := fun F0 F H x d z Q dm rx q k => by
  unfold dNeg at q
  split at q
  · cases q
    exact ⟨_, rx.intOf, k _ _ (Same.refl H) (.int _)⟩
  · cases q
def fAbs : List D → Option D
  | [.int i] => some (.int (if i < 0 then -i else i))
  | _ => none
theorem c_abs : DCall K (fun xs H Q => ∃ i, xs = [.int i] ∧ Q (.int (if i < 0 then -i else i)) H) fAbs := fun F0 F H xs ds z Q dm r q k => by
  unfold fAbs at q
  split at q
  · cases q
    obtain ⟨v, rfl, r1⟩ := r.one
    exact ⟨_, by rw [r1.intOf], k _ _ (Same.refl H) (.int _)⟩
  · cases q
def fLen : List D → Option D
  | [.lst xs] => some (.int (xs.length : Nat))
  | [.tup xs] => some (.int (xs.length : Nat))
  | [.scr xs] => some (.int (xs.length : Nat))
  | [.str x] => if lim2 x.length = true then some (.int (x.length : Nat)) else none
  | _ => none
def rLen3 (K : Fg) : List V → Hp → VK → Prop := fun xs H Q => (∃ p ys, xs = [.ref p] ∧ (SqL K H p ys ∨ SqT K H p ys) ∧ Q (.int ys.length) H) ∨ ∃ z, xs = [.str z] ∧ z.length ≤ sizeLine ∧ Q (.int z.length) H
theorem call_len3 : CallR X (.builtin "len") (rLen3 X.K) := call_len_seq.or call_len_str
theorem c_len : DCall K (rLen3 K) fLen := fun F0 F H xs ds z Q dm r q k => by
  unfold fLen at q
  split at q
  · cases q
    obtain ⟨v, rfl, r0⟩ := r.one
    obtain ⟨a, vs, rfl, h1, r1⟩ := r0.lstOf
    exact .inl ⟨a, vs, rfl, .inl h1.sq, k _ _ (Same.refl H) (by rw [r1.length]; exact .int _)⟩
  · cases q
    obtain ⟨v, rfl, r0⟩ := r.one
    obtain ⟨a, vs, rfl, h1, r1⟩ := r0.tupOf
    exact .inl ⟨a, vs, rfl, .inr h1.sq, k _ _ (Same.refl H) (by rw [r1.length]; exact .int _)⟩
  · cases q
    obtain ⟨v, rfl, r0⟩ := r.one
    obtain ⟨a, rfl, h1⟩ := r0.scrOf
    exact .inl ⟨a, _, rfl, .inl h1.sq, k _ _ (Same.refl H) (by rw [List.length_map]; exact .int _)⟩
  · split at q
    · rename_i hl
      cases q
      obtain ⟨v, rfl, r1⟩ := r.one
      exact .inr ⟨_, by rw [r1.strOf], lim2_le hl, k _ _ (Same.refl H) (.int _)⟩
    · cases q
  · cases q
def keyOf : D → Option Key
  | .int i => some (.inl i)
  | .str x => some (.inr x)
  | _ => none
theorem keyOf_keyD (k : Key) : keyOf (keyD k) = some k := by cases k <;> rfl
theorem all_keyD (kvs : List (Key × V)) : ((kvs.map fun p => keyD p.1).all fun k => (keyOf k).isSome) = true := by
  rw [List.all_map, List.all_eq_true]
  intro p _
  show (keyOf (keyD p.1)).isSome = true
  rw [keyOf_keyD]; rfl
theorem not_all_tup {es : List EX} (h : es ≠ []) : ((es.map fun p => D.tup (p.1.map D.int)).all fun k => (keyOf k).isSome) ≠ true := by
  cases es with
  | nil => exact absurd rfl h
  | cons p es => simp [keyOf]
def tyN : D → Option String
  | .non => some "NoneType"
  | .bl _ => some "bool"
  | .int _ => some "int"
  | .str _ => some "str"
  | .tup _ => some "tuple"
  | .lst _ => some "list"
  | .dct ks _ => if (ks.all fun k => (keyOf k).isSome) = true then some "dict" else none
  | _ => none
theorem tyX_of {F0 F : Fp} {H : Hp} {v : V} {d : D} {n : String} (r : RepW K F0 F H v d) (h : tyN d = some n) : TyX K H v (.type n) := by
  have lst : ∀ {a : Addr} {vs : List V}, LsR K H a vs → TyX K H (.ref a) (.type "list") := fun {a vs} h => by
    rcases h with h | ⟨o, h⟩
    · exact .base (.lst h)
    · exact .base (.frz h)
  cases r with
  | lst q r => unfold tyN at h; cases h; exact lst q.ls
  | dct n q r =>
    unfold tyN at h
    cases r with
    | k r => dsimp only at h; rw [if_pos (all_keyD _)] at h; cases h; exact .base (.dK q)
    | x ne ox kt r => dsimp only at h; rw [if_neg (not_all_tup ne)] at h; cases h
  | of r =>
    cases r with
    | non => cases h; exact .base .non
    | bl => cases h; exact .base (.bl _)
    | int => cases h; exact .base (.int _)
    | str => cases h; exact .base (.str _)
    | tup q r =>
      cases h
      rcases q with ⟨_, q | ⟨o, q⟩⟩ | ⟨o, its, n, q, q2, _⟩
      · exact .base (.tup q)
      · exact .fTuple q
      · exact .kTuple q q2
    | lst q r => cases h; exact lst q.ls
    | dK n q r => unfold tyN at h; dsimp only at h; rw [if_pos (all_keyD _)] at h; cases h; exact .base (.dK q)
    | dX n ne q ox kt r => unfold tyN at h; dsimp only at h; rw [if_neg (not_all_tup ne)] at h; cases h
    | _ => cases h
def kitN (a b : String) : Option Bool :=
  if (["NoneType", "bool", "int", "str", "tuple", "list", "dict"].contains a && ["int", "bool", "tuple", "list", "str", "dict"].contains b) = true then some (a == b || (a == "bool" && b == "int")) else none
theorem kitN_ok {a b : String} {r : Bool} (h : kitN a b = some r) : kitB a b = some r := by
  unfold kitN at h
  split at h
  · rename_i hc
    have e : (a == b || (a == "bool" && b == "int")) = r := Option.some.inj h
    subst e
    rw [Bool.and_eq_true, List.contains_iff_mem, List.contains_iff_mem] at hc
    obtain ⟨h1, h2⟩ := hc
    simp only [List.mem_cons, List.not_mem_nil, or_false] at h1 h2
    rcases h1 with rfl | rfl | rfl | rfl | rfl | rfl | rfl <;> rcases h2 with rfl | rfl | rfl | rfl | rfl | rfl <;> decide +kernel
  · cases h
def isi (d : D) (n : String) : Option Bool := (tyN d).bind fun a => kitN a n
def fIsi : List D → Option D
  | [d, .ty n] => (isi d n).map .bl
  | _ => none
theorem isi_of {F0 F : Fp} {H : Hp} {v : V} {d : D} {n : String} {b : Bool} (r : RepW K F0 F H v d) (h : isi d n = some b) : ∃ t, TyX K H v t ∧ PySem.W.kitOne K t (.type n) = some b := by
  unfold isi at h
  cases e : tyN d with
  | none => rw [e] at h; cases h
  | some a =>
    rw [e] at h
    exact ⟨_, tyX_of r e, kit_ty (kitN_ok h)⟩
theorem c_isi : DCall K (rIsi K) fIsi := fun F0 F H xs ds z Q dm r q k => by
  unfold fIsi at q
  split at q
  · rename_i d n
    obtain ⟨v, w, rfl, r1, r2⟩ := r.two
    cases e : isi d n with
    | none => rw [e] at q; cases q
    | some b =>
      rw [e] at q
      cases q
      obtain ⟨t, h1, h2⟩ := isi_of r1 e
      cases r2 with
      | of r2 =>
        cases r2
        exact ⟨v, _, t, _, b, rfl, .ty n, h1, h2, k _ _ (Same.refl H) (.bl _)⟩
  · cases q
def strOf (i : Int) : Str := toString i
def cutD (xs : List D) (lo hi : Option Int) : List D := (xs.drop (HT.sIx xs.length 0 lo)).take (HT.sIx xs.length xs.length hi - HT.sIx xs.length 0 lo)
theorem Reps.cut {F : Fp} {H : Hp} {vs : List V} {ds : List D} (r : Reps K F H vs ds) (lo hi : Option Int) : Reps K F H (cutV vs lo hi) (cutD ds lo hi) := by
  unfold cutV cutD
  rw [r.length]
  exact (r.drop _).take _
end
end MM

namespace MM
open PySem PySem.Spec PyProof.Rows L2
section
variable {X : Cx} {W : WX} {τ : Type} [Sto τ] {K : Fg}
def truth : D → Option Bool
  | .non => some false
  | .bl b => some b
  | .int i => some (i != 0)
  | .str x => if lim2 x.length = true then some ((x.length : Int) != 0) else none
  | .lst xs => some (!xs.isEmpty)
  | .tup xs => some (!xs.isEmpty)
  | _ => none
theorem Reps.isEmpty {F : Fp} {H : Hp} {vs : List V} {ds : List D} (r : Reps K F H vs ds) : vs.isEmpty = ds.isEmpty := by cases r <;> rfl
theorem RepW.truV {F0 F : Fp} {H : Hp} {v : V} {d : D} {b : Bool} (r : RepW K F0 F H v d) (h : truth d = some b) : TruV K v H b := by
  cases d <;> first
    | (cases h; done)
    | skip
  · cases h; rw [r.nonOf]; exact rfl
  · cases h; rw [r.blOf]; exact rfl
  · cases h; rw [r.intOf]; exact rfl
  · rw [r.strOf]
    rename_i z
    have h' : (if lim2 z.length = true then some ((z.length : Int) != 0) else none) = some b := h
    split at h'
    · rename_i hl
      cases h'
      exact ⟨lim2_le hl, rfl⟩
    · cases h'
  · cases h
    obtain ⟨a, vs, rfl, q, rs⟩ := r.tupOf
    exact .inr (.inl ⟨vs, q.sq, by rw [rs.isEmpty]⟩)
  · cases h
    obtain ⟨a, vs, rfl, q, rs⟩ := r.lstOf
    exact .inl ⟨vs, q.sq, by rw [rs.isEmpty]⟩
theorem mt_truth {e : Expr} {m : ME τ D} (h : PE X e (tW X.K W m)) (he : ∀ whole, isTrue e X.env whole = (do let v ← whole; standAt e.pos; holding [v] (truthy v)) := by intro _; rfl) : PT X e (tT X.K W (e1 truth m)) :=
  PT.imp (pt_truth h he) fun σ H Q ⟨C, ρ, t, A, p⟩ => by
    refine use okB A p fun d t1 v H1 e1 s1 A1 r1 p1 => ?_
    cases e : truth d with
    | none => rw [e] at p1; exact p1.elim
    | some b =>
      rw [e] at p1
      exact ⟨b, RepW.truV r1 e, p1 _ H1 (Sm.refl _ _) A1.st rfl⟩
def oNone : ME τ (Option Int) := fun _ t => .ok none t
def oSome (m : ME τ D) : ME τ (Option Int) := e1 (fun d => match d with
  | .int i => some (some i)
  | _ => none) m
def rO : Rel (Option Int) (Option Int) := fun _ _ _ _ _ _ v d => v = d
theorem okO : RelOk rO := ⟨fun _ _ _ _ _ _ _ _ _ _ h => h⟩
abbrev tO (K : Fg) (W : WX) (m : ME τ (Option Int)) : TO := tG rO K W m
theorem mo_none : PO X none (tO X.K W (oNone (τ := τ))) := ⟨fun pins s σ H Q I ⟨C, ρ, t, A, p⟩ => po_none.run pins s σ H Q I (p none H (Sm.refl _ _) A.st rfl)⟩
theorem mo_some {e : Expr} {m : ME τ D} (h : PE X e (tE X.K W m)) : PO X (some e) (tO X.K W (oSome m)) := ⟨fun pins s σ H Q I ⟨C, ρ, t, A, p⟩ => (po_some h).run pins s σ H Q I (by
  refine use okO A p fun d t1 v H1 e1 s1 A1 r1 p1 => ?_
  cases d <;> first
    | exact p1.elim
    | (cases r1; exact ⟨_, rfl, p1 _ H1 (Sm.refl _ _) A1.st rfl⟩))⟩
def e3 {α β γ δ : Type} (f : α → β → γ → Option δ) (a : ME τ α) (b : ME τ β) (c : ME τ γ) : ME τ δ := fun ρ t => (a ρ t).bind fun d t => (b ρ t).bind fun e t => (c ρ t).bind fun g t => opt (f d e g) t
def dCutL : D → Option Int → Option Int → Option (List D)
  | .lst ds, lo, hi => some (cutD ds lo hi)
  | _, _, _ => none
def dCutT : D → Option Int → Option Int → Option D
  | .tup ds, lo, hi => some (.tup (cutD ds lo hi))
  | .str z, lo, hi => if lim2 z.length = true then some (.str (cutS z lo hi)) else none
  | _, _, _ => none
theorem new_fin {C : SC τ} {ρ : Rho} {t : τ} {σ : St} {H : Hp} {vs : List V} {ds : List D} {Q : VK} (A : At K C ρ t σ H) (r : Reps K (Fo C.F ρ σ) H vs ds) (p : Post rF K W C (Fo C.F ρ σ) σ H (.ok ds t) Q) : ∀ a, H a = none → Q (.ref a) (upd H a (.lst vs)) := fun a na => by
  have sp : Stp (Fo C.F ρ σ) H (fun b => Fo C.F ρ σ b ∨ b = a) (upd H a (.lst vs)) := ⟨fun b o _ e => same_upd na b o e, fun b h => h.elim .inl fun e => .inr (by rw [e]; exact na)⟩
  exact p _ _ (Sm.of_same (same_upd na)) (C.less (C.stay A.st (same_upd na)) fun _ => id) ⟨a, vs, rfl, fun z => A.dom a z na, na, upd_same, Reps.step sp r, C.step _ _ _ _ _ A.st (fun b o _ e => same_upd na b o e) sp⟩
theorem mf_cut {e : Expr} {lo hi : Option Expr} {p2 pos : Pos} {m : ME τ D} {ml mh : ME τ (Option Int)} (h : PE X e (tW X.K W m)) (hl : PO X lo (tO X.K W ml)) (hh : PO X hi (tO X.K W mh)) : PE X (.Subscript e (.Slice lo hi none p2) pos) (tF X.K W (e3 dCutL m ml mh)) :=
  PE.imp (pe_slice sl_list h hl hh) fun σ H Q ⟨C, ρ, t, A, p⟩ => by
    refine use okF A p fun d t1 v H1 e1 s1 A1 r1 p1 => ?_
    refine use okF A1 p1 fun l t2 l' H2 e2 s2 A2 rl p2 => ?_
    refine use okF A2 p2 fun u t3 u' H3 e3 s3 A3 ru p3 => ?_
    cases rl
    cases ru
    cases d <;> first
      | exact p3.elim
      | skip
    obtain ⟨a, vs, rfl, q, rs⟩ := (RepW.same (RepW.same r1 s2 fun _ => Fo.base) s3 fun _ => Fo.base).lstOf
    exact ⟨a, vs, rfl, q.sq, new_fin A3 (rs.cut _ _) p3⟩
theorem me_cutT {e : Expr} {lo hi : Option Expr} {p2 pos : Pos} {m : ME τ D} {ml mh : ME τ (Option Int)} (h : PE X e (tW X.K W m)) (hl : PO X lo (tO X.K W ml)) (hh : PO X hi (tO X.K W mh)) : PE X (.Subscript e (.Slice lo hi none p2) pos) (tE X.K W (e3 dCutT m ml mh)) :=
  PE.imp (pe_slice (sl_tupA.or sl_str) h hl hh) fun σ H Q ⟨C, ρ, t, A, p⟩ => by
    refine use okE A p fun d t1 v H1 e1 s1 A1 r1 p1 => ?_
    refine use okE A1 p1 fun l t2 l' H2 e2 s2 A2 rl p2 => ?_
    refine use okE A2 p2 fun u t3 u' H3 e3 s3 A3 ru p3 => ?_
    cases rl
    cases ru
    have rd := RepW.same (RepW.same r1 s2 fun _ => Fo.base) s3 fun _ => Fo.base
    cases d <;> first
      | exact p3.elim
      | skip
    · rename_i z
      unfold dCutT at p3
      dsimp only at p3
      split at p3
      · rename_i hz
        exact .inr ⟨z, rd.strOf, lim2_le hz, p3 _ H3 (Sm.refl _ _) A3.st (.str _)⟩
      · exact p3.elim
    · obtain ⟨a, vs, rfl, q, rs⟩ := rd.tupOf
      refine .inl ⟨a, vs, rfl, q.sq, fun hw => ?_, fun _ b nb => p3 _ _ (Sm.of_same (same_upd nb)) (C.stay A3.st (same_upd nb)) (Rep.newTup (rs.cut _ _) A3.dom nb)⟩
      refine p3 _ H3 (Sm.refl _ _) A3.st ?_
      show Rep X.K _ H3 (V.ref a) (.tup (cutD _ _ _))
      unfold cutD
      rw [← rs.length, hw.1, hw.2, List.drop_zero, Nat.sub_zero, rs.length, List.take_length]
      exact .tup q rs
def fTup : List D → Option D
  | [.lst ds] => some (.tup ds)
  | [.tup ds] => some (.tup ds)
  | _ => none
theorem c_tup : DCall K (fun xs H Q => ∃ p ys, xs = [.ref p] ∧ ((SqL K H p ys ∧ ∀ l, H l = none → Q (.ref l) (upd H l (.tup ys))) ∨ (SqT K H p ys ∧ Q (.ref p) H))) fTup := fun F0 F H xs ds z Q dm r q k => by
  unfold fTup at q
  split at q
  · cases q
    obtain ⟨v, rfl, r0⟩ := r.one
    obtain ⟨a, vs, rfl, h1, r1⟩ := r0.lstOf
    exact ⟨a, vs, rfl, .inl ⟨h1.sq, fun l nl => k _ _ (same_upd nl) (Rep.newTup r1 dm nl)⟩⟩
  · cases q
    obtain ⟨v, rfl, r0⟩ := r.one
    obtain ⟨a, vs, rfl, h1, r1⟩ := r0.tupOf
    exact ⟨a, vs, rfl, .inr ⟨h1.sq, k _ _ (Same.refl H) (.tup h1 r1)⟩⟩
  · cases q
def fLst : List D → Option (List D)
  | [.lst ds] => some ds
  | [.tup ds] => some ds
  | _ => none
theorem mf_list {x : Str} {e : Expr} {es : List Expr} {p pos : Pos} {ms : ME τ (List D)} (hg : Gl X x) (hm : X.mg x = none) (hv : bootBuiltins x = some (.type "list"))
    (ha : PA X (e :: es) (tAW X.K W ms)) (hn : x ≠ "__name__" := by decide) (hdb : (x == ("__debug__" : Str)) = false := by decide)
    (he : starEach (e :: es) X.env = (false, eval e X.env) :: starEach es X.env := by rfl) (hpl : (backTo pos (starEach es X.env)).any (·.1) = false := by rfl) :
    PE X (.Call (.Name x p) (e :: es) [] pos) (tF X.K W (MM.e1 fLst ms)) := PE.imp (pe_callTy call_list_of hg hm hv ha hn hdb he hpl) fun σ H Q ⟨C, ρ, t, A, p⟩ => by
  refine use okF A p fun ds t1 v H1 e1 s1 A1 r1 p1 => ?_
  unfold fLst at p1
  split at p1
  · obtain ⟨v, rfl, r0⟩ := RepsW.one r1
    obtain ⟨a, vs, rfl, h1, rs⟩ := r0.lstOf
    exact ⟨a, vs, rfl, .inl h1.sq, new_fin A1 rs p1⟩
  · obtain ⟨v, rfl, r0⟩ := RepsW.one r1
    obtain ⟨a, vs, rfl, h1, rs⟩ := r0.tupOf
    exact ⟨a, vs, rfl, .inr h1.sq, new_fin A1 rs p1⟩
  · exact p1.elim
theorem me_glob {x : Str} {v : V} {u : Value} {d : D} {pos : Pos} (hg : Gl X x) (hm : X.mg x = some u) (r : RelV v u) (rd : ∀ F H, Rep X.K F H v d) (hd : (x == ("__debug__" : Str)) = false := by decide) : PE X (.Name x pos) (tE X.K W (eC (τ := τ) d)) := me_c (pe_glob hg hm r hd) rd
theorem me_type {x : Str} {n : String} {pos : Pos} (hg : Gl X x) (hm : X.mg x = none) (hv : bootBuiltins x = some (.type n)) (hn : x ≠ "__name__" := by decide) (hd : (x == ("__debug__" : Str)) = false := by decide) : PE X (.Name x pos) (tE X.K W (eC (τ := τ) (.ty n))) :=
  me_c (pe_bltn (v := .ty n) hg hm hv rfl hn hd) fun _ _ => .ty n
end
theorem Def.mk' {τ : Type} [Sto τ] {P : Program} {w : World} {K : Fg} {mg : Str → Option Value} {base : Heap} {x qual : Str} {params : Arguments} {body : List Stmt} {scope : Scope} {dvs : List V} {kws : List (Str × V)} {fd : FuncData} {N ps : List Str} {k : Nat} {df : List D}
    (F : FunD K x qual params body scope dvs kws (He.ga K x) fd) (hm : mg x = some (.ref (He.ga K x))) (S : FnScope N ps scope) (mb : MS τ) (hb : ∃ ds dv, Vals dv ds ∧ Binds K fd ps ds ∧ ∀ F H, Reps K F H dv df)
    (hbody : ∀ (cdv : Value) (A : Around) (outer : List Env) (s : Shared) (H : Hp) (E : XK), Room k (A.deeper (envOfC qual scope s.heap.objs.size (He.ga K x) cdv)) →
      PSs (cxOf (L2.CX P w) P w K mg base N qual scope (He.ga K x) cdv A outer s H E) body (tS K (fun cls d _ H => E cls d H) mb)) : Def P w K mg base (k + 1) x ps.length df (runB N.length mb) := by
  obtain ⟨ds, dv, h1, h2, h3⟩ := hb
  exact ⟨fd, ps, ds, dv, fn_mk F S mb hbody, hm, F.kp, h2, h1, h3⟩
theorem Def.mono {τ : Type} [Sto τ] {P : Program} {w : World} {K : Fg} {mg : Str → Option Value} {base : Heap} {j k : Nat} {x : Str} {np : Nat} {df : List D} {m : List D → τ → Res τ D} (F : Def P w K mg base j x np df m) (h : j ≤ k) : Def P w K mg base k x np df m := by
  obtain ⟨fd, ps, ds, dv, F, r⟩ := F.ex
  exact ⟨fd, ps, ds, dv, F.mono h, r⟩
end MM

namespace MM
open PySem PySem.Spec PyProof.Rows L2
def Glc (K : Fg) (mg : Str → Option Value) (x : Str) (d : D) : Prop := ∃ v u, mg x = some u ∧ RelV v u ∧ ∀ F H, Rep K F H v d
section
variable {X : Cx} {W : WX} {τ : Type} [Sto τ] {K : Fg}
theorem me_g {x : Str} {d : D} {pos : Pos} (g : Glc X.K X.mg x d) (hg : Gl X x) (hd : (x == ("__debug__" : Str)) = false := by decide) : PE X (.Name x pos) (tE X.K W (eC (τ := τ) d)) := by
  obtain ⟨v, u, h1, h2, h3⟩ := g
  exact me_glob hg h1 h2 h3 hd
def isi2 (d : D) (n1 n2 : String) : Option Bool := (isi d n1).bind fun b => if b = true then some true else isi d n2
theorem me_isi2 {x a b : Expr} {k : Nat} {p pos tp : Pos} {m : ME τ D} {n1 n2 : String} (hg : Gl X "isinstance") (hm : X.mg "isinstance" = none) (h : PE X x (tW X.K W m)) (ha : PE X a (tC (.ty n1))) (hb : PE X b (tC (.ty n2)))
    (he1 : starEach [x, .Tuple [a, b] k tp] X.env = (false, eval x X.env) :: starEach [.Tuple [a, b] k tp] X.env := by rfl) (he2 : starEach [.Tuple [a, b] k tp] X.env = (false, eval (.Tuple [a, b] k tp) X.env) :: starEach [] X.env := by rfl)
    (he3 : starEach [a, b] X.env = (false, eval a X.env) :: starEach [b] X.env := by rfl) (he4 : starEach [b] X.env = (false, eval b X.env) :: starEach [] X.env := by rfl) (hpl : (backTo pos (starEach [.Tuple [a, b] k tp] X.env)).any (·.1) = false := by rfl) :
    PE X (.Call (.Name "isinstance" p) [x, .Tuple [a, b] k tp] [] pos) (tE X.K W (e1 (fun d => (isi2 d n1 n2).map .bl) m)) :=
  PE.imp (pe_callB call_isiT hg hm (by decide +kernel) (pa_cons h (pa_cons (pe_tup (pa_cons ha (pa_cons hb pa_nil he4) he3)) pa_nil he2) he1) (by decide) (by decide) he1 hpl) fun σ H Q ⟨C, ρ, t, A, q⟩ => by
    refine use okE A q fun d t1 v H1 e1 s1 A1 r1 p1 => ?_
    refine ⟨by show 2 ≤ sizeLine; decide, fun tq ntq => ?_⟩
    have p2 : Post rE X.K W C (Fo C.F ρ σ) σ H1 (opt ((isi2 d n1 n2).map D.bl) t1) Q := p1
    cases e : isi2 d n1 n2 with
    | none => rw [e] at p2; exact p2.elim
    | some c =>
      rw [e] at p2
      have fin : Q (.bl c) (upd H1 tq (.tup [.ty n1, .ty n2])) := p2 _ _ (Sm.of_same (same_upd ntq)) (C.stay A1.st (same_upd ntq)) (.bl c)
      unfold isi2 isi at e
      cases et : tyN d with
      | none => rw [et] at e; cases e
      | some a =>
        rw [et] at e
        have ty := tyX_of (RepW.same r1 (Sm.of_same (same_upd (o := .tup [.ty n1, .ty n2]) ntq)) fun _ => Fo.base) et
        refine ⟨v, tq, _, _, [.type n1, .type n2], c, rfl, upd_same, .cons (.ty n1) (.cons (.ty n2) .nil), ty, ?_, fin⟩
        cases e1 : kitN a n1 with
        | none =>
          have e' : ((kitN a n1).bind fun b => if b = true then some true else kitN a n2) = some c := e
          rw [e1] at e'
          cases e'
        | some b1 =>
          have e' : ((kitN a n1).bind fun b => if b = true then some true else kitN a n2) = some c := e
          rw [e1] at e'
          cases b1 with
          | true =>
            cases e'
            exact kitAny_cons (kit_ty (kitN_ok e1)) (fun z => by cases z) fun _ => rfl
          | false =>
            have e2 : kitN a n2 = some c := e'
            refine kitAny_cons (kit_ty (kitN_ok e1)) (fun _ => ?_) fun z => by cases z
            exact kitAny_cons (kit_ty (kitN_ok e2)) (fun z => by rw [z]; exact kitAny_nil) fun z => z
end
structure ExcF (K : Fg) (mg : Str → Option Value) (n : Str) : Prop where
  x : PySem.W.excIn K (He.ga K n) He.veBase "ValueError.__new__" = true
  g : mg n = some (.ref (He.ga K n))
  k : PySem.W.keepIn K (.ref (He.ga K n)) = true
  b : PySem.W.subIn K (.ref (He.ga K n)) (.type "BaseException") = some true
  t : PySem.W.typeIn K (.ref (He.ga K n)) = some (.type "type")
theorem tk_cx {P : Program} {w : World} {K : Fg} {mg : Str → Option Value} {base : Heap} {N : List Str} {qual : Str} {scope : Scope} {f : Addr} {cd : Value} {A : Around} {outer : List Env} {s : Shared} {H : Hp} {E : XK} :
    Takes (cxOf (L2.CX P w) P w K mg base N qual scope f cd A outer s H E) (fun cls d _ H => E cls d H) := takes_of rfl rfl rfl rfl
theorem po_cx {P : Program} {w : World} {K : Fg} {mg : Str → Option Value} {base : Heap} {N : List Str} {qual : Str} {scope : Scope} {f : Addr} {cd : Value} {A : Around} {outer : List Env} {s : Shared} {H : Hp} {E : XK} :
    PassesOwn (model (cxOf (L2.CX P w) P w K mg base N qual scope f cd A outer s H E).prog (cxOf (L2.CX P w) P w K mg base N qual scope f cd A outer s H E).w) (cxOf (L2.CX P w) P w K mg base N qual scope f cd A outer s H E).A (cxOf (L2.CX P w) P w K mg base N qual scope f cd A outer s H E).env (cxOf (L2.CX P w) P w K mg base N qual scope f cd A outer s H E).xe := PassesOwn.leaving
end MM

namespace MM
open PySem PySem.Spec PyProof.Rows L2
structure Dk where
  a : Addr
  b : Addr
  scr : D
  big : List Int
  pos : Nat
  cnt : Nat
structure DkAt (K : Fg) (F : Fp) (t : Dk) (G : Fp) (H : Hp) : Prop where
  fa : F t.a
  fb : F t.b
  ne : t.a ≠ t.b
  cells : ∃ sv, Rep K G H sv t.scr ∧ H t.a = some (.lst [sv, .ref t.b, .int (t.pos : Nat), .int (t.cnt : Nat)]) ∧ H t.b = some (.lst (t.big.map V.int))
structure DkOk (K : Fg) (C : SC Dk) : Prop where
  at_ : ∀ t G H, C.Iv t G H → DkAt K C.F t G H
  up : ∀ (t t' : Dk) (G : Fp) (H H' : Hp) (sv : V), C.Iv t G H → t'.a = t.a → t'.b = t.b → t'.scr = t.scr → H t.a = some (.lst [sv, .ref t.b, .int (t.pos : Nat), .int (t.cnt : Nat)]) → (∀ x, x ≠ t.a → x ≠ t.b → H' x = H x) →
    H' t.a = some (.lst [sv, .ref t.b, .int (t'.pos : Nat), .int (t'.cnt : Nat)]) → H' t.b = some (.lst (t'.big.map V.int)) → C.Iv t' G H'
instance : Sto Dk where
  ok := DkOk
  cmp := fun K C D0 acc nF h => {
    at_ := fun t G H i => by
      have q := h.at_ t G H i.1
      exact ⟨.inl q.fa, .inl q.fb, q.ne, q.cells⟩
    up := fun t t' G H H' sv i e1 e2 e3 ha ho h1 h2 => by
      have q := h.at_ t G H i.1
      refine ⟨h.up t t' G H H' sv i.1 e1 e2 e3 ha ho h1 h2, ?_⟩
      rw [ho D0 (fun z => nF (by rw [z]; exact q.fa)) (fun z => nF (by rw [z]; exact q.fb))]
      exact i.2 }
  ov := fun K C F H1 hF dm h => {
    at_ := fun t G H i => by
      have q := h.at_ t G H i.1
      exact ⟨hF _ q.fa, hF _ q.fb, q.ne, q.cells⟩
    up := fun t t' G H H' sv i e1 e2 e3 ha ho h1 h2 => by
      have q := h.at_ t G H i.1
      have ot : ∀ x, ¬ C.F x → H' x = H x := fun x n => ho x (fun z => n (by rw [z]; exact q.fa)) (fun z => n (by rw [z]; exact q.fb))
      refine ⟨h.up t t' G H H' sv i.1 e1 e2 e3 ha ho h1 h2, ⟨fun b o n e => ?_, i.2.1.new⟩, fun b o hb n e => ?_⟩
      · rw [ot b fun z => n (hF b z)]; exact i.2.1.keep b o n e
      · rw [ot b n]; exact i.2.2 b o hb n e }
  lend := fun K C O H1 hO dm h => {
    at_ := fun t G H i => by
      have q := h.at_ t _ H i.1
      obtain ⟨sv, r, e⟩ := q.cells
      exact ⟨q.fa, q.fb, q.ne, sv, r.anti fun _ => .inl, e⟩
    up := fun t t' G H H' sv i e1 e2 e3 ha ho h1 h2 => by
      have q := h.at_ t _ H i.1
      refine ⟨h.up t t' _ H H' sv i.1 e1 e2 e3 ha ho h1 h2, i.2.1, fun b o hb e => ?_⟩
      rw [ho b (fun z => hO b hb (by rw [z]; exact q.fa)) (fun z => hO b hb (by rw [z]; exact q.fb))]
      exact i.2.2 b o hb e }
section
variable {X : Cx} {W : WX} {K : Fg}
def isDk (i : Nat) (ρ : Rho) (t : Dk) : Bool := match ρ[i]? with
  | some (.val (.at a)) => decide (a = t.a)
  | _ => false
theorem isDk_slot {i : Nat} {ρ : Rho} {t : Dk} {C : SC Dk} {σ : St} {H : Hp} (h : isDk i ρ t = true) (A : At K C ρ t σ H) : σ[i]? = some (some (.ref t.a)) := by
  unfold isDk at h
  split at h
  · rename_i a e
    obtain ⟨v, h1, h2⟩ := A.val i _ e
    cases h2
    rw [h1, of_decide_eq_true h]
  · cases h
def eDk (i j : Nat) : ME Dk D := fun ρ t => if isDk i ρ t = true then (match j with
  | 0 => .ok t.scr t
  | 2 => .ok (.int t.pos) t
  | 3 => .ok (.int t.cnt) t
  | _ => .bad) else .bad
theorem At.dk {C : SC Dk} {ρ : Rho} {t : Dk} {σ : St} {H : Hp} (A : At K C ρ t σ H) : DkAt K C.F t (Fo C.F ρ σ) H := (show DkOk K C from A.okC).at_ _ _ _ A.st
theorem me_dk {i j : Nat} {e : Expr} (h : PE X e (tOp (rIxL X.K) (tVar i) (tC (.int (j : Nat))))) : PE X e (tE X.K W (eDk i j)) := PE.imp h fun σ H Q ⟨C, ρ, t, A, p⟩ => by
  unfold eDk at p
  split at p
  · rename_i hi
    obtain ⟨sv, hs, ha, hb⟩ := A.dk.cells
    refine ⟨_, isDk_slot hi A, ?_⟩
    split at p
    · exact ⟨t.a, _, _, sv, rfl, rfl, .inl (.inl ha), atI_nat (j := 0) rfl, p _ H (Sm.refl _ _) A.st hs⟩
    · exact ⟨t.a, _, _, _, rfl, rfl, .inl (.inl ha), atI_nat (j := 2) rfl, p _ H (Sm.refl _ _) A.st (.int _)⟩
    · exact ⟨t.a, _, _, _, rfl, rfl, .inl (.inl ha), atI_nat (j := 3) rfl, p _ H (Sm.refl _ _) A.st (.int _)⟩
    · exact p.elim
  · exact p.elim
def eDkLen (i : Nat) : ME Dk D := fun ρ t => if isDk i ρ t = true then .ok (.int (t.big.length : Nat)) t else .bad
theorem me_dkLen {i : Nat} {e : Expr} (h : PE X e (tCB (rLen3 X.K) (tCons (tOp (rIxL X.K) (tVar i) (tC (.int 1))) tNil))) : PE X e (tE X.K W (eDkLen i)) := PE.imp h fun σ H Q ⟨C, ρ, t, A, p⟩ => by
  unfold eDkLen at p
  split at p
  · rename_i hi
    obtain ⟨sv, hs, ha, hb⟩ := A.dk.cells
    refine ⟨_, isDk_slot hi A, t.a, _, _, _, rfl, rfl, .inl (.inl ha), atI_nat (j := 1) rfl, .inl ⟨t.b, _, rfl, .inl (.inl (.inl hb)), ?_⟩⟩
    rw [List.length_map]
    exact p _ H (Sm.refl _ _) A.st (.int _)
  · exact p.elim
def eDkAt (i : Nat) : ME Dk D := fun ρ t => if isDk i ρ t = true then (match t.big[t.pos]? with
  | some c => .ok (.int c) t
  | none => .bad) else .bad
theorem me_dkAt {i : Nat} {e : Expr} (h : PE X e (tOp (rIxL X.K) (tOp (rIxL X.K) (tVar i) (tC (.int 1))) (tOp (rIxL X.K) (tVar i) (tC (.int 2))))) : PE X e (tE X.K W (eDkAt i)) := PE.imp h fun σ H Q ⟨C, ρ, t, A, p⟩ => by
  unfold eDkAt at p
  split at p
  · rename_i hi
    split at p
    · rename_i c hc
      obtain ⟨sv, hs, ha, hb⟩ := A.dk.cells
      have si := isDk_slot hi A
      refine ⟨_, si, t.a, _, _, _, rfl, rfl, .inl (.inl ha), atI_nat (j := 1) rfl, _, si, t.a, _, _, _, rfl, rfl, .inl (.inl ha), atI_nat (j := 2) rfl, t.b, _, _, _, rfl, rfl, .inl (.inl hb), atI_nat (v := V.int c) ?_, p _ H (Sm.refl _ _) A.st (.int _)⟩
      rw [List.getElem?_map, hc]
      rfl
    · exact p.elim
  · exact p.elim
def sDkBig (i : Nat) (m : ME Dk D) : MS Dk := sDo m fun d ρ t => match d with
  | .int c => if isDk i ρ t = true ∧ t.pos < t.big.length then .nx ρ { t with big := t.big.set t.pos c } else .bad
  | _ => .bad
theorem dk_write {C : SC Dk} {ρ : Rho} {t t' : Dk} {σ : St} {H H' : Hp} {sv : V} (A : At K C ρ t σ H) (e1 : t'.a = t.a) (e2 : t'.b = t.b) (e3 : t'.scr = t.scr) (ha : H t.a = some (.lst [sv, .ref t.b, .int (t.pos : Nat), .int (t.cnt : Nat)])) (ho : ∀ x, x ≠ t.a → x ≠ t.b → H' x = H x)
    (h1 : H' t.a = some (.lst [sv, .ref t.b, .int (t'.pos : Nat), .int (t'.cnt : Nat)])) (h2 : H' t.b = some (.lst (t'.big.map V.int))) : At K C ρ t' σ H' ∧ Sm C.F H H' := by
  have q := A.dk
  have sm : Sm C.F H H' := fun b o n e => by rw [ho b (fun z => n (by rw [z]; exact q.fa)) (fun z => n (by rw [z]; exact q.fb))]; exact e
  exact ⟨A.next sm ((show DkOk K C from A.okC).up t t' _ H H' sv A.st e1 e2 e3 ha ho h1 h2), sm⟩
theorem ms_dkBig {s : Stmt} {i : Nat} {m : ME Dk D} (h : PS X s (tAsg (tE X.K W m) (gSub (tOp (rIxL X.K) (tVar i) (tC (.int 1))) (tOp (rIxL X.K) (tVar i) (tC (.int 2))) rSetL))) : PS X s (tS X.K W (sDkBig i m)) := PS.imp h fun E σ H ⟨C, ρ, t, A, p⟩ => by
  refine useS A p fun d t1 v H1 e1 s1 A1 r1 p1 => ?_
  cases d <;> first
    | exact p1.elim
    | skip
  rename_i c
  cases r1
  dsimp only at p1
  split at p1
  · rename_i hi
    obtain ⟨sv, hs, ha, hb⟩ := A1.dk.cells
    have si := isDk_slot hi.1 A1
    have ne := A1.dk.ne
    refine ⟨_, si, t1.a, _, _, _, rfl, rfl, .inl (.inl ha), atI_nat (j := 1) rfl, _, si, t1.a, _, _, _, rfl, rfl, .inl (.inl ha), atI_nat (j := 2) rfl, t1.b, _, _, t1.pos, rfl, rfl, hb, ?_, ?_⟩
    · unfold ixN
      rw [if_pos (by omega), List.length_map, if_pos (by omega)]
      simp
    · have e : (t1.big.map V.int).set t1.pos (V.int c) = (t1.big.set t1.pos c).map V.int := by rw [List.map_set]
      rw [e]
      obtain ⟨A2, sm⟩ := dk_write (t' := { t1 with big := t1.big.set t1.pos c }) (H' := upd H1 t1.b (.lst ((t1.big.set t1.pos c).map V.int))) A1 rfl rfl rfl ha (fun x _ n => upd_ne n) (by rw [upd_ne ne]; exact ha) upd_same
      exact p1 σ _ (Stp.of_sm sm fun _ => Fo.base) A2
  · exact p1.elim
def sDkSet (i j : Nat) (m : ME Dk D) : MS Dk := sDo m fun d ρ t => match d with
  | .int c => if isDk i ρ t = true ∧ 0 ≤ c then (match j with
    | 2 => .nx ρ { t with pos := c.toNat }
    | 3 => .nx ρ { t with cnt := c.toNat }
    | _ => .bad) else .bad
  | _ => .bad
theorem ms_dkSet {s : Stmt} {i j : Nat} {m : ME Dk D} (h : PS X s (tAsg (tE X.K W m) (gSub (tVar i) (tC (.int (j : Nat))) rSetL))) : PS X s (tS X.K W (sDkSet i j m)) := PS.imp h fun E σ H ⟨C, ρ, t, A, p⟩ => by
  refine useS A p fun d t1 v H1 e1 s1 A1 r1 p1 => ?_
  cases d <;> first
    | exact p1.elim
    | skip
  rename_i c
  cases r1
  dsimp only at p1
  split at p1
  · rename_i hi
    obtain ⟨sv, hs, ha, hb⟩ := A1.dk.cells
    have si := isDk_slot hi.1 A1
    have ne := A1.dk.ne
    have ec : c = (c.toNat : Nat) := by omega
    refine ⟨_, si, ?_⟩
    split at p1
    · refine ⟨t1.a, _, _, 2, rfl, rfl, ha, rfl, ?_⟩
      obtain ⟨A2, sm⟩ := dk_write (t' := { t1 with pos := c.toNat }) (H' := upd H1 t1.a (.lst [sv, .ref t1.b, .int c, .int (t1.cnt : Nat)])) A1 rfl rfl rfl ha (fun x n _ => upd_ne n) (by rw [upd_same]; rw [← ec]) (by rw [upd_ne (Ne.symm ne)]; exact hb)
      exact p1 σ _ (Stp.of_sm sm fun _ => Fo.base) A2
    · refine ⟨t1.a, _, _, 3, rfl, rfl, ha, rfl, ?_⟩
      obtain ⟨A2, sm⟩ := dk_write (t' := { t1 with cnt := c.toNat }) (H' := upd H1 t1.a (.lst [sv, .ref t1.b, .int (t1.pos : Nat), .int c])) A1 rfl rfl rfl ha (fun x n _ => upd_ne n) (by rw [upd_same]; rw [← ec]) (by rw [upd_ne (Ne.symm ne)]; exact hb)
      exact p1 σ _ (Stp.of_sm sm fun _ => Fo.base) A2
    · exact p1.elim
  · exact p1.elim
end
end MM

namespace MM
open PySem PySem.Spec PyProof.Rows L2
section
variable {X : Cx} {W : WX} {τ : Type} [Sto τ] {K : Fg}
theorem PSs.pure {sts : List Stmt} {t : TS} {P : Prop} (h : P → PSs X sts t) : PSs X sts (fun E σ H => P ∧ t E σ H) := ⟨fun pins s σ H D I ⟨p, q⟩ => (h p).run pins s σ H D I q⟩
theorem Fo.setNo {F : Fp} {ρ : Rho} {σ : St} {i : Nat} {v : Option V} {b : Addr} (h : Fo F (ρ.set i .no) (σ.set i v) b) : Fo F ρ σ b := by
  rcases h with h | ⟨j, xs, ⟨h1, hm⟩, h2⟩
  · exact .inl h
  · rcases set_at h1 with ⟨_, e, _⟩ | ⟨ne, h1⟩
    · cases e; cases hm
    · rw [List.getElem?_set_ne ne] at h2
      exact .inr ⟨j, xs, ⟨h1, hm⟩, h2⟩
theorem At.clear {C : SC τ} {ρ : Rho} {t : τ} {σ : St} {H : Hp} (A : At K C ρ t σ H) (i : Nat) (v : Option V) : At K C (ρ.set i .no) t (σ.set i v) H where
  okC := A.okC
  st := C.less A.st fun _ => Fo.setNo
  len := by simp [A.len]
  val := fun j e h => by
    rcases set_at h with ⟨_, e1, _⟩ | ⟨ne, h⟩
    · cases e1
    · obtain ⟨w, h1, h2⟩ := A.val j e h
      exact ⟨w, by rw [List.getElem?_set_ne ne]; exact h1, h2.anti fun _ => Fo.setNo⟩
  mine := fun j xs hh => by
    obtain ⟨h, hm⟩ := hh
    rcases set_at h with ⟨_, e1, _⟩ | ⟨ne, h⟩
    · cases e1; cases hm
    · obtain ⟨a, vs, h1, h2, h3, h4⟩ := A.mine j xs ⟨h, hm⟩
      exact ⟨a, vs, by rw [List.getElem?_set_ne ne]; exact h1, h2, h3, h4.anti fun _ => Fo.setNo⟩
  dis := fun j k xs ys hh1 hh2 e => by
    obtain ⟨h1, m1⟩ := hh1
    obtain ⟨h2, m2⟩ := hh2
    rcases set_at h1 with ⟨_, e1, _⟩ | ⟨n1, h1⟩
    · cases e1; cases m1
    · rcases set_at h2 with ⟨_, e2, _⟩ | ⟨n2, h2⟩
      · cases e2; cases m2
      · rw [List.getElem?_set_ne n1, List.getElem?_set_ne n2] at e
        exact A.dis j k xs ys ⟨h1, m1⟩ ⟨h2, m2⟩ e
theorem Stp.setNo {F : Fp} {ρ : Rho} {σ : St} {i : Nat} {v : Option V} {H : Hp} : Stp (Fo F ρ σ) H (Fo F (ρ.set i .no) (σ.set i v)) H := Stp.less fun _ => Fo.setNo
def tIts (i : Nat) (a : Addr) (bs : List Bool) : TA := fun σ H Q => σ[i]? = some (some (.ref a)) ∧ Q (bs.map V.bl) H
theorem its_nil {i : Nat} {a : Addr} : PA X [] (tIts i a []) := PA.imp pa_nil fun σ H Q ⟨_, p⟩ => p
theorem its_cons {i : Nat} {a : Addr} {b : Bool} {bs : List Bool} {e : Expr} {es : List Expr} (h : PE X e (fun σ H Q => σ[i]? = some (some (.ref a)) ∧ Q (.bl b) H)) (hs : PA X es (tIts i a bs)) (hst : starEach (e :: es) X.env = (false, eval e X.env) :: starEach es X.env := by rfl) :
    PA X (e :: es) (tIts i a (b :: bs)) := PA.imp (pa_cons h hs hst) fun σ H Q ⟨e, p⟩ => ⟨e, e, p⟩
theorem its_is {a D : Addr} {oe : Obj} {pn : List (Addr × Obj)} {i : Nat} {b : Bool} {c : V} {cv : Value} {p pos : Pos} {e1 e2 : Expr} (EC : ExcC X.K D) (hz : Zc (.ref D) none oe) (hf : ∃ vs, oe.data = .fields vs) (hg : Gl (X.suite a ((a, oe) :: pn)) "isinstance") (hm : X.mg "isinstance" = none)
    (h1 : PE (X.suite a ((a, oe) :: pn)) e1 (tVar i)) (h2 : PE (X.suite a ((a, oe) :: pn)) e2 (tC c)) (hc : ∀ u, RelV c u → u = cv) (hk : PySem.W.kitOne X.K (.ref D) cv = some b)
    (hst : starEach [e1, e2] (X.suite a ((a, oe) :: pn)).env = (false, eval e1 (X.suite a ((a, oe) :: pn)).env) :: starEach [e2] (X.suite a ((a, oe) :: pn)).env := by rfl) (hst2 : starEach [e2] (X.suite a ((a, oe) :: pn)).env = (false, eval e2 (X.suite a ((a, oe) :: pn)).env) :: starEach [] (X.suite a ((a, oe) :: pn)).env := by rfl)
    (hpl : (backTo pos (starEach [e2] (X.suite a ((a, oe) :: pn)).env)).any (·.1) = false := by rfl) :
    PE (X.suite a ((a, oe) :: pn)) (.Call (.Name "isinstance" p) [e1, e2] [] pos) (fun σ H Q => σ[i]? = some (some (.ref a)) ∧ Q (.bl b) H) :=
  PE.imp (pe_callB (call_isE EC hz hf) hg hm (by decide +kernel) (pa_cons h1 (pa_cons h2 pa_nil hst2) hst) (by decide) (by decide) hst hpl) fun σ H Q ⟨e, q⟩ => ⟨_, e, c, cv, b, rfl, hc, hk, q⟩
def sTryL (mb : MS τ) (n0 : Str) (i j : Nat) (bs : List Bool) : MS τ := fun ρ t => match mb ρ t with
  | .ex n none ρ' t' => if n = n0 ∧ i < ρ'.length then .nx ((ρ'.set j (.val (.lst (bs.map D.bl)))).set i .no) t' else .bad
  | .ex _ _ _ _ => .bad
  | r => r
theorem reps_bl {F : Fp} {H : Hp} : ∀ bs : List Bool, Reps K F H (bs.map V.bl) (bs.map D.bl)
  | [] => .nil
  | b :: bs => .cons (.bl b) (reps_bl bs)
theorem ms_tryL {x n : Str} {c : Value} {i j : Nat} {body : List Stmt} {b0 : Stmt} {np pos pos' : Pos} {mb : MS τ} {n0 : Str} {bs : List Bool} (hs : X.stack = X.env :: X.outer) (hf : X.env.frame = some X.env.locals) (hN : X.N.Nodup) (hi : X.N[i]? = some n) (hln : X.env.kindOf n = some .local) (hc : Names X x c)
    (tk : Takes X W) (hij : i ≠ j) (hlen : bs.length ≤ 1000) (hex : PySem.W.exmOne X.K (.ref (He.ga X.K n0)) c = some true)
    (hb : ∀ (W : WX) (pn : List (Addr × Obj)) (xe : Value → Shared → Prop), Takes (X.tr pn xe) W → PassesOwn (model X.prog X.w) X.A X.env xe → PSs (X.tr pn xe) body (tS X.K W mb))
    (hsu : ∀ (a : Addr) (oe : Obj) (pn : List (Addr × Obj)), Zc (.ref (He.ga X.K n0)) none oe → (∃ vs, oe.data = .fields vs) → PS (X.suite a ((a, oe) :: pn)) b0 (tAsg (tLst (tIts i a bs)) (gName j))) :
    PS X (.Try body [.ExceptHandler (some (.Name x np)) (some n) [b0] pos'] [] [] pos) (tS X.K W (sTryL mb n0 i j bs)) := by
  refine PS.imp (ps_try_as (tb := fun W => tS X.K W mb) (ts := fun a cls d E σ H => (cls = .ref (He.ga X.K n0) ∧ d = none) ∧ tAsg (tLst (tIts i a bs)) (gName j) E σ H) hs hf hN hi hln hc tk hb fun a oe cls d pn hz hv => PSs.pure fun ⟨e1, e2⟩ => by
    subst e1 e2
    exact pss_one (hsu a oe pn hz hv)) fun E σ H ⟨C, ρ, t, A, p⟩ => ?_
  refine ⟨C, ρ, t, A, ?_⟩
  unfold sTryL at p
  cases e : mb ρ t with
  | ex m fs ρ' t' =>
    rw [e] at p
    cases fs with
    | some q => exact p.elim
    | none =>
      dsimp only at p
      split at p
      · rename_i em
        obtain ⟨em, il⟩ := em
        subst em
        intro cls dd σ' H' s' A' x
        obtain ⟨ec, ed⟩ := x
        have ed' : dd = none := ed
        subst ec ed'
        refine ⟨true, hex, fun _ a na => ⟨⟨rfl, rfl⟩, ?_, by rw [List.length_map]; exact Nat.le_of_lt (small1000 hlen), fun q nq => ?_⟩, fun z => by cases z⟩
        · exact List.getElem?_set_self (by rw [A'.len]; exact il)
        · have A1 := A'.clear i (some (V.ref a))
          have sm : Sm C.F H' (upd H' q (.lst (bs.map V.bl))) := fun b o _ e => by rw [upd_ne (fun z => by rw [z, nq] at e; cases e)]; exact e
          have sm2 : ∀ F : Fp, Sm F H' (upd H' q (.lst (bs.map V.bl))) := fun F b o _ e => by rw [upd_ne (fun z => by rw [z, nq] at e; cases e)]; exact e
          have A2 := A1.next sm (C.stay A1.st (fun b o e => sm2 (fun _ => False) b o (fun z => z) e))
          have nf : ¬ Fo C.F (ρ'.set i .no) (σ'.set i (some (V.ref a))) q := fun z => A1.dom q z nq
          have A3 := A2.setVal (i := j) (v := .ref q) (d := .lst (bs.map D.bl)) (.lst ⟨nf, .inl upd_same⟩ (reps_bl bs))
          have A4 := A3.clear i none
          have er : (((ρ'.set i Slot.no).set j (.val (.lst (bs.map D.bl)))).set i .no) = (ρ'.set j (.val (.lst (bs.map D.bl)))).set i .no := by rw [List.set_comm _ _ hij, List.set_set]
          rw [er] at A4
          refine p _ _ ?_ A4
          refine s'.trans ⟨fun b o n e => sm2 (fun _ => False) b o (fun z => z) e, fun b h => ?_⟩
          rw [← er] at h
          exact .inl (Fo.setNo (Fo.setVal (Fo.setNo h)))
      · exact p.elim
  | nx ρ' t' => rw [e] at p; exact p
  | rt d t' => rw [e] at p; exact p
  | bk ρ' t' => rw [e] at p; exact p
  | ct ρ' t' => rw [e] at p; exact p
  | bad => rw [e] at p; exact p
end
end MM

namespace MM
open PySem PySem.Spec PyProof.Rows L2 PySem.NumText PySem.Calls
section
variable {X : Cx} {W : WX} {τ : Type} [Sto τ] {K : Fg}
def tAtm (g : St → Option V) : TE := fun σ H Q => ∃ v, g σ = some v ∧ Q v H
structure Atm (X : Cx) (e : Expr) (m : Rho → Option D) : Prop where
  run : ∃ g, PE X e (tAtm g) ∧ ∀ (τ : Type) (_ : Sto τ) (C : SC τ) (ρ : Rho) (t : τ) (σ : St) (H : Hp), At X.K C ρ t σ H → ∀ d, m ρ = some d → ∃ v, g σ = some v ∧ Rep X.K (Fo C.F ρ σ) H v d
def aVar (i : Nat) : Rho → Option D := fun ρ => match ρ[i]? with
  | some (.val d) => some d
  | _ => none
theorem atm_var {e : Expr} {i : Nat} (h : PE X e (tVar i)) : Atm X e (aVar i) := ⟨fun σ => σ[i]?.join, PE.imp h fun σ H Q ⟨v, h1, h2⟩ => ⟨v, by
    have h1 : σ[i]?.join = some v := h1
    cases q : σ[i]? with
    | none => rw [q] at h1; cases h1
    | some w => rw [q] at h1; rw [show w = some v from h1], h2⟩, fun τ _ C ρ t σ H A d e => by
  unfold aVar at e
  split at e
  · rename_i d' hr
    cases e
    obtain ⟨v, h1, h2⟩ := A.val i _ hr
    exact ⟨v, by show σ[i]?.join = some v; rw [h1]; rfl, h2⟩
  · cases e⟩
def eDct0 : ME τ D := fun _ t => .ok (.dct [] []) t
def eDct1 (k v : Rho → Option D) : ME τ D := fun ρ t => match k ρ, v ρ with
  | some a, some b => if (keyOf a).isSome = true then .ok (.dct [a] [b]) t else .bad
  | _, _ => .bad
theorem me_dct0 {pos : Pos} : PE X (.Dict [] [] pos) (tE X.K W (eDct0 (τ := τ))) := PE.imp pe_dnewK fun σ H Q ⟨C, ρ, t, A, p⟩ q nq =>
  p _ _ (Sm.of_same (same_upd nq)) (C.stay A.st (same_upd nq)) (.dK (kvs := []) (fun z => A.dom q z nq) upd_same .nil)
theorem me_dct1 {k v : Expr} {mk mv : Rho → Option D} {pos : Pos} (hk : Atm X k mk) (hv : Atm X v mv) : PE X (.Dict [some k] [v] pos) (tE X.K W (eDct1 (τ := τ) mk mv)) := by
  obtain ⟨gk, pk, rk⟩ := hk.run
  obtain ⟨gv, pv, rv⟩ := hv.run
  refine PE.imp (pe_disp (pps_cons pk pv pps_nil) rfl rfl (by simp) (by simp)) fun σ H Q ⟨C, ρ, t, A, p⟩ q nq => ?_
  unfold eDct1 at p
  split at p
  · rename_i a b ea eb
    split at p
    · rename_i ok
      obtain ⟨w1, h1, r1⟩ := rk _ _ C ρ t σ H A a ea
      obtain ⟨w2, h2, r2⟩ := rv _ _ C ρ t σ H A b eb
      have fin : ∀ key : Key, kV key = w1 → keyD key = a → Q (.ref q) (upd (upd H q (.dK [])) q (.dK (mergeK [] [(key, w2)]))) := fun key ek ed => by
        have em : mergeK [] [(key, w2)] = [(key, w2)] := rfl
        have same : Same H (upd (upd H q (.dK [])) q (.dK [(key, w2)])) := fun b o e => by rw [upd_ne (ne_of_none e nq), upd_ne (ne_of_none e nq)]; exact e
        rw [em]
        refine p _ _ (Sm.of_same same) (C.stay A.st same) ?_
        rw [← ed]
        exact .dK (kvs := [(key, w2)]) (fun z => A.dom q z nq) upd_same (.cons (r2.same (Sm.of_same same)) .nil)
      refine ⟨w1, h1, w2, h2, upd_same, ?_⟩
      cases a <;> first
        | (cases ok; done)
        | skip
      · cases r1
        exact ⟨[(.inl _, w2)], rfl, by simp, fin _ rfl rfl⟩
      · cases r1
        exact ⟨[(.inr _, w2)], rfl, by simp, fin _ rfl rfl⟩
    · exact p.elim
  · exact p.elim
end
end MM

namespace MM
open PySem PySem.Spec PyProof.Rows L2
abbrev MSd := Rho → Option (D × List Int)
section
variable {X : Cx} {W : WX} {K : Fg}
def SPostD (K : Fg) (C : SC Unit) (F1 : Fp) (H : Hp) (r : Option (D × List Int)) (Q : VK) : Prop := match r with
  | some (d, big) => ∀ sv a b H', Stp F1 H (fun x => C.F x ∨ x = a ∨ x = b) H' → Rep K (fun x => C.F x ∨ x = a ∨ x = b) H' sv d → a ≠ b → H' a = some (.lst [sv, .ref b, .int 0, .int 0]) → H' b = some (.lst (big.map V.int)) → Q (.ref a) H'
  | none => False
theorem SPostD.rebase {C : SC Unit} {F1 F2 : Fp} {H H1 : Hp} {r : Option (D × List Int)} {Q : VK} (h : SPostD K C F1 H r Q) (s : Stp F1 H F2 H1) : SPostD K C F2 H1 r Q := by
  cases r with
  | none => exact h
  | some p =>
    obtain ⟨d, big⟩ := p
    exact fun sv a b H' s' r ne ha hb => h sv a b H' (s.trans s') r ne ha hb
def tSd (K : Fg) (m : MSd) : TS := fun E σ H => ∃ (C : SC Unit) (ρ : Rho), At K C ρ () σ H ∧ SPostD K C (Fo C.F ρ σ) H (m ρ) E.rt
theorem mss_oneD {s : Stmt} {b : MSd} (h : PS X s (tSd X.K b)) : PSs X [s] (tSd X.K b) := pss_one h
def intsD : List D → Option (List Int)
  | [] => some []
  | .int i :: r => (intsD r).map (i :: ·)
  | _ => none
theorem intsD_ok {F : Fp} {H : Hp} : ∀ {vs : List V} {ds : List D} {ns : List Int}, Reps K F H vs ds → intsD ds = some ns → vs = ns.map V.int
  | _, _, ns, .nil, e => by cases e; rfl
  | _, _, ns, .cons (v := v) (vs := vs) (d := d) (ds := ds) r t, e => by
    cases d <;> first
      | (cases e; done)
      | skip
    rename_i i
    cases q : intsD ds with
    | none =>
      have e' : (intsD ds).map (i :: ·) = some ns := e
      rw [q] at e'; cases e'
    | some l =>
      have e' : (intsD ds).map (i :: ·) = some ns := e
      rw [q] at e'
      cases e'
      cases r
      rw [intsD_ok t q]
      rfl
def retD (i : Nat) (m : ME Unit (List D)) : MSd := fun ρ => match aVar i ρ, m ρ () with
  | some d, .ok ds _ => (intsD ds).map fun l => (d, l)
  | _, _ => none
theorem ms_retDk {i : Nat} {n c : Expr} {j1 j2 : Nat} {p1 p2 pos pos' : Pos} {m : ME Unit (List D)} (hn : PE X n (tVar i)) (hc : PE X c (tF X.K W m)) (h1 : starEach [n, c, .Constant (.int 0) j1 p1, .Constant (.int 0) j2 p2] X.env = (false, eval n X.env) :: starEach [c, .Constant (.int 0) j1 p1, .Constant (.int 0) j2 p2] X.env := by rfl)
    (h2 : starEach [c, .Constant (.int 0) j1 p1, .Constant (.int 0) j2 p2] X.env = (false, eval c X.env) :: starEach [.Constant (.int 0) j1 p1, .Constant (.int 0) j2 p2] X.env := by rfl) :
    PS X (.Return (some (.List [n, c, .Constant (.int 0) j1 p1, .Constant (.int 0) j2 p2] pos)) pos') (tSd X.K (retD i m)) :=
  PS.imp (ps_ret (pe_lst (pa_cons hn (pa_cons hc (pa_cons pe_int (pa_cons pe_int pa_nil))  h2) h1))) fun E σ H ⟨C, ρ, A, p⟩ => by
    unfold retD aVar at p
    split at p
    · rename_i d ds u ed em
      split at ed
      · rename_i d' hr
        cases ed
        cases el : intsD ds with
        | none => rw [el] at p; exact p.elim
        | some l =>
          rw [el] at p
          obtain ⟨v, h1, h2⟩ := A.val i _ hr
          refine ⟨v, h1, C, ρ, (), A, ?_⟩
          rw [em]
          intro y H1 sm iv r
          obtain ⟨b, vs, rfl, nb, hb0, hb1, rr, _⟩ := r
          have ev := intsD_ok rr el
          subst ev
          refine ⟨by show 4 ≤ sizeLine; decide, fun a na => ?_⟩
          have ne : a ≠ b := fun z => by rw [z, hb1] at na; cases na
          have key : ∀ x, x = a → Fo C.F ρ σ x ∨ H x = none := fun x e => by
            by_cases q : Fo C.F ρ σ x
            · exact .inl q
            · right
              cases z : H x with
              | none => rfl
              | some o =>
                have := sm x o (fun w => q (.inl w)) z
                rw [e, na] at this; cases this
          have st : Stp (Fo C.F ρ σ) H (fun x => C.F x ∨ x = a ∨ x = b) (upd H1 a (.lst [v, .ref b, .int 0, .int 0])) := ⟨fun x o n e => by
            have e1 := sm x o (fun w => n (.inl w)) e
            rw [upd_ne (fun z => by rw [z, na] at e1; cases e1)]
            exact e1, fun x h => by
            rcases h with h | h | h
            · exact .inl (.inl h)
            · exact key x h
            · rw [h]; exact .inr hb0⟩
          exact p v a b _ st (h2.step st) ne upd_same (by rw [upd_ne (Ne.symm ne)]; exact hb1)
      · cases ed
    · exact p.elim
end
def spDk (np : Nat) (K : Fg) (m : List D → Option (D × List Int)) : Sp := fun vs H Q _ => ∃ (C : SC Unit) (ds : List D), C.Iv () C.F H ∧ Reps K C.F H vs ds ∧ ds.length = np ∧ SPostD K C C.F H (m ds) Q
def runD (n : Nat) (mb : MSd) : List D → Option (D × List Int) := fun ds => mb (ds.map Slot.val ++ List.replicate (n - ds.length) .no)
theorem fn_mkD {P : Program} {w : World} {K : Fg} {mg : Str → Option Value} {base : Heap} {x qual : Str} {params : Arguments} {body : List Stmt} {scope : Scope} {dvs : List V} {kws : List (Str × V)} {f : Addr} {fd : FuncData} {N ps : List Str} {k : Nat}
    (F : FunD K x qual params body scope dvs kws f fd) (S : FnScope N ps scope) (mb : MSd)
    (hb : ∀ (cdv : Value) (A : Around) (outer : List Env) (s : Shared) (H : Hp) (E : XK), Room k (A.deeper (envOfC qual scope s.heap.objs.size f cdv)) →
      PSs (cxOf (L2.CX P w) P w K mg base N qual scope f cdv A outer s H E) body (tSd K mb)) : FnOk P w K mg base (L2.CX P w) (k + 1) f fd ps (spDk ps.length K (runD N.length mb)) := by
  have hpl : ps.length ≤ N.length := by have := congrArg List.length S.pre; rw [List.length_take] at this; omega
  refine F.ok S (fun vs H Q E ⟨C, ds, _, r, hl, _⟩ => r.length.trans hl) fun cdv A outer s H vs Q E hr ⟨C, ds, iv, r, hl, p⟩ => ⟨_, hb cdv A outer s H E hr, C, _, At.start trivial iv r (by rw [hl]; exact hpl), ?_⟩
  unfold runD at p
  exact SPostD.rebase p ⟨fun b o n e => e, fun b h => .inl (FoStart h)⟩
structure DefD (P : Program) (w : World) (K : Fg) (mg : Str → Option Value) (base : Heap) (k : Nat) (x : Str) (np : Nat) (m : List D → Option (D × List Int)) : Prop where
  ex : ∃ (fd : FuncData) (ps : List Str) (ds : List Value), FnOk P w K mg base (L2.CX P w) k (He.ga K x) fd ps (spDk np K m) ∧ mg x = some (.ref (He.ga K x)) ∧ PySem.W.keepIn K (.ref (He.ga K x)) = true ∧ Binds K fd ps ds ∧ Vals [] ds
theorem DefD.mk' {P : Program} {w : World} {K : Fg} {mg : Str → Option Value} {base : Heap} {x qual : Str} {params : Arguments} {body : List Stmt} {scope : Scope} {dvs : List V} {kws : List (Str × V)} {fd : FuncData} {N ps : List Str} {k : Nat}
    (F : FunD K x qual params body scope dvs kws (He.ga K x) fd) (hm : mg x = some (.ref (He.ga K x))) (S : FnScope N ps scope) (mb : MSd) (hb : ∃ ds, Vals [] ds ∧ Binds K fd ps ds)
    (hbody : ∀ (cdv : Value) (A : Around) (outer : List Env) (s : Shared) (H : Hp) (E : XK), Room k (A.deeper (envOfC qual scope s.heap.objs.size (He.ga K x) cdv)) →
      PSs (cxOf (L2.CX P w) P w K mg base N qual scope (He.ga K x) cdv A outer s H E) body (tSd K mb)) : DefD P w K mg base (k + 1) x ps.length (runD N.length mb) := by
  obtain ⟨ds, h1, h2⟩ := hb
  exact ⟨fd, ps, ds, fn_mkD F S mb hbody, hm, F.kp, h2, h1⟩
theorem DefD.mono {P : Program} {w : World} {K : Fg} {mg : Str → Option Value} {base : Heap} {j k : Nat} {x : Str} {np : Nat} {m : List D → Option (D × List Int)} (F : DefD P w K mg base j x np m) (h : j ≤ k) : DefD P w K mg base k x np m := by
  obtain ⟨fd, ps, ds, F, r⟩ := F.ex
  exact ⟨fd, ps, ds, F.mono h, r⟩

theorem stp_or {G G' S : Fp} {H H' : Hp} (s : Stp G H G' H') (h : ∀ b o, S b → H b = some o → H' b = some o) : Stp (fun x => G x ∨ S x) H (fun x => G' x ∨ S x) H' :=
  ⟨fun b o n e => s.keep b o (fun z => n (.inl z)) e, fun b h => h.elim (fun z => (s.new b z).elim (fun z => .inl (.inl z)) .inr) fun z => .inl (.inr z)⟩
structure DkIv (K : Fg) (a b : Addr) (t : Dk) (G : Fp) (H : Hp) : Prop where
  ea : t.a = a
  eb : t.b = b
  ne : a ≠ b
  cells : ∃ sv, Rep K (fun x => G x ∨ (x = a ∨ x = b)) H sv t.scr ∧ H a = some (.lst [sv, .ref b, .int (t.pos : Nat), .int (t.cnt : Nat)]) ∧ H b = some (.lst (t.big.map V.int))
def SC.dk (K : Fg) (a b : Addr) : SC Dk where
  F := fun x => x = a ∨ x = b
  Iv := DkIv K a b
  dom := fun t G H x h hx => by
    obtain ⟨sv, _, h2, h3⟩ := h.cells
    rcases hx with rfl | rfl
    · rw [h2]; intro z; cases z
    · rw [h3]; intro z; cases z
  step := fun t G H G' H' h1 h2 s => by
    obtain ⟨sv, r, e1, e2⟩ := h1.cells
    exact ⟨h1.ea, h1.eb, h1.ne, sv, r.step (stp_or s h2), h2 _ _ (.inl rfl) e1, h2 _ _ (.inr rfl) e2⟩
theorem dkOk (K : Fg) (a b : Addr) : DkOk K (SC.dk K a b) where
  at_ := fun t G H i => by
    obtain ⟨sv, r, e1, e2⟩ := i.cells
    refine ⟨.inl i.ea, .inr i.eb, by rw [i.ea, i.eb]; exact i.ne, sv, r.anti fun _ => .inl, by rw [i.ea, i.eb]; exact e1, by rw [i.eb]; exact e2⟩
  up := fun t t' G H H' sv i ea eb es ha ho h1 h2 => by
    obtain ⟨sv', r, e1, e2⟩ := i.cells
    have esv : sv' = sv := by
      rw [i.ea, e1] at ha
      injection ha with ha
      injection ha with ha
      injection ha with ha
    subst esv
    rw [i.ea] at h1 ho
    rw [i.eb] at h1 h2 ho
    refine ⟨by rw [ea]; exact i.ea, by rw [eb]; exact i.eb, i.ne, sv', ?_, h1, h2⟩
    rw [es]
    exact r.same fun x o n e => by rw [ho x (fun z => n (.inr (.inl z))) (fun z => n (.inr (.inr z)))]; exact e
theorem At.toDk {K : Fg} {C : SC Unit} {ρ : Rho} {σ : St} {H H' : Hp} {sv : V} {a b : Addr} {i : Nat} {d : D} {big : List Int} (A : At K C ρ () σ H) (hF : ∀ x, ¬ C.F x) (hno : ∀ (j : Nat) (x : Slot), ¬ (ρ[j]? = some x ∧ x.mine = true))
    (s : Stp (Fo C.F ρ σ) H (fun x => C.F x ∨ x = a ∨ x = b) H') (r : Rep K (fun x => C.F x ∨ x = a ∨ x = b) H' sv d) (ne : a ≠ b) (ha : H' a = some (.lst [sv, .ref b, .int 0, .int 0])) (hb : H' b = some (.lst (big.map V.int))) :
    At K (SC.dk K a b) (ρ.set i (.val (.at a))) ⟨a, b, d, big, 0, 0⟩ (σ.set i (some (.ref a))) H' := by
  have hno' : ∀ (j : Nat) (x : Slot), ¬ ((ρ.set i (.val (.at a)))[j]? = some x ∧ x.mine = true) := fun j xs ⟨h, hm⟩ => by
    rcases set_at h with ⟨_, e, _⟩ | ⟨_, h⟩
    · cases e; cases hm
    · exact hno j xs ⟨h, hm⟩
  have sub : ∀ x, Fo (SC.dk K a b).F (ρ.set i (.val (.at a))) (σ.set i (some (.ref a))) x → C.F x ∨ x = a ∨ x = b := fun x h => by
    rcases h with h | ⟨j, xs, h, _⟩
    · exact .inr h
    · exact absurd h (hno' j xs)
  exact {
    okC := dkOk K a b
    st := ⟨rfl, rfl, ne, sv, r.anti fun x h => h.elim (sub x) .inr, ha, hb⟩
    len := by simp [A.len]
    val := fun j e h => by
      rcases set_at h with ⟨rfl, e1, hl⟩ | ⟨nj, h⟩
      · cases e1
        exact ⟨_, List.getElem?_set_self (by rw [A.len]; exact hl), .at a⟩
      · obtain ⟨w, h1, h2⟩ := A.val j e h
        exact ⟨w, by rw [List.getElem?_set_ne nj]; exact h1, (h2.step s).anti sub⟩
    mine := fun j xs h => absurd h (hno' j xs)
    dis := fun j k xs ys h => absurd h (hno' j xs) }
def lawIs (n : Nat) (m : List D → Option (D × List Int)) (rest : MS Dk) (ns : List Int) : Prop := ∃ d big, m [.scr ns] = some (d, big) ∧ ∀ a b, ∃ t, rest ((Slot.val (.scr ns) :: List.replicate (n - 1) .no).set 1 (.val (.at a))) ⟨a, b, d, big, 0, 0⟩ = .rt (.bl true) t
def spLaw (K : Fg) (n : Nat) (m : List D → Option (D × List Int)) (rest : MS Dk) : Sp := fun vs H Q _ => ∃ (a : Addr) (ns : List Int), vs = [.ref a] ∧ SqL K H a (ns.map V.int) ∧ lawIs n m rest ns ∧ ∀ H', Q (.bl true) H'
section
variable {P : Program} {w : World} {K : Fg} {mg : Str → Option Value} {base : Heap}
theorem start_none {n : Nat} {d : D} {j : Nat} {x : Slot} : ¬ ((Slot.val d :: List.replicate n .no)[j]? = some x ∧ x.mine = true) := by
  rintro ⟨h, hm⟩
  cases j with
  | zero => cases h; cases hm
  | succ j =>
    rw [List.getElem?_cons_succ, List.getElem?_replicate] at h
    split at h
    · cases h; cases hm
    · cases h
end
section
variable {chk : Chk} {fn : List He.DefD} {K : Fg}
theorem SaysM.fact (c : SaysM chk fn K) (i : Nat) {f : Fg → Bool} (h : chk[i]? = some f := by rfl) : f K = true := by
  have c1 := (He.ba (show ((chk.all fun f => f K) && fn.all fun d => d.ok K) = true from congrArg (fun z : He.AlD => z.1) c)).1
  exact List.all_eq_true.mp c1 f (List.mem_of_getElem? h)
theorem SaysM.def_ (c : SaysM chk fn K) (i : Nat) {d : He.DefD} (h : fn[i]? = some d := by rfl) : ∃ fd, FunD K d.name d.qual d.params d.body d.scope (d.dvs K) (d.kws K) (He.fAd K d.at_) fd := by
  have c2 := (He.ba (show ((chk.all fun f => f K) && fn.all fun d => d.ok K) = true from congrArg (fun z : He.AlD => z.1) c)).2
  have e : fn.map (fun d => He.fnW K d.at_) = fn.map He.DefD.val := congrArg (fun z : He.AlD => z.2) c
  have e2 : (fn.map fun d => He.fnW K d.at_)[i]? = (fn.map He.DefD.val)[i]? := by rw [e]
  rw [List.getElem?_map, List.getElem?_map, h] at e2
  exact He.DefD.funD (Option.some.inj e2) (List.all_eq_true.mp c2 d (List.mem_of_getElem? h))
end
end MM

namespace MM
open PySem PySem.Spec PyProof.Rows L2
section
variable {K : Fg} {h : Heap} {mg : Str → Option Value}
theorem cGlo_ok {x : Str} (X : K.In h) (G : h.Ns mainGlobals mg) (c : cGlo x K = true) : mg x = some (.ref (He.ga K x)) := He.glo_ok X G c
theorem cFree_ok {x : Str} (X : K.In h) (G : h.Ns mainGlobals mg) (c : cFree x K = true) : mg x = none := He.free_ok X G c
theorem cExc_ok {x : Str} (X : K.In h) (G : h.Ns mainGlobals mg) (c : cExc x K = true) : ExcF K mg x := by
  obtain ⟨c, g⟩ := He.ba c
  have c' : (PySem.W.excIn K (He.ga K x) He.veBase "ValueError.__new__" && (PySem.W.keepIn K (.ref (He.ga K x)) && (decide (PySem.W.subIn K (.ref (He.ga K x)) (.type "BaseException") = some true) && decide (PySem.W.typeIn K (.ref (He.ga K x)) = some (.type "type"))))) = true := c
  obtain ⟨c1, c'⟩ := He.ba c'
  obtain ⟨c2, c'⟩ := He.ba c'
  obtain ⟨c3, c4⟩ := He.ba c'
  exact ⟨c1, He.glo_ok X G g, c2, of_decide_eq_true c3, of_decide_eq_true c4⟩
theorem cExcC_ok {x : Str} (c : cExcC x K = true) : ExcC K (He.ga K x) := by
  unfold cExcC at c
  obtain ⟨c1, c⟩ := He.ba c
  obtain ⟨c2, c⟩ := He.ba c
  obtain ⟨c3, c⟩ := He.ba c
  obtain ⟨c4, c⟩ := He.ba c
  obtain ⟨c5, c⟩ := He.ba c
  obtain ⟨c6, c⟩ := He.ba c
  obtain ⟨c7, c8⟩ := He.ba c
  exact ⟨of_decide_eq_true c1, of_decide_eq_true c2, of_decide_eq_true c3, c4, of_decide_eq_true c5, of_decide_eq_true c6, of_decide_eq_true c7, of_decide_eq_true c8⟩
theorem cKit_ok {x : Str} {v : Fg → Value} {b : Bool} (c : cKit x v b K = true) : PySem.W.kitOne K (.ref (He.ga K x)) (v K) = some b := of_decide_eq_true c
theorem cExm_ok {x : Str} {v : Fg → Value} {b : Bool} (c : cExm x v b K = true) : PySem.W.exmOne K (.ref (He.ga K x)) (v K) = some b := of_decide_eq_true c
end
mutual
theorem isDV_ok {K : Fg} : ∀ (n : Nat) (v : Value) (d : D), isDV K n v d = true → ∃ x : V, RelV x v ∧ ∀ F H, Rep K F H x d := by
  intro n v d h
  unfold isDV at h
  split at h
  · exact ⟨.non, rfl, fun _ _ => .non⟩
  · rename_i b c
    have e : b = c := eq_of_beq h
    subst e
    exact ⟨.bl b, rfl, fun _ _ => .bl _⟩
  · rename_i i t j
    have e : i = j := of_decide_eq_true h
    subst e
    exact ⟨.int i, ⟨t, rfl⟩, fun _ _ => .int _⟩
  · rename_i i t j
    have e : i = j := of_decide_eq_true h
    subst e
    exact ⟨.str i, ⟨t, rfl⟩, fun _ _ => .str _⟩
  · rename_i n a ds
    split at h
    · rename_i c od its m sl q
      obtain ⟨h1, h⟩ := He.ba h
      obtain ⟨h2, h3⟩ := He.ba h
      obtain ⟨xs, r1, r2⟩ := isDVs_ok n its.toList ds h3
      exact ⟨.ref a, rfl, fun F H => .tup (.inr ⟨_, its, m, q, congrArg Value.type (of_decide_eq_true h1), rfl, of_decide_eq_true h2, r1⟩) (r2 F H)⟩
    · cases h
  · cases h
theorem isDVs_ok {K : Fg} : ∀ (n : Nat) (vs : List Value) (ds : List D), isDVs K n vs ds = true → ∃ xs : List V, Vals xs vs ∧ ∀ F H, Reps K F H xs ds := by
  intro n vs ds h
  unfold isDVs at h
  split at h
  · exact ⟨[], .nil, fun _ _ => .nil⟩
  · rename_i v vs d ds
    obtain ⟨h1, h2⟩ := He.ba h
    obtain ⟨x, r1, r2⟩ := isDV_ok n v d h1
    obtain ⟨xs, q1, q2⟩ := isDVs_ok n vs ds h2
    exact ⟨x :: xs, .cons r1 q1, fun F H => .cons (r2 F H) (q2 F H)⟩
  · cases h
end
theorem cVal_ok {K : Fg} {h : Heap} {mg : Str → Option Value} {x : Str} {d : D} (X : K.In h) (G : h.Ns mainGlobals mg) (c : cVal x d K = true) : Glc K mg x d := by
  unfold cVal at c
  split at c
  · rename_i v e
    obtain ⟨y, r1, r2⟩ := isDV_ok 8 v d c
    exact ⟨y, v, PySem.W.mg_of X G e, r1, r2⟩
  · cases c
theorem room_k {k : Nat} (h : k ≤ 60) : Room k callerA := Room.mono (k := 60) ⟨rfl, by decide, by decide⟩ h
theorem pe_deck {X : Cx} {W : WX} {k : Nat} {x : Str} {m : List D → Option (D × List Int)} {e : Expr} {p pos : Pos} {t : TA} (Df : DefD X.prog X.w X.K X.mg X.base k x 1 m) (hr : Room k X.A) (tk : Takes X W) (hg : Gl X x) (ha : PA X [e] t)
    (hdb : (x == ("__debug__" : Str)) = false := by decide) (he : starEach [e] X.env = (false, eval e X.env) :: starEach [] X.env := by rfl) (hpl : (backTo pos (starEach [] X.env)).any (·.1) = false := by rfl) :
    PE X (.Call (.Name x p) [e] [] pos) (tCallSD (spDk 1 X.K m) [] (WE W) t) := by
  obtain ⟨fd, ps, ds, F, hm, hk, hb, hd⟩ := Df.ex
  exact pe_callSD F hr hg hm hk hb hd (fun σ => passAt tk σ) ha hdb he hpl
end MM

namespace MM
open PySem PySem.Spec PyProof.Rows L2
section
variable {τ : Type}
def oE {α : Type} (r : Res τ α) (Q : α → τ → Prop) (X : Str → Fds → τ → Prop) : Prop := match r with
  | .ok a t => Q a t
  | .ex n fs t => X n fs t
  | .bad => False
structure Pt (τ : Type) where
  nx : Rho → τ → Prop
  rt : D → τ → Prop
  ex : Str → Fds → Rho → τ → Prop := fun _ _ _ _ => False
  bk : Rho → τ → Prop := fun _ _ => False
  ct : Rho → τ → Prop := fun _ _ => False
def oS (r : Fl τ) (P : Pt τ) : Prop := match r with
  | .nx ρ t => P.nx ρ t
  | .rt d t => P.rt d t
  | .ex n fs ρ t => P.ex n fs ρ t
  | .bk ρ t => P.bk ρ t
  | .ct ρ t => P.ct ρ t
  | .bad => False
section
variable {α β γ δ : Type} {Q : α → τ → Prop} {X : Str → Fds → τ → Prop} {P : Pt τ}
@[simp] theorem oE_ok {a : α} {t : τ} : oE (.ok a t) Q X = Q a t := rfl
@[simp] theorem oE_ex {n : Str} {fs : Fds} {t : τ} : oE (α := α) (.ex n fs t) Q X = X n fs t := rfl
@[simp] theorem oE_bad : oE (α := α) .bad Q X = False := rfl
@[simp] theorem oE_bind {r : Res τ β} {k : β → τ → Res τ α} : oE (r.bind k) Q X = oE r (fun b t => oE (k b t) Q X) X := by cases r <;> rfl
@[simp] theorem oE_opt {o : Option α} {t : τ} : oE (opt o t) Q X = ∃ a, o = some a ∧ Q a t := by
  cases o with
  | none => simp [opt, oE]
  | some a => simp [opt, oE]
@[simp] theorem oE_ite {c : Prop} [Decidable c] {a b : Res τ α} : oE (if c then a else b) Q X = ((c → oE a Q X) ∧ (¬ c → oE b Q X)) := by
  by_cases h : c <;> simp [h]
theorem oE_imp {r : Res τ α} {Q' : α → τ → Prop} {X' : Str → Fds → τ → Prop} (h : oE r Q' X') (i : ∀ a t, Q' a t → Q a t) (ix : ∀ n fs t, X' n fs t → X n fs t) : oE r Q X := by
  cases r with
  | ok a t => exact i _ _ h
  | ex n fs t => exact ix _ _ _ h
  | bad => exact h
theorem oE_eq {r : Res τ α} {v : α} {u : τ} (h : oE r (fun a t => a = v ∧ t = u) (fun _ _ _ => False)) : r = .ok v u := by
  cases r with
  | ok a t => obtain ⟨rfl, rfl⟩ := h; rfl
  | ex n fs t => exact h.elim
  | bad => exact h.elim
theorem oE_eqx {r : Res τ α} {n : Str} {fs : Fds} {u : τ} (h : oE r (fun a t => False) (fun m gs t => m = n ∧ gs = fs ∧ t = u)) : r = .ex n fs u := by
  cases r with
  | ok a t => exact h.elim
  | ex m gs t => obtain ⟨rfl, rfl, rfl⟩ := h; rfl
  | bad => exact h.elim
theorem oE_ex' {r : Res τ α} (h : oE r Q (fun _ _ _ => False)) : ∃ a t, r = .ok a t ∧ Q a t := by
  cases r with
  | ok a t => exact ⟨a, t, rfl, h⟩
  | ex n fs t => exact h.elim
  | bad => exact h.elim
theorem oS_imp {r : Fl τ} {P' : Pt τ} (h : oS r P') (i1 : ∀ ρ t, P'.nx ρ t → P.nx ρ t) (i2 : ∀ d t, P'.rt d t → P.rt d t) (i3 : ∀ n fs ρ t, P'.ex n fs ρ t → P.ex n fs ρ t) (i4 : ∀ ρ t, P'.bk ρ t → P.bk ρ t) (i5 : ∀ ρ t, P'.ct ρ t → P.ct ρ t) : oS r P := by
  cases r with
  | nx => exact i1 _ _ h
  | rt => exact i2 _ _ h
  | ex => exact i3 _ _ _ _ h
  | bk => exact i4 _ _ h
  | ct => exact i5 _ _ h
  | bad => exact h
variable {ρ : Rho} {t : τ}
@[simp] theorem oE_var {i : Nat} {Q : D → τ → Prop} : oE (eVar i ρ t) Q X = (match ρ[i]? with | some (.val d) => Q d t | _ => False) := by
  unfold eVar; split <;> simp_all [oE]
@[simp] theorem oE_varW {i : Nat} {Q : D → τ → Prop} : oE (eVarW i ρ t) Q X = (match ρ[i]? with | some (.val d) => Q d t | some (.own xs) => Q (.lst xs) t | some (.dct ks xs) => Q (.dct ks xs) t | _ => False) := by
  unfold eVarW; split <;> simp_all [oE]
@[simp] theorem oE_c {d : D} {Q : D → τ → Prop} : oE (eC d ρ t) Q X = Q d t := rfl
@[simp] theorem oE_e1 {f : β → Option α} {a : ME τ β} : oE (e1 f a ρ t) Q X = oE (a ρ t) (fun d t => ∃ z, f d = some z ∧ Q z t) X := by unfold e1; simp
@[simp] theorem oE_e2 {f : β → γ → Option α} {a : ME τ β} {b : ME τ γ} : oE (e2 f a b ρ t) Q X = oE (a ρ t) (fun d t => oE (b ρ t) (fun e t => ∃ z, f d e = some z ∧ Q z t) X) X := by unfold e2; simp
@[simp] theorem oE_e3 {f : β → γ → δ → Option α} {a : ME τ β} {b : ME τ γ} {c : ME τ δ} : oE (e3 f a b c ρ t) Q X = oE (a ρ t) (fun d t => oE (b ρ t) (fun e t => oE (c ρ t) (fun g t => ∃ z, f d e g = some z ∧ Q z t) X) X) X := by unfold e3; simp
@[simp] theorem oE_not {a : ME τ Bool} {Q : Bool → τ → Prop} : oE (tNot1 a ρ t) Q X = oE (a ρ t) (fun b t => Q (!b) t) X := by unfold tNot1; simp
@[simp] theorem oE_and {a b : ME τ Bool} {Q : Bool → τ → Prop} : oE (tAnd2 a b ρ t) Q X = oE (a ρ t) (fun c t => (c = true → oE (b ρ t) Q X) ∧ (¬ c = true → Q false t)) X := by unfold tAnd2; simp
@[simp] theorem oE_or {a b : ME τ Bool} {Q : Bool → τ → Prop} : oE (tOr2 a b ρ t) Q X = oE (a ρ t) (fun c t => (c = true → Q true t) ∧ (¬ c = true → oE (b ρ t) Q X)) X := by unfold tOr2; simp
@[simp] theorem oE_andE {a b : ME τ D} {Q : D → τ → Prop} : oE (eAnd2 a b ρ t) Q X = oE (a ρ t) (fun d t => ∃ c, asB d = some c ∧ ((c = true → oE (b ρ t) Q X) ∧ (¬ c = true → Q (.bl false) t))) X := by unfold eAnd2; simp
@[simp] theorem oE_notE {a : ME τ D} {Q : D → τ → Prop} : oE (eNot1 a ρ t) Q X = oE (a ρ t) (fun d t => ∃ c, asB d = some c ∧ Q (.bl (!c)) t) X := by unfold eNot1; simp
@[simp] theorem oE_nil {Q : List α → τ → Prop} : oE (aNil ρ t) Q X = Q [] t := rfl
@[simp] theorem oE_cons {a : ME τ α} {b : ME τ (List α)} {Q : List α → τ → Prop} : oE (aCons a b ρ t) Q X = oE (a ρ t) (fun d t => oE (b ρ t) (fun ds t => Q (d :: ds) t) X) X := by unfold aCons; simp
@[simp] theorem oE_tup {a : ME τ (List D)} {Q : D → τ → Prop} : oE (eTup a ρ t) Q X = oE (a ρ t) (fun ds t => ds.length ≤ 16777216 ∧ Q (.tup ds) t) X := by
  unfold eTup; rw [oE_e1]; congr; funext ds t; unfold lim
  by_cases h : ds.length ≤ 16777216 <;> simp [h]
@[simp] theorem ex_lim {ds : List α} {Q : List α → Prop} : (∃ z, lim ds = some z ∧ Q z) ↔ ds.length ≤ 16777216 ∧ Q ds := by
  unfold lim
  by_cases h : ds.length ≤ 16777216 <;> simp [h]
@[simp] theorem oE_lst {a : ME τ (List D)} {Q : D → τ → Prop} : oE (eLst a ρ t) Q X = oE (a ρ t) (fun ds t => Q (.lst ds) t) X := by unfold eLst; simp
@[simp] theorem oE_call {m : List D → Unit → Res Unit D} {df : List D} {a : ME τ (List D)} {Q : D → τ → Prop} : oE (eCall m df a ρ t) Q X = oE (a ρ t) (fun ds t => oE (m (ds ++ df) ()) (fun d _ => Q d t) (fun n fs _ => X n fs t)) X := by
  unfold eCall; rw [oE_bind]; congr; funext ds t
  cases m (ds ++ df) () <;> rfl
@[simp] theorem oE_callS {m : List D → τ → Res τ D} {df : List D} {a : ME τ (List D)} {Q : D → τ → Prop} : oE (eCallS m df a ρ t) Q X = oE (a ρ t) (fun ds t => oE (m (ds ++ df) t) Q X) X := by unfold eCallS; simp
@[simp] theorem oE_oNone {Q : Option Int → τ → Prop} : oE (oNone ρ t) Q X = Q none t := rfl
@[simp] theorem oE_oSome {a : ME τ D} {Q : Option Int → τ → Prop} : oE (oSome a ρ t) Q X = oE (a ρ t) (fun d t => ∃ i, d = .int i ∧ Q (some i) t) X := by
  unfold oSome; rw [oE_e1]; congr; funext d t
  cases d <;> simp
@[simp] theorem oE_dct0 {Q : D → τ → Prop} : oE (eDct0 ρ t) Q X = Q (.dct [] []) t := rfl
@[simp] theorem oE_dct1 {k v : Rho → Option D} {Q : D → τ → Prop} : oE (eDct1 k v ρ t) Q X = (∃ a, k ρ = some a ∧ ∃ b, v ρ = some b ∧ (keyOf a).isSome = true ∧ Q (.dct [a] [b]) t) := by
  unfold eDct1
  cases k ρ with
  | none => simp
  | some a =>
    cases v ρ with
    | none => simp
    | some b =>
      by_cases h : (keyOf a).isSome = true <;> simp [h]
@[simp] theorem aVar_eq {i : Nat} : aVar i ρ = (match ρ[i]? with | some (.val d) => some d | _ => none) := rfl
@[simp] theorem keyOf_int {i : Int} : keyOf (.int i) = some (.inl i) := rfl
@[simp] theorem keyOf_str {i : Str} : keyOf (.str i) = some (.inr i) := rfl
@[simp] theorem oE_run {n : Nat} {b : MS τ} {ds : List D} {Q : D → τ → Prop} : oE (runB n b ds t) Q X = oS (b (ds.map Slot.val ++ List.replicate (n - ds.length) .no) t) { nx := fun _ t => Q .non t, rt := Q, ex := fun n fs _ t => X n fs t } := by
  unfold runB; cases b (ds.map Slot.val ++ List.replicate (n - ds.length) .no) t <;> rfl
@[simp] theorem oS_nx : oS (.nx ρ t) P = P.nx ρ t := rfl
@[simp] theorem oS_rt {d : D} : oS (.rt d t) P = P.rt d t := rfl
@[simp] theorem oS_bk : oS (.bk ρ t) P = P.bk ρ t := rfl
@[simp] theorem oS_ct : oS (.ct ρ t) P = P.ct ρ t := rfl
@[simp] theorem oS_ex {n : Str} {fs : Fds} : oS (.ex n fs ρ t) P = P.ex n fs ρ t := rfl
@[simp] theorem oS_bad : oS .bad P = False := rfl
@[simp] theorem oS_ite {c : Prop} [Decidable c] {a b : Fl τ} : oS (if c then a else b) P = ((c → oS a P) ∧ (¬ c → oS b P)) := by
  by_cases h : c <;> simp [h]
def Nxt (b : MS τ) (ρ : Rho) (t : τ) (P : Pt τ) : Prop := oS (b ρ t) P
@[simp] theorem oS_seq {a b : MS τ} : oS (sSeq a b ρ t) P = oS (a ρ t) { P with nx := fun ρ t => Nxt b ρ t P } := by
  unfold sSeq Nxt; cases a ρ t <;> rfl
@[simp] theorem oS_skip : oS (sSkip ρ t) P = P.nx ρ t := rfl
theorem oS_do {m : ME τ α} {k : α → Rho → τ → Fl τ} : oS (sDo m k ρ t) P = oE (m ρ t) (fun a t => oS (k a ρ t) P) (fun n fs t => P.ex n fs ρ t) := by
  unfold sDo; cases m ρ t <;> rfl
@[simp] theorem oS_asg {i : Nat} {m : ME τ D} : oS (sAsg (gN i) m ρ t) P = oE (m ρ t) (fun d t => P.nx (ρ.set i (.val d)) t) (fun n fs t => P.ex n fs ρ t) := by
  unfold sAsg; rw [oS_do]; rfl
@[simp] theorem oS_asgT {gs : Tgts} {m : ME τ D} : oS (sAsg (gT gs) m ρ t) P = oE (m ρ t) (fun d t => ∃ ρ', gT gs ρ d = some ρ' ∧ P.nx ρ' t) (fun n fs t => P.ex n fs ρ t) := by
  unfold sAsg; rw [oS_do]; congr; funext d t
  cases gT gs ρ d <;> simp
@[simp] theorem gNil_eq : gNil ρ [] = some ρ := rfl
@[simp] theorem gCons_eq {g : Tgt} {gs : Tgts} {d : D} {ds : List D} : gCons g gs ρ (d :: ds) = (g ρ d).bind fun ρ' => gs ρ' ds := rfl
@[simp] theorem gN_eq {i : Nat} {d : D} : gN i ρ d = some (ρ.set i (.val d)) := rfl
@[simp] theorem gT_tup {gs : Tgts} {ds : List D} : gT gs ρ (.tup ds) = gs ρ ds := rfl
@[simp] theorem oS_app {i : Nat} {m : ME τ D} : oS (sApp i m ρ t) P = (match ρ[i]? with | some (.own xs) => oE (m ρ t) (fun d t => xs.length < 16777216 ∧ P.nx (ρ.set i (.own (xs ++ [d]))) t) (fun n fs t => P.ex n fs ρ t) | _ => False) := by
  have key : ∀ o : Option Slot, oS ((match o with
      | some (.own xs) => sDo m (fun d ρ t => if xs.length < 16777216 then .nx (ρ.set i (.own (xs ++ [d]))) t else .bad) ρ t
      | _ => .bad) : Fl τ) P = (match o with | some (.own xs) => oE (m ρ t) (fun d t => xs.length < 16777216 ∧ P.nx (ρ.set i (.own (xs ++ [d]))) t) (fun n fs t => P.ex n fs ρ t) | _ => False) := fun o => by
    cases o with
    | none => rfl
    | some s =>
      cases s with
      | no => rfl
      | val d => rfl
      | dct _ _ => rfl
      | own xs =>
        dsimp only
        rw [oS_do]
        congr; funext d t
        by_cases h : xs.length < 16777216 <;> simp [h]
  exact key (ρ[i]?)
theorem oS_asgG {g : Tgt} {m : ME τ D} : oS (sAsg g m ρ t) P = oE (m ρ t) (fun d t => ∃ ρ', g ρ d = some ρ' ∧ P.nx ρ' t) (fun n fs t => P.ex n fs ρ t) := by
  unfold sAsg; rw [oS_do]; congr; funext d t
  cases g ρ d <;> simp
@[simp] theorem oS_own {i : Nat} {m : ME τ (List D)} : oS (sOwn i m ρ t) P = oE (m ρ t) (fun ds t => P.nx (ρ.set i (.own ds)) t) (fun n fs t => P.ex n fs ρ t) := by
  unfold sOwn; rw [oS_do]; rfl
@[simp] theorem oS_frz {i : Nat} {m : MS τ} : oS (sFrz i m ρ t) P = (match ρ[i]? with | some (.own xs) => oS (m (ρ.set i (.val (.lst xs))) t) P | some (.dct ks xs) => oS (m (ρ.set i (.val (.dct ks xs))) t) P | _ => oS (m ρ t) P) := by
  unfold sFrz; split <;> simp_all
@[simp] theorem oS_ret {m : ME τ D} : oS (sRet m ρ t) P = oE (m ρ t) P.rt (fun n fs t => P.ex n fs ρ t) := by
  unfold sRet; rw [oS_do]; rfl
@[simp] theorem oS_if {c : ME τ Bool} {a b : MS τ} : oS (sIf c a b ρ t) P = oE (c ρ t) (fun k t => (k = true → oS (a ρ t) P) ∧ (¬ k = true → oS (b ρ t) P)) (fun n fs t => P.ex n fs ρ t) := by
  unfold sIf; rw [oS_do]; simp
@[simp] theorem oS_raise {n : Str} : oS (sRaise n ρ t) P = P.ex n none ρ t := rfl
@[simp] theorem oS_for {m : ME τ (List D)} {g : Tgt} {b : MS τ} : oS (sFor m g b ρ t) P = oE (m ρ t) (fun ds t => oS (loopF g b ds ρ t) P) (fun n fs t => P.ex n fs ρ t) := by
  unfold sFor; rw [oS_do]
theorem oS_loop_nil {g : Tgt} {b : MS τ} : oS (loopF g b [] ρ t) P = P.nx ρ t := rfl
theorem oS_loop_cons {g : Tgt} {b : MS τ} {d : D} {ds : List D} : oS (loopF g b (d :: ds) ρ t) P = ∃ ρ1, g ρ d = some ρ1 ∧ oS (b ρ1 t) { P with nx := fun ρ t => oS (loopF g b ds ρ t) P, ct := fun ρ t => oS (loopF g b ds ρ t) P, bk := P.nx } := by
  rw [show loopF g b (d :: ds) = fun ρ t => match g ρ d with
    | some ρ1 => (match b ρ1 t with
      | .nx ρ' t' => loopF g b ds ρ' t'
      | .ct ρ' t' => loopF g b ds ρ' t'
      | .bk ρ' t' => .nx ρ' t'
      | r => r)
    | none => .bad from rfl]
  cases e : g ρ d with
  | none => simp [e]
  | some ρ1 =>
    simp only [e, Option.some.injEq, exists_eq_left']
    cases e2 : b ρ1 t <;> simp
@[simp] theorem oS_tryL {mb : MS τ} {n : Str} {i j : Nat} {bs : List Bool} : oS (sTryL mb n i j bs ρ t) P = oS (mb ρ t) { P with ex := fun m fs ρ t => m = n ∧ fs = none ∧ i < ρ.length ∧ P.nx ((ρ.set j (.val (.lst (bs.map D.bl)))).set i .no) t } := by
  unfold sTryL
  cases mb ρ t with
  | ex m fs ρ' t' =>
    cases fs with
    | some q => simp
    | none =>
      dsimp only
      rw [oS_ite]
      simp only [oS_nx, oS_bad, oS_ex]
      exact propext ⟨fun h => by
        by_cases q : m = n ∧ i < ρ'.length
        · exact ⟨q.1, by first | trivial | rfl, q.2, h.1 q⟩
        · exact (h.2 q).elim, fun h => ⟨fun _ => h.2.2.2, fun q => q ⟨h.1, h.2.2.1⟩⟩⟩
  | _ => rfl
theorem oS_rtEx {r : Fl τ} {R : D → τ → Prop} (h : oS r { nx := fun _ _ => False, rt := R }) : ∃ d t, r = .rt d t ∧ R d t := by
  cases r with
  | rt d t => exact ⟨d, t, rfl, h⟩
  | _ => exact h.elim
theorem compL_ok {g : Tgt} {tt : ME Unit Bool} {te : ME Unit D} {ρ : Rho} {p : D → Prop} : ∀ ds : List D, (∀ d ∈ ds, ∃ ρ1, g ρ d = some ρ1 ∧ ∃ b, tt ρ1 () = .ok b () ∧ (b = true → ∃ y, te ρ1 () = .ok y () ∧ p y)) →
    ∃ ys, compL g tt te ρ ds () = .ok ys () ∧ ∀ y ∈ ys, p y
  | [], _ => ⟨[], rfl, fun y h => by cases h⟩
  | d :: ds, h => by
    obtain ⟨ρ1, e1, b, e2, h3⟩ := h d List.mem_cons_self
    obtain ⟨ys, e4, h4⟩ := compL_ok (p := p) ds fun d hd => h d (List.mem_cons_of_mem _ hd)
    unfold compL
    rw [e1]
    dsimp only
    rw [e2]
    cases b with
    | false => exact ⟨ys, e4, h4⟩
    | true =>
      obtain ⟨y, e5, h5⟩ := h3 rfl
      refine ⟨y :: ys, ?_, fun z hz => by rcases List.mem_cons.mp hz with rfl | hz; exact h5; exact h4 z hz⟩
      simp [noEx, e5, e4]
theorem intsD_all : ∀ ys : List D, (∀ y ∈ ys, ∃ i, y = .int i) → ∃ l, intsD ys = some l
  | [], _ => ⟨[], rfl⟩
  | y :: ys, h => by
    obtain ⟨i, rfl⟩ := h y List.mem_cons_self
    obtain ⟨l, e⟩ := intsD_all ys fun y hy => h y (List.mem_cons_of_mem _ hy)
    exact ⟨i :: l, by show (intsD ys).map (i :: ·) = _; rw [e]; rfl⟩
theorem oS_loop {g : Tgt} {b : MS τ} (I : List D → Rho → τ → Prop) : ∀ (ds : List D) (ρ : Rho) (t : τ), I ds ρ t →
    (∀ d ds ρ t, I (d :: ds) ρ t → ∃ ρ1, g ρ d = some ρ1 ∧ oS (b ρ1 t) { P with nx := I ds, ct := I ds, bk := P.nx }) → (∀ ρ t, I [] ρ t → P.nx ρ t) → oS (loopF g b ds ρ t) P
  | [], ρ, t, h, _, hn => hn ρ t h
  | d :: ds, ρ, t, h, hs, hn => by
    rw [oS_loop_cons]
    obtain ⟨ρ1, e, h1⟩ := hs d ds ρ t h
    exact ⟨ρ1, e, oS_imp h1 (fun ρ t h => oS_loop I ds ρ t h hs hn) (fun _ _ h => h) (fun _ _ _ _ h => h) (fun _ _ h => h) (fun ρ t h => oS_loop I ds ρ t h hs hn)⟩
theorem oS_while [Sto τ] {c : ME τ Bool} {b : MS τ} (I : Nat → Rho → τ → Prop) (hs : ∀ n ρ t, I n ρ t → oE (c ρ t) (fun k t => (k = true → oS (b ρ t) { P with nx := fun ρ t => ∃ m, m < n ∧ I m ρ t, ct := fun ρ t => ∃ m, m < n ∧ I m ρ t, bk := P.nx }) ∧ (¬ k = true → P.nx ρ t)) (fun n fs t => P.ex n fs ρ t)) :
    ∀ (n : Nat) (ρ : Rho) (t : τ), I n ρ t → oS (sWhile c b ρ t) P := by
  intro n
  induction n using Nat.strongRecOn with
  | _ n ih =>
    intro ρ t h
    rw [sWhile_turn, oS_do]
    refine oE_imp (hs n ρ t h) (fun k t1 h1 => ?_) fun _ _ _ h => h
    rw [oS_ite]
    refine ⟨fun hk => ?_, fun hk => h1.2 hk⟩
    have h2 := h1.1 hk
    cases e : b ρ t1 <;> rw [e] at h2
    · obtain ⟨m, hm, h3⟩ := h2; exact ih m hm _ _ h3
    · exact h2
    · exact h2
    · obtain ⟨m, hm, h3⟩ := h2; exact ih m hm _ _ h3
    · exact h2
    · exact h2
end
end
section
variable {Q : D → Dk → Prop} {X : Str → Fds → Dk → Prop} {P : Pt Dk} {ρ : Rho} {t : Dk} {i j : Nat} {m : ME Dk D}
@[simp] theorem isDk_eq : isDk i ρ t = (match ρ[i]? with | some (.val (.at a)) => decide (a = t.a) | _ => false) := rfl
@[simp] theorem oE_dk0 : oE (eDk i 0 ρ t) Q X = (isDk i ρ t = true ∧ Q t.scr t) := by unfold eDk; by_cases h : isDk i ρ t = true <;> simp only [h, if_true, if_false, true_and, false_and, oE_ok, oE_bad, Bool.false_eq_true]
@[simp] theorem oE_dk2 : oE (eDk i 2 ρ t) Q X = (isDk i ρ t = true ∧ Q (.int t.pos) t) := by unfold eDk; by_cases h : isDk i ρ t = true <;> simp only [h, if_true, if_false, true_and, false_and, oE_ok, oE_bad, Bool.false_eq_true]
@[simp] theorem oE_dk3 : oE (eDk i 3 ρ t) Q X = (isDk i ρ t = true ∧ Q (.int t.cnt) t) := by unfold eDk; by_cases h : isDk i ρ t = true <;> simp only [h, if_true, if_false, true_and, false_and, oE_ok, oE_bad, Bool.false_eq_true]
@[simp] theorem oE_dkLen : oE (eDkLen i ρ t) Q X = (isDk i ρ t = true ∧ Q (.int (t.big.length : Nat)) t) := by unfold eDkLen; by_cases h : isDk i ρ t = true <;> simp only [h, if_true, if_false, true_and, false_and, oE_ok, oE_bad, Bool.false_eq_true]
@[simp] theorem oE_dkAt : oE (eDkAt i ρ t) Q X = (isDk i ρ t = true ∧ ∃ c, t.big[t.pos]? = some c ∧ Q (.int c) t) := by
  unfold eDkAt
  by_cases h : isDk i ρ t = true
  · simp only [h, if_true, true_and]
    cases e : t.big[t.pos]? <;> simp
  · simp only [h, if_false, false_and, oE_bad, Bool.false_eq_true]
@[simp] theorem oS_dkBig : oS (sDkBig i m ρ t) P = oE (m ρ t) (fun d t => ∃ c, d = .int c ∧ isDk i ρ t = true ∧ t.pos < t.big.length ∧ P.nx ρ { t with big := t.big.set t.pos c }) (fun n fs t => P.ex n fs ρ t) := by
  unfold sDkBig; rw [oS_do]; congr; funext d t
  cases d <;> simp only [oS_bad, reduceCtorEq, false_and, exists_false, D.int.injEq, exists_eq_left']
  rename_i c
  by_cases h : isDk i ρ t = true ∧ t.pos < t.big.length
  · rw [if_pos h]; simp only [oS_nx, h.1, h.2, true_and]
  · rw [if_neg h]; simp only [oS_bad]; exact (propext ⟨fun z => z.elim, fun z => h ⟨z.1, z.2.1⟩⟩)
@[simp] theorem oS_dkSet2 : oS (sDkSet i 2 m ρ t) P = oE (m ρ t) (fun d t => ∃ c, d = .int c ∧ isDk i ρ t = true ∧ 0 ≤ c ∧ P.nx ρ { t with pos := c.toNat }) (fun n fs t => P.ex n fs ρ t) := by
  unfold sDkSet; rw [oS_do]; congr; funext d t
  cases d <;> simp only [oS_bad, reduceCtorEq, false_and, exists_false, D.int.injEq, exists_eq_left']
  rename_i c
  by_cases h : isDk i ρ t = true ∧ 0 ≤ c
  · rw [if_pos h]; simp only [oS_nx, h.1, h.2, true_and]
  · rw [if_neg h]; simp only [oS_bad]; exact (propext ⟨fun z => z.elim, fun z => h ⟨z.1, z.2.1⟩⟩)
@[simp] theorem oS_dkSet3 : oS (sDkSet i 3 m ρ t) P = oE (m ρ t) (fun d t => ∃ c, d = .int c ∧ isDk i ρ t = true ∧ 0 ≤ c ∧ P.nx ρ { t with cnt := c.toNat }) (fun n fs t => P.ex n fs ρ t) := by
  unfold sDkSet; rw [oS_do]; congr; funext d t
  cases d <;> simp only [oS_bad, reduceCtorEq, false_and, exists_false, D.int.injEq, exists_eq_left']
  rename_i c
  by_cases h : isDk i ρ t = true ∧ 0 ≤ c
  · rw [if_pos h]; simp only [oS_nx, h.1, h.2, true_and]
  · rw [if_neg h]; simp only [oS_bad]; exact (propext ⟨fun z => z.elim, fun z => h ⟨z.1, z.2.1⟩⟩)
end
@[simp] theorem asB_bl {b : Bool} : asB (.bl b) = some b := rfl
@[simp] theorem dLt_int {i j : Int} : dLt (.int i) (.int j) = some (.bl (decide (i < j))) := rfl
@[simp] theorem dLe_int {i j : Int} : dLe (.int i) (.int j) = some (.bl (decide (i ≤ j))) := rfl
@[simp] theorem dGt_int {i j : Int} : dGt (.int i) (.int j) = some (.bl (decide (j < i))) := rfl
@[simp] theorem dGe_int {i j : Int} : dGe (.int i) (.int j) = some (.bl (decide (j ≤ i))) := rfl
@[simp] theorem dAdd_int {i j : Int} : dAdd (.int i) (.int j) = some (.int (i + j)) := rfl
@[simp] theorem dSub_int {i j : Int} : dSub (.int i) (.int j) = some (.int (i - j)) := rfl
@[simp] theorem ex_asc {α : Sort _} {a : α} {c : Prop} {Q : α → Prop} : (∃ z, (z = a ∧ c) ∧ Q z) ↔ c ∧ Q a := ⟨fun ⟨z, ⟨e, hc⟩, q⟩ => ⟨hc, e ▸ q⟩, fun ⟨hc, q⟩ => ⟨a, ⟨rfl, hc⟩, q⟩⟩
@[simp] theorem ex_asc0 {α : Sort _} {a : α} {c : Prop} : (∃ z, z = a ∧ c) ↔ c := ⟨fun ⟨z, _, hc⟩ => hc, fun hc => ⟨a, rfl, hc⟩⟩
@[simp] theorem dMul_some {i j : Int} {z : D} : (dMulI (.int i) (.int j) = some z) = (z = .int (i * j) ∧ mulOk i j = true) := by
  unfold dMulI; by_cases h : mulOk i j = true <;> simp [h, eq_comm]
@[simp] theorem dDiv_some {i j : Int} {z : D} : (dDiv (.int i) (.int j) = some z) = (z = .int (i.fdiv j) ∧ divOk i j = true) := by
  unfold dDiv; by_cases h : divOk i j = true <;> simp [h, eq_comm]
@[simp] theorem dMod_some {i j : Int} {z : D} : (dMod (.int i) (.int j) = some z) = (z = .int (i.fmod j) ∧ j ≠ 0) := by
  unfold dMod modOk; by_cases h : j ≠ 0 <;> simp [h, eq_comm]
@[simp] theorem dPow_some {i j : Int} {z : D} : (dPow (.int i) (.int j) = some z) = (z = .int (i ^ j.toNat) ∧ powOk i j = true) := by
  unfold dPow; by_cases h : powOk i j = true <;> simp [h, eq_comm]
@[simp] theorem ex_addL {xs ys : List D} {Q : D → Prop} : (∃ z, dAdd (.lst xs) (.lst ys) = some z ∧ Q z) ↔ xs.length + ys.length ≤ 16777216 ∧ Q (.lst (xs ++ ys)) := by
  unfold dAdd lim2; by_cases h : xs.length + ys.length ≤ 16777216 <;> simp [h]
@[simp] theorem ex_addT {xs ys : List D} {Q : D → Prop} : (∃ z, dAdd (.tup xs) (.tup ys) = some z ∧ Q z) ↔ xs.length + ys.length ≤ 16777216 ∧ Q (.tup (xs ++ ys)) := by
  unfold dAdd lim2; by_cases h : xs.length + ys.length ≤ 16777216 <;> simp [h]
theorem rng_red {j : Int} {Q : List D → Prop} : (∃ z, (if -(2 ^ 62) ≤ j ∧ j < 2 ^ 62 then some (rngD 0 j.toNat) else none) = some z ∧ Q z) ↔ (-(2 ^ 62) ≤ j ∧ j < 2 ^ 62) ∧ Q (rngD 0 j.toNat) := by
  generalize (2 : Int) ^ 62 = P
  by_cases h : -P ≤ j ∧ j < P
  · rw [if_pos h]; exact ⟨fun ⟨z, e, q⟩ => ⟨h, by cases e; exact q⟩, fun q => ⟨_, rfl, q.2⟩⟩
  · rw [if_neg h]; exact ⟨fun ⟨z, e, q⟩ => (by cases e), fun q => absurd q.1 h⟩
@[simp] theorem ex_rng {j : Int} {Q : List D → Prop} : (∃ z, fRng1 [.int j] = some z ∧ Q z) ↔ (-4611686018427387904 ≤ j ∧ j < 4611686018427387904) ∧ Q (rngD 0 j.toNat) := rng_red
@[simp] theorem dNeg_int {i : Int} : dNeg (.int i) = some (.int (-i)) := rfl
theorem abs_if (i : Int) : (if i < 0 then -i else i) = (i.natAbs : Int) := by split <;> omega
@[simp] theorem fAbs_int {i : Int} : fAbs [.int i] = some (.int (i.natAbs : Int)) := by show some (D.int (if i < 0 then -i else i)) = _; rw [abs_if]
@[simp] theorem fLen_lst {xs : List D} : fLen [.lst xs] = some (.int (xs.length : Nat)) := rfl
@[simp] theorem fLen_tup {xs : List D} : fLen [.tup xs] = some (.int (xs.length : Nat)) := rfl
@[simp] theorem fLen_scr {xs : List Int} : fLen [.scr xs] = some (.int (xs.length : Nat)) := rfl
@[simp] theorem dIx_lst {xs : List D} {i : Int} : dIx (.lst xs) (.int i) = atI xs i := rfl
@[simp] theorem dIx_tup {xs : List D} {i : Int} : dIx (.tup xs) (.int i) = atI xs i := rfl
@[simp] theorem dIx_scr {xs : List Int} {i : Int} : dIx (.scr xs) (.int i) = (atI xs i).map .int := rfl
@[simp] theorem itD_lst {xs : List D} : itD (.lst xs) = some xs := rfl
@[simp] theorem itD_tup {xs : List D} : itD (.tup xs) = some xs := rfl
@[simp] theorem itD_scr {xs : List Int} : itD (.scr xs) = some (xs.map .int) := rfl
@[simp] theorem dCutL_lst {xs : List D} {lo hi : Option Int} : dCutL (.lst xs) lo hi = some (cutD xs lo hi) := rfl
@[simp] theorem truth_bl {b : Bool} : truth (.bl b) = some b := rfl
@[simp] theorem truth_int {i : Int} : truth (.int i) = some (i != 0) := rfl
theorem eqD_int {i j : Int} : eqD (.int i) (.int j) = some (decide (i = j)) := by
  simp [eqD, py, SeqAt.shaped, PyData.canLay0, PyData.depth, PyData.eqv]
  rfl
@[simp] theorem dEq_int {i j : Int} : dEq (.int i) (.int j) = some (.bl (decide (i = j))) := by unfold dEq; rw [eqD_int]; rfl
@[simp] theorem dNe_int {i j : Int} : dNe (.int i) (.int j) = some (.bl (!decide (i = j))) := by unfold dNe; rw [eqD_int]; rfl
theorem eqD_pair {i j k l : Int} : eqD (.tup [.int i, .int j]) (.tup [.int k, .int l]) = some (decide (i = k) && decide (j = l)) := by
  simp [eqD, py, pys, SeqAt.shaped, PyData.canLay0, PyData.canLayAll0, PyData.depth, PyData.depthAll, PyData.eqv, PyData.eqvAll]
  rfl
@[simp] theorem dEq_pair {i j k l : Int} : dEq (.tup [.int i, .int j]) (.tup [.int k, .int l]) = some (.bl (decide (i = k) && decide (j = l))) := by unfold dEq; rw [eqD_pair]; rfl
@[simp] theorem dNe_pair {i j k l : Int} : dNe (.tup [.int i, .int j]) (.tup [.int k, .int l]) = some (.bl (!(decide (i = k) && decide (j = l)))) := by unfold dNe; rw [eqD_pair]; rfl
theorem eqD_bl {i j : Bool} : eqD (.bl i) (.bl j) = some (i == j) := by
  simp [eqD, py, SeqAt.shaped, PyData.canLay0, PyData.depth, PyData.eqv]
@[simp] theorem dEq_bl {i j : Bool} : dEq (.bl i) (.bl j) = some (.bl (i == j)) := by unfold dEq; rw [eqD_bl]; rfl
@[simp] theorem dNe_bl {i j : Bool} : dNe (.bl i) (.bl j) = some (.bl (!(i == j))) := by unfold dNe; rw [eqD_bl]; rfl
theorem small_mul {i j : Int} {a b : Nat} (h1 : i.natAbs < 2 ^ a) (h2 : j.natAbs < 2 ^ b) (ha : 0 < a) (hb : 0 < b) (h : a + b ≤ 1000000) : mulOk i j = true := by
  have x := PySem.Flt.log2_lt_of ha h1
  have y := PySem.Flt.log2_lt_of hb h2
  unfold mulOk
  exact decide_eq_true (by omega)
theorem small_div {i j : Int} {b : Nat} (h : j ≠ 0) (h2 : j.natAbs < 2 ^ b) (hb : 0 < b) (h9 : b ≤ 9000) : divOk i j = true := by
  have y := PySem.Flt.log2_lt_of hb h2
  unfold divOk
  exact decide_eq_true ⟨h, by omega⟩
end MM

namespace MM
open PySem PySem.Spec PyProof.Rows L2
section
variable {prog : Program} {w : World} {A : Around} {E : Value → Shared → Prop} {s : Shared}
end
def endV (xs : List V) (i n : Nat) : List V := (xs.drop i).drop (xs.length + 1 - n)
section
variable {X : Cx} {W : WX} {τ : Type} [Sto τ] {K : Fg}
theorem Reps.fin {F : Fp} {H : Hp} {xs : List V} {ds : List D} (r : Reps K F H xs ds) (i n : Nat) : Reps K F H (endV xs i n) ((ds.drop i).drop (ds.length + 1 - n)) := by
  unfold endV; rw [r.length]; exact (r.drop i).drop _
end
end MM

namespace MM
open PySem PySem.Spec PyProof.Rows L2 RZ
section
variable {X : Cx} {W : WX} {τ : Type} [Sto τ] {K : Fg}
def enumD (ds : List D) : List D := ds.mapIdx fun i d => .tup [.int (i : Nat), d]
def fEnum : List D → Option (List D)
  | [.lst ds] => some (enumD ds)
  | _ => none
theorem rIt_enum {I : Fp → Hp → Prop} {F0 F : Fp} {H H' : Hp} {a : Addr} {vs : List V} {ds : List D} (hl : LstF K F H' a vs) (r : Reps K F H' vs ds) : rIt K I F0 F H H' (Ite K a) (enumD ds) := by
  have w : Walk (Ite K a) (enumD ds).length (fun H => SqL K H a vs) (YPair (fun i => some (.int (i : Nat))) (fun i => vs[i]?)) := by
    rw [show (enumD ds).length = vs.length by unfold enumD; rw [List.length_mapIdx, r.length]]
    exact walk_enum
  refine ⟨_, _, w, fun H2 s => (hl.step ⟨s, fun _ z => .inl z⟩).sq, fun Fc i H2 x H3 hi s dm y => ?_⟩
  obtain ⟨T, x0, y0, rfl, nT, rfl, e1, e2⟩ := y
  cases e1
  obtain ⟨d, ed, q⟩ := (r.step s).getV e2
  exact ⟨same_upd nT, .tup [.int (i : Nat), d], by unfold enumD; rw [List.getElem?_mapIdx, ed]; rfl, Rep.newTup (.cons (.int _) (.cons q .nil)) dm nT⟩
theorem mi_enum {e : Expr} {p pos tpos : Pos} {elts : List Expr} {kk : Nat} {m : ME τ (List D)} (hg : Gl X "enumerate") (hm : X.mg "enumerate" = none) (ha : PA X [e] (tA X.K W m)) (hs : starEach [e] X.env = [(false, eval e X.env)] := by rfl) :
    PI X (.Tuple elts kk tpos) (.Call (.Name "enumerate" p) [e] [] pos) (tI X.K W (e1 fEnum m)) := PI.imp (pi_enum hg hm ha hs) fun σ H R ⟨C, ρ, t, A, p⟩ => by
  refine use okI A p fun d t1 v H1 e1 s1 A1 r1 p1 => ?_
  unfold fEnum at p1
  split at p1
  · cases r1 with
    | cons r1 r2 =>
      cases r2
      cases r1 with
      | lst hl rs => exact ⟨_, _, rfl, hl.sq, p1 _ H1 (Sm.refl _ _) A1.st (rIt_enum hl rs)⟩
  · exact p1.elim
def blsD : List D → Option (List Bool)
  | [] => some []
  | .bl b :: r => (blsD r).map (b :: ·)
  | _ => none
theorem blsD_ok {F : Fp} {H : Hp} : ∀ {vs : List V} {ds : List D} {bs : List Bool}, Reps K F H vs ds → blsD ds = some bs → vs = bs.map V.bl
  | _, _, _, .nil, e => by cases e; rfl
  | _, _, bs, .cons (v := v) (vs := vs) (d := d) (ds := ds) r t, e => by
    cases d <;> first
      | (cases e; done)
      | skip
    rename_i b
    have e' : (blsD ds).map (b :: ·) = some bs := e
    cases q : blsD ds with
    | none => rw [q] at e'; cases e'
    | some l =>
      rw [q] at e'
      cases e'
      cases r
      rw [blsD_ok t q]
      rfl
def fAll : List D → Option D
  | [.lst ds] => (blsD ds).map fun bs => .bl (bs.all id)
  | _ => none
theorem c_all : DCall K (rAll K) fAll := fun F0 F H xs ds z Q dm r q k => by
  unfold fAll at q
  split at q
  · obtain ⟨v, rfl, r0⟩ := r.one
    obtain ⟨a, vs, rfl, h1, rs⟩ := r0.lstOf
    rename_i ds
    cases e : blsD ds with
    | none => rw [e] at q; cases q
    | some bs =>
      rw [e] at q; cases q
      have ev := blsD_ok rs e
      subst ev
      exact ⟨a, bs, rfl, h1.sq, k _ _ (Same.refl H) (.bl _)⟩
  · cases q
end
@[simp] theorem fEnum_lst {ds : List D} : fEnum [.lst ds] = some (enumD ds) := rfl
@[simp] theorem fAll_lst {ds : List D} : fAll [.lst ds] = (blsD ds).map fun bs => .bl (bs.all id) := rfl
@[simp] theorem blsD_nil : blsD [] = some [] := rfl
@[simp] theorem blsD_cons {b : Bool} {r : List D} : blsD (.bl b :: r) = (blsD r).map (b :: ·) := rfl
end MM

namespace MM
open PySem PySem.Spec PyProof.Rows L2
section
variable {K : Fg} {F F2 : Fp} {H : Hp}
def looseB : HO → Bool
  | .lst _ => true
  | .dK _ => true
  | .dT _ => true
  | .ext _ => true
  | _ => false
theorem OwnR.loose {K : Fg} {F : Fp} {H : Hp} {a : Addr} {u : HO} {x : Slot} (r : OwnR K F H a u x) : looseB u = true := by
  cases r with
  | lst _ => rfl
  | dct r => cases r <;> rfl
end
section
variable {X : Cx} {W : WX} {τ : Type} [Sto τ] {K : Fg}
end
section
variable {τ : Type} {ρ : Rho} {t : τ} {X : Str → Fds → τ → Prop}
end
end MM

namespace MM
open PySem PySem.Spec PyProof.Rows L2
section
variable {X : Cx} {W : WX} {τ : Type} [Sto τ] {K : Fg}
theorem PK.imp {e : List Keyword} {t t' : TA} (h : PK X e t) (i : ∀ σ H Q, t' σ H Q → t σ H Q) : PK X e t' := ⟨fun pos pins s σ H Q I q => h.run pos pins s σ H Q I (i σ H Q q)⟩
end
section
variable {τ : Type} {ρ : Rho} {t : τ} {Q : List D → τ → Prop} {X : Str → Fds → τ → Prop} {g : Tgt} {tt : ME τ Bool} {te : ME τ D}
def Slot.nown : Slot → Bool
  | .own _ => false
  | .dct .. => false
  | _ => true
@[simp] theorem nown_no : Slot.nown .no = true := rfl
@[simp] theorem nown_val {d : D} : Slot.nown (.val d) = true := rfl
@[simp] theorem wipeR_nil : wipeR ρ [] = ρ := rfl
@[simp] theorem wipeR_cons {u : Nat} {us : List Nat} : wipeR ρ (u :: us) = (wipeR ρ us).set u .no := rfl
@[simp] theorem noOwn_nil : noOwn ρ [] = true := rfl
@[simp] theorem noOwn_cons {u : Nat} {us : List Nat} : noOwn ρ (u :: us) = ((match ρ[u]? with | some s => s.nown | none => true) && noOwn ρ us) := by
  unfold noOwn
  rw [List.all_cons]
  congr 1
  cases ρ[u]? with
  | none => rfl
  | some s => cases s <;> rfl
@[simp] theorem oE_noEx {α : Type} {r : Res τ α} {Q : α → τ → Prop} : oE (noEx r) Q X = oE r Q (fun _ _ _ => False) := by cases r <;> rfl
@[simp] theorem oE_comp {mi : ME τ (List D)} {vs : List Nat} : oE (eComp mi vs g tt te ρ t) Q X = oE (mi ρ t) (fun ds t => (ds.length ≤ 16777216 ∧ noOwn ρ vs = true) ∧ oE (compL g tt te (wipeR ρ vs) ds t) Q X) X := by
  unfold eComp; rw [oE_bind]; congr; funext ds t
  by_cases h : ds.length ≤ 16777216 ∧ noOwn ρ vs = true
  · rw [if_pos h]; simp only [h, and_self, true_and]
  · rw [if_neg h]; simp only [oE_bad, h, false_and]
theorem oE_compCons {d : D} {ds : List D} : oE (compL g tt te ρ (d :: ds) t) Q X = ∃ ρ1, g ρ d = some ρ1 ∧ oE (tt ρ1 t) (fun b t => (b = true → oE (te ρ1 t) (fun y t => oE (compL g tt te ρ ds t) (fun ys t => Q (y :: ys) t) X) (fun _ _ _ => False)) ∧ (¬ b = true → oE (compL g tt te ρ ds t) Q X)) (fun _ _ _ => False) := by
  rw [show compL g tt te ρ (d :: ds) t = (match g ρ d with
    | some ρ1 => (noEx (tt ρ1 t)).bind fun b t => if b = true then (noEx (te ρ1 t)).bind fun y t => (compL g tt te ρ ds t).bind fun ys t => .ok (y :: ys) t else compL g tt te ρ ds t
    | none => .bad) from rfl]
  cases e : g ρ d with
  | none => simp
  | some ρ1 =>
    simp only [Option.some.injEq, exists_eq_left']
    cases tt ρ1 t with
    | ok b t1 =>
      simp only [noEx, Res.bind_ok, oE_ite, oE_ok]
      cases te ρ1 t1 with
      | ok y t2 => simp
      | ex n fs t2 => simp
      | bad => simp
    | ex n fs t1 => rfl
    | bad => rfl
@[simp] theorem fLst_lst {ds : List D} : fLst [.lst ds] = some ds := rfl
@[simp] theorem fLst_tup {ds : List D} : fLst [.tup ds] = some ds := rfl
@[simp] theorem fTup_lst {ds : List D} : fTup [.lst ds] = some (.tup ds) := rfl
@[simp] theorem fTup_tup {ds : List D} : fTup [.tup ds] = some (.tup ds) := rfl
end
section
variable {τ : Type} {P : Pt τ} {ρ : Rho} {t : τ}
end
section
variable {τ : Type} {ρ : Rho} {t : τ} {X : Str → Fds → τ → Prop}
end
end MM

namespace MM
open PySem PySem.Spec PyProof.Rows L2 RZ
open PySem.Builtin (SmallTypes.nextOrEnd)
def SIt (kd : Bool) (h : Heap) (i l : Addr) (k : Nat) : Prop := match kd with
  | true => h.IsTupleIter i l k
  | false => h.IsListIter i l k
def SSq (kd : Bool) (h : Heap) (l : Addr) (xs : Array Value) : Prop := match kd with
  | true => h.IsTuple l xs
  | false => h.IsList l xs
section
variable {prog : Program} {w : World} {A : Around} {E : Value → Shared → Prop} {s : Shared} {kd : Bool} {h h' : Heap} {i l : Addr} {k : Nat} {xs : Array Value}
theorem SIt.at (x : SIt kd h i l k) (e : ∀ o, h.get? i = some o → h'.get? i = some o) : SIt kd h' i l k := by
  cases kd with
  | true => obtain ⟨o, h1, h2⟩ := x; exact ⟨o, e o h1, h2⟩
  | false => obtain ⟨o, h1, h2⟩ := x; exact ⟨o, e o h1, h2⟩
theorem SSq.at (x : SSq kd h l xs) (e : ∀ o, h.get? l = some o → h'.get? l = some o) : SSq kd h' l xs := by
  cases kd with
  | true => obtain ⟨o, h1, h2⟩ := x; exact ⟨o, e o h1, h2⟩
  | false => obtain ⟨o, h1, h2⟩ := x; exact ⟨o, e o h1, h2⟩
theorem SIt.ex (x : SIt kd h i l k) : ∃ o, h.get? i = some o ∧ ∀ v, o.data ≠ .cell v := by
  cases kd with
  | true => obtain ⟨o, h1, h2, h3⟩ := x; exact ⟨o, h1, fun v q => by rw [h3] at q; cases q⟩
  | false => obtain ⟨o, h1, h2, h3⟩ := x; exact ⟨o, h1, fun v q => by rw [h3] at q; cases q⟩
theorem SSq.push {kd : Bool} {h : Heap} {l : Addr} {xs : Array Value} (o : Obj) (x : SSq kd h l xs) : SSq kd (h.push o) l xs := x.at fun _ e => Heap.get?_push_of_some _ e
end
def SqX (kd : Bool) (K : Fg) (H : Hp) (a : Addr) (xs : List V) : Prop := match kd with
  | true => SqT K H a xs
  | false => SqL K H a xs
theorem SqX.sq {kd : Bool} {X : Cx} {pins : List (Addr × Obj)} {σ : L2.St} {H : Hp} {s : Shared} {a : Addr} {xs : List V} (h : SqX kd X.K H a xs) (I : Inv X pins σ H s) : ∃ its : List Value, Vals xs its ∧ SSq kd s.heap a its.toArray ∧ a < s.heap.objs.size := by
  cases kd with
  | true =>
    obtain ⟨its, rv, p, _⟩ := I.tuple h
    obtain ⟨o, ho, _⟩ := id p
    exact ⟨its, rv, p, Heap.lt_size ho⟩
  | false =>
    obtain ⟨its, rv, p, _⟩ := I.list h
    exact ⟨its, rv, p.isList, p.lt⟩
theorem SqX.inj {kd : Bool} {X : Cx} {pins : List (Addr × Obj)} {σ : L2.St} {H : Hp} {s : Shared} {a : Addr} {xs ys : List V} (I : Inv X pins σ H s) (h : SqX kd X.K H a xs) (h2 : SqX kd X.K H a ys) : xs = ys := by
  cases kd with
  | true => exact I.tuple_inj h h2
  | false => exact I.list_inj h h2
section
variable {X : Cx} {W : WX} {τ : Type} [Sto τ] {K : Fg}
end
end MM

namespace MM
open PySem PySem.Spec PyProof.Rows L2
section
variable {X : Cx} {W : WX} {τ : Type} [Sto τ] {K : Fg}
theorem putK_new {kvs : List (Key × V)} {k : Key} {v : V} (h : k ∉ kvs.map (·.1)) : putK kvs k v = kvs ++ [(k, v)] := by
  unfold putK
  rw [if_neg]
  intro z
  obtain ⟨p, h1, h2⟩ := List.any_eq_true.mp z
  exact h (List.mem_map.mpr ⟨p, h1, of_decide_eq_true h2⟩)
theorem mergeK_new : ∀ (more kvs : List (Key × V)), (kvs.map (·.1) ++ more.map (·.1)).Nodup → mergeK kvs more = kvs ++ more
  | [], kvs, _ => by rw [List.append_nil]; rfl
  | p :: r, kvs, h => by
    have h1 : p.1 ∉ kvs.map (·.1) := fun z => (List.nodup_append.mp h).2.2 _ z _ (by simp) rfl
    show mergeK (putK kvs p.1 p.2) r = _
    rw [putK_new h1, mergeK_new r _ (by simpa using h)]
    simp
theorem zip_fst {α β : Type} : ∀ {a : List α} {b : List β}, b.length = a.length → (a.zip b).map (·.1) = a
  | [], _, _ => rfl
  | x :: a, [], h => by cases h
  | x :: a, y :: b, h => by simp [zip_fst (a := a) (b := b) (by simpa using h)]
theorem zip_snd {α β : Type} : ∀ {a : List α} {b : List β}, b.length = a.length → (a.zip b).map (·.2) = b
  | [], [], _ => rfl
  | [], _ :: _, h => by cases h
  | x :: a, [], h => by cases h
  | x :: a, y :: b, h => by simp [zip_snd (a := a) (b := b) (by simpa using h)]
def dRev : D → Option (List D)
  | .lst ds => some ds.reverse
  | _ => none
theorem Reps.rev {F : Fp} {H : Hp} : ∀ {vs : List V} {ds : List D}, Reps K F H vs ds → Reps K F H vs.reverse ds.reverse
  | _, _, .nil => .nil
  | _, _, .cons r t => by rw [List.reverse_cons, List.reverse_cons]; exact (Reps.rev t).snoc r
theorem mf_rev {e : Expr} {k : Nat} {p1 p2 p3 pos : Pos} {m : ME τ D} (h : PE X e (tW X.K W m)) : PE X (.Subscript e (.Slice none none (some (.UnaryOp .USub (.Constant (.int 1) k p1) p2)) p3) pos) (tF X.K W (MM.e1 dRev m)) := PE.imp (pe_revL h) fun σ H Q ⟨C, ρ, t, A, p⟩ => by
  refine use okF A p fun d t1 v H1 e1 s1 A1 r1 p1 => ?_
  unfold dRev at p1
  split at p1
  · obtain ⟨a, vs, rfl, hl, rs⟩ := r1.lstOf
    exact ⟨a, vs, rfl, hl.sq, new_fin A1 rs.rev p1⟩
  · exact p1.elim
end
@[simp] theorem dRev_lst {ds : List D} : dRev (.lst ds) = some ds.reverse := rfl
end MM

namespace PySem.W
open PySem PySem.Calls PyProof.Rows
section
variable {prog : Program} {w : World} {A : Around} {E : Value → Shared → Prop} {s : Shared}
def cmpAll : List PyData → List PyData → Bool
  | x :: xs, y :: ys => alike x y && (if PyData.eqv x y = true then cmpAll xs ys else true)
  | [], _ => true
  | _ :: _, [] => true
theorem katLex_cmp {b fin : Bool} {Q : Bool → Shared → Prop} : ∀ (xs ys : List PyData) (i : Nat) (vs ws : List Value) (as bs : List Addr), ReadsAll s.heap vs xs as → ReadsAll s.heap ws ys bs → cmpAll xs ys = true → A.units + min (PyData.depthAll xs) (PyData.depthAll ys) < cLine →
    (b = true → i = 0 → ∀ x r t, xs = x :: r → x ≠ .tuple t) → fin = decide (xs.length < ys.length) → Q (PyProof.Rows.lexLt itemOrd (keyToksAll xs) (keyToksAll ys)) s → KatLex prog w A b fin Q (vs.zip ws) i s
  | [], ys, i, _, _, _, _, ra, rb, _, hu, hb, hf, hq => katLex_alike [] ys i _ _ _ _ ra rb rfl hu hb hf hq
  | x :: xs, [], i, _, _, _, _, ra, rb, _, hu, hb, hf, hq => katLex_alike (x :: xs) [] i _ _ _ _ ra rb rfl hu hb hf hq
  | x :: xs, y :: ys, i, _, _, _, _, .cons r rs, .cons r' rs', h, hu, hb, hf, hq => by
    obtain ⟨h1, h2⟩ := Bool.and_eq_true_iff.mp h
    have hf' : fin = decide (xs.length < ys.length) := by rw [hf]; simp only [List.length_cons, Nat.add_lt_add_iff_right]
    rw [List.zip_cons_cons]
    refine kat_cons (eqAt_alike x y A s _ _ _ _ r r' h1 (SeqAt.room_head hu) prog w _ _ ?_)
    cases hx : PyData.eqv x y with
    | true =>
      rw [dataLt_all_yes h1 hx] at hq
      rw [hx, if_pos rfl] at h2
      exact kat_yes (katLex_cmp xs ys (i + 1) _ _ _ _ rs rs' h2 (SeqAt.room_tail hu) (fun _ hi => absurd hi (Nat.succ_ne_zero i)) hf' hq)
    | false =>
      rw [dataLt_all_no h1 hx] at hq
      refine kat_no (oneLt_alike (fun hbi t => ?_) r r' h1 (ne_none_of h1 hx) (SeqAt.room_head hu) hq)
      rw [Bool.and_eq_true] at hbi; exact hb hbi.1 (by simpa using hbi.2) x xs t rfl
structure RowsOk (ds : List PyData) : Prop where
  row : ∀ d ∈ ds, d.canLay0 = true ∧ ∃ x r, d = .tuple (x :: r)
  two : ∀ xs ys, .tuple xs ∈ ds → .tuple ys ∈ ds → cmpAll xs ys = true
theorem rowKind_some {h : Heap} {ds : List PyData} (hr : RowsOk ds) {v : Value} {d : PyData} {as : List Addr} (hd : d ∈ ds) (r : Reads h v d as) : (dataKind h ds).keyOf v = some (keyToks d) := by
  have q : ∃ d, d ∈ ds ∧ ∃ as, Reads h v d as := ⟨d, hd, as, r⟩
  have e : (dataKind h ds).keyOf v = some (keyToks q.choose) := by
    show (open Classical in if q : ∃ d, d ∈ ds ∧ ∃ as, Reads h v d as then some (keyToks q.choose) else none) = _; rw [dif_pos q]
  obtain ⟨h1, as', h2⟩ := q.choose_spec
  rw [e, SeqAt.Reads.unique _ _ _ _ _ (hr.row _ hd).1 r h2]
theorem each_keysR {h : Heap} {ds : List PyData} (hr : RowsOk ds) : ∀ {vs : List Value} {es : List PyData}, (∀ d ∈ es, d ∈ ds) → EachIs (fun v d => ∃ as, Reads h v d as) vs es → EachIs (fun v d => (dataKind h ds).keyOf v = some (keyToks d)) vs es
  | _, _, _, .nil => .nil
  | _, _, hm, .cons ⟨as, r⟩ t => .cons (rowKind_some hr (hm _ List.mem_cons_self) r) (each_keysR hr (fun d hd => hm d (List.mem_cons_of_mem _ hd)) t)
theorem sorts_rows {vs : List Value} {ds : List PyData} (e : EachIs (fun v d => ∃ as, Reads s.heap v d as) vs ds) (hr : RowsOk ds) (hu : ∀ d, d ∈ ds → A.units + d.depth < cLine) : SortsAt prog w A s (dataKind s.heap ds) vs := by
  refine ⟨fun v hv => ?_, ?_⟩
  · obtain ⟨d, hd, as, r⟩ := e.left v hv
    exact ⟨_, rowKind_some hr hd r⟩
  · cases ds with
    | nil =>
      cases e
      exact ⟨general', fun E x y a b Q ha _ _ => (by obtain ⟨d, _, hd, _⟩ := dataKind_inv ha; exact absurd hd (by simp)), fun h2 => absurd h2 (by simp)⟩
    | cons d₀ ds₀ =>
      obtain ⟨x₀, r₀, e₀⟩ := (hr.row d₀ (List.mem_cons_self ..)).2
      have hfirst : ∀ x r, PyData.tuple (x :: r) ∈ d₀ :: ds₀ → alike x x₀ = true := fun x r hm => by
        have q := hr.two (x :: r) (x₀ :: r₀) hm (by rw [← e₀]; exact List.mem_cons_self)
        exact (Bool.and_eq_true_iff.mp q).1
      refine ⟨tuples' (dataType x₀ != Value.type "tuple"), fun E x y a b Q ha hb hq => ?_, fun h2 E Q hq => ?_⟩
      · obtain ⟨d, as, hd, ra, rfl⟩ := dataKind_inv ha
        obtain ⟨d', as', hd', rb, rfl⟩ := dataKind_inv hb
        have hroom : A.units + min d.depth d'.depth < cLine := Nat.lt_of_le_of_lt (Nat.add_le_add_left (Nat.min_le_left _ _) _) (hu d hd)
        obtain ⟨x1, r1, rfl⟩ := (hr.row d hd).2
        obtain ⟨x2, r2, rfl⟩ := (hr.row d' hd').2
        have hq' : Q (dataLt (.tuple (x1 :: r1)) (.tuple (x2 :: r2))) s := hq
        rw [dataLt_tuple] at hq'
        have two := hr.two _ _ hd hd'
        cases ra with
        | @tuple l o xs n _ _ h1 h2 h3 h4 =>
          cases rb with
          | @tuple l' o' xs' n' _ _ k1 k2 k3 k4 =>
            have n1 : xs.size = (x1 :: r1).length := by simpa using SeqAt.ReadsAll.length _ _ _ h4
            have n2 : xs'.size = (x2 :: r2).length := by simpa using SeqAt.ReadsAll.length _ _ _ k4
            refine kat_lt h1 h3 k1 k3 (katLex_cmp (x1 :: r1) (x2 :: r2) 0 _ _ _ _ h4 k4 two (by have q := SeqAt.room_in hroom; omega) (fun hb _ x r t ex => ?_) (by rw [n1, n2]) hq')
            obtain ⟨rfl, rfl⟩ := List.cons.inj ex
            have q := dataType_alike (hfirst _ _ hd)
            rw [← q] at hb; exact dataType_tuple hb t
      · obtain ⟨fs, t1, t2, t3⟩ := each_katTups e fun d hd => (hr.row d hd).2
        refine kat_kind (T := dataType x₀) t1 (by omega) (fun f hf => ?_) (beq_self_eq_true _) hq
        obtain ⟨x, r, as, m1, m2⟩ := t3 f hf
        rw [← dataType_alike (hfirst x r m1)]; exact looks_reads m2
def SortOk (ds : List PyData) : Prop := (AllAlike ds ∧ Sortable ds) ∨ RowsOk ds
theorem sorted_dataR {β : Type} {R : Value → β → Prop} {enc : β → PyData} {vs : List Value} {bs : List β} {l : Addr} {Q : Value → Shared → Prop} (hl : s.heap.IsList l vs.toArray) (e : EachIs R vs bs) (er : EachIs (fun v b => ∃ as, Reads s.heap v (enc b) as) vs bs) (hk : SortOk (bs.map enc)) (hL : bs.length ≤ sizeLine)
    (hu : ∀ b, b ∈ bs → A.units + 2 + (enc b).depth < cLine) (h : ∀ out, out.length = bs.length → EachIs R out (bs.mergeSort (dataLe false enc)) → Q (.ref (s.heap.objs.size + 1)) { s with heap := sortedAll s.heap vs (List.toArray out) }) :
    wpAny (model prog w) A (call (.builtin "sorted") [.ref l]) Q E s := by
  rcases hk with ⟨hal, hk⟩ | hr
  · exact sorted_data hl e er hal hk hL hu h
  · have er' : EachIs (fun v b => ∃ as, Reads (sortingHeap (copyHeap s.heap vs) (s.heap.objs.size + 1) vs) v (enc b) as) vs bs := er.mono fun _ _ ⟨as, r⟩ => ⟨as, PyProof.Rows.Reads.keeps (fun _ _ => sorting_copy_old) r⟩
    have em := each_map (R := fun v d => ∃ as, Reads (sortingHeap (copyHeap s.heap vs) (s.heap.objs.size + 1) vs) v d as) enc er'
    exact sorted_vals hl (sorts_rows (s := { s with heap := sortingHeap (copyHeap s.heap vs) (s.heap.objs.size + 1) vs }) em hr (bound_map hu)) (by rw [e.length]; exact hL)
      (h _ (by rw [sortVals_length false rfl]; exact e.length) (sortVals_each (κ := dataKind (sortingHeap (copyHeap s.heap vs) (s.heap.objs.size + 1) vs) (bs.map enc)) (fun b => keyToks (enc b)) e (each_of_map enc (each_keysR hr (fun _ hd => hd) em))))
end
end PySem.W
namespace MM
open PySem PySem.Spec PyProof.Rows L2
section
variable {X : Cx} {W : WX} {τ : Type} [Sto τ] {K : Fg}
def sortV {α : Type} (xs : List α) (ps : List PyData) : List α := ((xs.zip ps).mergeSort (PySem.W.dataLe false fun b => b.2)).map (·.1)
structure SrtC (ps : List PyData) : Prop where
  ok : PySem.W.SortOk ps
  dep : ∀ p ∈ ps, p.depth ≤ 50
def rSortD (K : Fg) : List V → Hp → VK → Prop := fun vs H Q => ∃ (a : Addr) (xs : List V) (ps : List PyData), vs = [V.ref a] ∧ SqL K H a xs ∧ DpAll K H xs ps ∧ SrtC ps ∧ ∀ p, H p = none → Q (.ref p) (upd H p (.lst (sortV xs ps)))
theorem each_of_vals {β : Type} {f : β → V} : ∀ {bs : List β} {us : List Value}, Vals (bs.map f) us → PySem.W.EachIs (fun u b => RelV (f b) u) us bs
  | [], _, .nil => .nil
  | _ :: _, _, .cons r t => .cons r (each_of_vals t)
theorem vals_of_each {β : Type} {f : β → V} : ∀ {bs : List β} {us : List Value}, PySem.W.EachIs (fun u b => RelV (f b) u) us bs → Vals (bs.map f) us
  | _, _, .nil => .nil
  | _, _, .cons r t => .cons r (vals_of_each t)
theorem each_reads {h : Heap} {β : Type} {enc : β → PyData} : ∀ {bs : List β} {us : List Value} {as : List Addr}, ReadsAll h us (bs.map enc) as → PySem.W.EachIs (fun u b => ∃ as, Reads h u (enc b) as) us bs
  | [], _, _, .nil => .nil
  | _ :: _, _, _, .cons r t => .cons ⟨_, r⟩ (each_reads t)
theorem dps_len {H : Hp} : ∀ {xs : List V} {ps : List PyData}, DpAll K H xs ps → xs.length = ps.length
  | _, _, .nil => rfl
  | _, _, .cons _ t => congrArg (· + 1) (dps_len t)
theorem cr_sortD (hu : X.A.units + 64 < cLine) : CallR X (.builtin "sorted") (rSortD X.K) := by
  intro pins s σ H vs us Q I r h
  obtain ⟨a, xs, ps, rfl, hs, hd, hc, q⟩ := h
  obtain rfl := Vals.ref1 r
  obtain ⟨its, rv, hl, hz⟩ := I.list hs
  obtain ⟨as, ra⟩ := Dp.readsAll I ps xs its hd rv
  have len := dps_len hd
  have f1 : (xs.zip ps).map (·.1) = xs := zip_fst len.symm
  have f2 : (xs.zip ps).map (·.2) = ps := zip_snd len.symm
  have ll : (xs.zip ps).length = xs.length := by rw [List.length_zip]; omega
  refine PySem.W.sorted_dataR (R := fun u b => RelV b.1 u) (enc := fun b => b.2) (bs := xs.zip ps) hl.isList (each_of_vals (by rw [f1]; exact rv)) (each_reads (enc := fun b : V × PyData => b.2) (as := as) (by rw [f2]; exact ra)) (by rw [f2]; exact hc.ok) (by omega) (fun b hb => ?_) fun out h1 h2 => ?_
  · have := hc.dep b.2 (by rw [← f2]; exact List.mem_map_of_mem hb); omega
  · obtain ⟨ep, he'⟩ := PyProof.Rows.sortedAll_at s.heap its out.toArray
    have hlen : (sortV xs ps).length ≤ sizeLine := by unfold sortV; rw [List.length_map, (List.mergeSort_perm _ _).length_eq, ll]; exact hz
    exact ⟨.ref _, upd H (s.heap.objs.size + 1) (.lst (sortV xs ps)), I.laid (t' := s.toks) (fun _ _ => PyProof.Rows.sortedAll_old) (Nat.le_succ _) ⟨hlen, _, ep, vals_of_each h2, he'⟩, rfl, q _ (I.hok.fresh (Nat.le_succ _))⟩
open Classical in
noncomputable def fSortD : List D → Option (List D)
  | [.lst ds] => (pys ds).bind fun ps => if SrtC ps then some (sortV ds ps) else none
  | _ => none
theorem reps_zip {F : Fp} {H : Hp} : ∀ {vs : List V} {ds : List D}, Reps K F H vs ds → ∀ p ∈ vs.zip ds, Rep K F H p.1 p.2
  | _, _, .nil, p, hp => by cases hp
  | _, _, .cons r t, p, hp => by
    rcases List.mem_cons.mp hp with rfl | h
    · exact r
    · exact reps_zip t p h
theorem reps_map {F : Fp} {H : Hp} {β : Type} {f : β → V} {g : β → D} : ∀ {bs : List β}, (∀ b ∈ bs, Rep K F H (f b) (g b)) → Reps K F H (bs.map f) (bs.map g)
  | [], _ => .nil
  | b :: bs, h => .cons (h b List.mem_cons_self) (reps_map fun c hc => h c (List.mem_cons_of_mem _ hc))
theorem zip_map_zip {α β γ : Type} (ps : List γ) : ∀ (xs : List α) (ys : List β), xs.length = ys.length → xs.length = ps.length → xs.zip ps = ((xs.zip ys).zip ps).map (fun z => (z.1.1, z.2)) ∧ ys.zip ps = ((xs.zip ys).zip ps).map (fun z => (z.1.2, z.2)) := by
  induction ps with
  | nil => intro xs ys h1 h2; cases xs with
    | nil => cases ys with
      | nil => exact ⟨rfl, rfl⟩
      | cons => cases h1
    | cons => cases h2
  | cons p ps ih =>
    intro xs ys h1 h2
    cases xs with
    | nil => cases h2
    | cons x xs =>
      cases ys with
      | nil => cases h1
      | cons y ys =>
        obtain ⟨e1, e2⟩ := ih xs ys (by simpa using h1) (by simpa using h2)
        exact ⟨by simp [e1], by simp [e2]⟩
theorem sortV_map {α β : Type} {f : α → β} {zs : List (α × PyData)} : ((zs.map fun z => (f z.1, z.2)).mergeSort (PySem.W.dataLe false fun b => b.2)) = (zs.mergeSort (PySem.W.dataLe false fun b => b.2)).map fun z => (f z.1, z.2) := by
  rw [List.map_mergeSort (s := PySem.W.dataLe false fun b => b.2)]
  intro a _ b _; rfl
theorem Reps.sortV {F : Fp} {H : Hp} {vs : List V} {ds : List D} {ps : List PyData} (r : Reps K F H vs ds) (hl : ds.length = ps.length) : Reps K F H (MM.sortV vs ps) (MM.sortV ds ps) := by
  obtain ⟨e1, e2⟩ := zip_map_zip ps vs ds r.length (r.length.trans hl)
  unfold MM.sortV
  rw [e1, e2, sortV_map (f := fun z : V × D => z.1), sortV_map (f := fun z : V × D => z.2), List.map_map, List.map_map]
  refine reps_map fun b hb => ?_
  have hb' := (List.mergeSort_perm _ _).mem_iff.mp hb
  exact reps_zip r b.1 (List.of_mem_zip hb').1
theorem pys_len : ∀ {ds : List D} {ps : List PyData}, pys ds = some ps → ds.length = ps.length
  | [], _, e => by cases e; rfl
  | d :: ds, ps, e => by
    simp only [pys] at e
    cases h1 : py d with
    | none => rw [h1] at e; cases e
    | some p =>
      cases h2 : pys ds with
      | none => rw [h1, h2] at e; cases e
      | some qs => rw [h1, h2] at e; cases e; simp [pys_len h2]
theorem mf_sortD {e : Expr} {es : List Expr} {p pos : Pos} {ms : ME τ (List D)} (hu : X.A.units + 64 < cLine) (hg : Gl X "sorted") (hm : X.mg "sorted" = none) (ha : PA X (e :: es) (tAW X.K W ms))
    (he : starEach (e :: es) X.env = (false, eval e X.env) :: starEach es X.env := by rfl) (hpl : (backTo pos (starEach es X.env)).any (·.1) = false := by rfl) :
    PE X (.Call (.Name "sorted" p) (e :: es) [] pos) (tF X.K W (MM.e1 fSortD ms)) := PE.imp (pe_callB (cr_sortD hu) hg hm (by decide +kernel) ha (by decide) (by decide) he hpl) fun σ H Q ⟨C, ρ, t, A, p⟩ => by
  refine use okF A p fun ds t1 v H1 e1 s1 A1 r1 p1 => ?_
  unfold fSortD at p1
  split at p1
  · obtain ⟨v, rfl, r0⟩ := RepsW.one r1
    obtain ⟨a, vs, rfl, h1, rs⟩ := r0.lstOf
    rename_i ds
    cases e : pys ds with
    | none => rw [e] at p1; exact p1.elim
    | some ps =>
      rw [e, Option.bind_some] at p1
      split at p1
      · rename_i hc
        exact ⟨a, vs, ps, rfl, h1.sq, dps_of (F0 := Fo C.F ρ σ) rs e, hc, fun q nq => new_fin A1 (rs.sortV (pys_len e)) p1 q nq⟩
      · exact p1.elim
  · exact p1.elim
end
theorem sortV_of {α β : Type} {f : α → β} {g : α → PyData} {le : α → α → Bool} (xs : List α) (h : ∀ a ∈ xs, ∀ b ∈ xs, PySem.W.dataLe false g a b = le a b) : sortV (xs.map f) (xs.map g) = (xs.mergeSort le).map f := by
  unfold sortV
  have e : ∀ xs : List α, (xs.map f).zip (xs.map g) = xs.map fun x => (f x, g x) := fun xs => by
    induction xs with
    | nil => rfl
    | cons x xs ih => simp [ih]
  rw [e, ← List.map_mergeSort (r := le) (s := PySem.W.dataLe false fun b : β × PyData => b.2) (f := fun x => (f x, g x)), List.map_map]
  · rfl
  · intro a ha b hb; exact (h a ha b hb).symm
end MM

namespace MM
open PySem PySem.Spec PyProof.Rows L2
section
variable {X : Cx} {W : WX} {τ : Type} [Sto τ] {K : Fg}
theorem room65 {k : Nat} {A : Around} (r : Room k A) : A.units + 65 < cLine := by have := r.un; omega
end
end MM

namespace MM
open PySem PySem.Spec PyProof.Rows L2
section
variable {X : Cx} {W : WX} {τ : Type} [Sto τ] {K : Fg}
end
end MM

namespace MM
open PySem PySem.Spec PyProof.Rows L2
section
variable {X : Cx} {W : WX} {τ : Type} [Sto τ] {K : Fg}
structure ClsF (K : Fg) (C : Str) : Prop where
  cl : Cls K (He.ga K C)
  ha : PySem.W.findIn K (.ref (He.ga K C)) "__class__" = some (some (.builtin "object.__class__"))
  hn : PySem.W.specialIn K (.builtin "object.__class__") "__get__" = some (some (.builtin "getset_descriptor.__get__"))
  htk : PySem.W.takesIn K (.builtin "object.__class__") = some true
  hm : PySem.W.mroIn K (He.ga K C) (.type "object") = some true
theorem ClsF.ty (c : ClsF K C) {H : Hp} {a dx : Addr} {fs : List (Str × V)} (e : H a = some (.ins (He.ga K C) dx fs)) : TyX K H (.ref a) (.ref (He.ga K C)) := .base (.ins e c.cl c.ha c.hn c.htk c.hm)
structure MethE (P : Program) (w : World) (K : Fg) (mg : Str → Option Value) (base : Heap) (k : Nat) (C m : Str) (np : Nat) (mf : List D → Unit → Res Unit D) : Prop where
  ex : ∃ (fd : FuncData) (ps : List Str), FnOk P w K mg base (L2.CX P w) k (He.ma K (He.ga K C) m) fd ps (spF np K mf) ∧ Binds K fd ps [] ∧ ClsF K C ∧ Meth K (He.ga K C) m (He.ma K (He.ga K C) m)
theorem MethE.mono {P : Program} {w : World} {mg : Str → Option Value} {base : Heap} {j k : Nat} {C m : Str} {np : Nat} {mf : List D → Unit → Res Unit D} (F : MethE P w K mg base j C m np mf) (h : j ≤ k) : MethE P w K mg base k C m np mf := by
  obtain ⟨fd, ps, f1, f2⟩ := F.ex
  exact ⟨fd, ps, f1.mono h, f2⟩
theorem SqT.upd_ne {H : Hp} {a x : Addr} {o o' : HO} {xs : List V} (h : SqT K H a xs) (hx : H x = some o) (ho : ∀ ys, o ≠ .tup ys) (hf : ∀ oo ys, o ≠ .frz oo (.tup ys)) : SqT K (upd H x o') a xs := by
  rcases h with h | h
  · rcases h with h | ⟨oo, h⟩
    · refine .inl (.inl ?_)
      rw [L2.upd_ne]; exact h
      intro z; subst z; rw [hx] at h; cases h; exact ho _ rfl
    · refine .inl (.inr ⟨oo, ?_⟩)
      rw [L2.upd_ne]; exact h
      intro z; subst z; rw [hx] at h; cases h; exact hf _ _ rfl
  · exact .inr h
end
section
variable {X : Cx} {K : Fg}
end
section
variable {K : Fg}
end
section
variable {τ : Type} {X : Str → Fds → τ → Prop} {ρ : Rho} {t : τ}
end
end MM

namespace MM
open PySem PySem.Spec PyProof.Rows L2
section
variable {K : Fg} {F0 F : Fp} {H : Hp}
theorem RepW.keyOf {y : V} {k : Key} (r : RepW K F0 F H y (keyD k)) : y = kV k := by
  cases k with
  | inl i => exact r.intOf
  | inr x => exact r.strOf
end
section
variable {X : Cx} {W : WX} {τ : Type} [Sto τ] {K : Fg}
end
end MM

namespace MM
open PySem PySem.Spec PyProof.Rows L2
section
variable {X : Cx}
end
end MM

namespace MM
open PySem PySem.Spec PyProof.Rows L2
section
variable {X : Cx} {W : WX} {τ : Type} [Sto τ] {K : Fg}
end
end MM

namespace MM
open PySem PySem.Spec PyProof.Rows L2
section
variable {X : Cx} {W : WX} {τ : Type} [Sto τ] {K : Fg}
end
end MM

namespace MM
open PySem PySem.Spec PyProof.Rows L2
section
variable {τ : Type} {ρ : Rho} {t : τ} {X : Str → Fds → τ → Prop} {P : Pt τ} {g : Tgt} {tt : ME τ Bool} {te tk tv : ME τ D} {pu : List D → List D → D → D → Option (List D × List D)}
theorem comp_map {α : Type} {enc f : α → D} : ∀ {xs : List α} {Q : List D → τ → Prop}, (∀ x ∈ xs, ∃ ρ1, g ρ (enc x) = some ρ1 ∧ oE (te ρ1 t) (fun y t' => y = f x ∧ t' = t) (fun _ _ _ => False)) → Q (xs.map f) t →
    oE (compL g (fun _ t => .ok true t) te ρ (xs.map enc) t) Q X
  | [], _, _, h => h
  | x :: xs, Q, hx, h => by
    obtain ⟨ρ1, e1, e2⟩ := hx x List.mem_cons_self
    rw [List.map_cons, oE_compCons]
    refine ⟨ρ1, e1, ?_⟩
    simp only [oE_ok, not_true_eq_false, false_implies, and_true, forall_const]
    refine oE_imp e2 (fun y t' hh => ?_) fun _ _ _ z => z
    rw [hh.1, hh.2]
    exact comp_map (Q := fun ys t => Q (f x :: ys) t) (fun z hz => hx z (List.mem_cons_of_mem _ hz)) h
theorem comp_filt {α : Type} {enc f : α → D} {p : α → Bool} : ∀ {xs : List α} {Q : List D → τ → Prop}, (∀ x ∈ xs, ∃ ρ1, g ρ (enc x) = some ρ1 ∧ oE (tt ρ1 t) (fun b t' => b = p x ∧ t' = t) (fun _ _ _ => False) ∧ (p x = true → oE (te ρ1 t) (fun y t' => y = f x ∧ t' = t) (fun _ _ _ => False))) → Q ((xs.filter p).map f) t →
    oE (compL g tt te ρ (xs.map enc) t) Q X
  | [], _, _, h => h
  | x :: xs, Q, hx, h => by
    obtain ⟨ρ1, e1, e2, e3⟩ := hx x List.mem_cons_self
    rw [List.map_cons, oE_compCons]
    refine ⟨ρ1, e1, ?_⟩
    refine oE_imp e2 (fun b t' hh => ?_) fun _ _ _ z => z
    have eb := hh.1
    rw [hh.2]
    have r := fun z hz => hx z (List.mem_cons_of_mem x hz)
    refine ⟨fun hb => ?_, fun hb => ?_⟩
    · rw [eb] at hb
      rw [List.filter_cons, if_pos hb] at h
      refine oE_imp (e3 hb) (fun y t' hh => ?_) fun _ _ _ z => z
      rw [hh.1, hh.2]
      exact comp_filt (Q := fun ys t => Q (f x :: ys) t) r h
    · rw [eb] at hb
      rw [List.filter_cons, if_neg hb] at h
      exact comp_filt r h
theorem oS_loopE {α : Type} {enc : α → D} {b : MS τ} (I : List α → List α → Rho → τ → Prop) (xs : List α) (h0 : I [] xs ρ t)
    (hs : ∀ dn x td ρ t, xs = dn ++ x :: td → I dn (x :: td) ρ t → ∃ ρ1, g ρ (enc x) = some ρ1 ∧ oS (b ρ1 t) { P with nx := I (dn ++ [x]) td, ct := I (dn ++ [x]) td, bk := P.nx }) (hn : ∀ ρ t, I xs [] ρ t → P.nx ρ t) : oS (loopF g b (xs.map enc) ρ t) P := by
  have key : ∀ (td dn : List α) (ρ : Rho) (t : τ), xs = dn ++ td → I dn td ρ t → oS (loopF g b (td.map enc) ρ t) P := by
    intro td
    induction td with
    | nil =>
      intro dn ρ t e h
      rw [List.append_nil] at e
      subst e
      exact hn ρ t h
    | cons x td ih =>
      intro dn ρ t e h
      rw [List.map_cons, oS_loop_cons]
      obtain ⟨ρ1, e1, h1⟩ := hs dn x td ρ t e h
      have e' : xs = (dn ++ [x]) ++ td := by rw [e]; simp
      exact ⟨ρ1, e1, oS_imp h1 (fun ρ t h => ih (dn ++ [x]) ρ t e' h) (fun _ _ h => h) (fun _ _ _ _ h => h) (fun _ _ h => h) (fun ρ t h => ih (dn ++ [x]) ρ t e' h)⟩
  exact key xs [] ρ t rfl h0
end
end MM

namespace PySem
open Sem (wp)
open AutoSeq1 (wpAny_loadPart')
theorem mEnumT (l : Addr) (ob : Obj) (items : Array Value) (hc : ob.cls = .type "tuple") (hT : ∀ h : Heap, h.get? l = some ob → h.IsTuple l items) :
    Meets (Builtin.«enumerate.__new__» ⟨[.type "enumerate", .ref l], []⟩) (fun _ R s => s.heap.get? l = some ob ∧
      R (.ok (.ret (.ref (s.heap.push { cls := .type "tuple_iterator", data := .fields #[.ref l, .int 0 0] }).objs.size)))
        { s with heap := (s.heap.push { cls := .type "tuple_iterator", data := .fields #[.ref l, .int 0 0] }).push { cls := .type "enumerate", data := .fields #[.none, .bool false, .ref s.heap.objs.size, rawInt 0, .none, .none] } }) :=
  .of_wp fun prog w A R s h => by
    obtain ⟨hp, g, d, tk, os⟩ := s; obtain ⟨hl, h⟩ := h
    have hsub := sub_enumerate
    have hL : Heap.IsTuple (Shared.heap ⟨hp, g, d, tk, os⟩) l items := hT _ hl
    wp_walk using wpAny_loadPart' hl
    refine wpAny_stack_any fun st => wpAny_pure ?_
    split
    · rename_i c _ _ _ _ _
      cases (c == Value.type "enumerate")
      · wp_walk using wpAny_loadPart' hl, wpAny_pyIter_tuple hL
        exact ⟨_, rfl, h⟩
      · wp_walk using wpAny_loadPart' hl, wpAny_pyIter_tuple hL
        exact ⟨_, rfl, h⟩
    · wp_walk using wpAny_loadPart' hl, wpAny_pyIter_tuple hL
      exact ⟨_, rfl, h⟩
end PySem
namespace MM
open PySem PySem.Spec PyProof.Rows L2
theorem pyNext_enumT_end {prog : Program} {w : World} {A : Around} {E : Value → Shared → Prop} {s : Shared} {e it l : Addr} {i : Nat} {items : Array Value} {old : Value} {Q : Option Value → Shared → Prop} (hh : A.handled = none)
    (he : IsEnum s.heap e it i old) (hit : s.heap.IsTupleIter it l i) (hl : s.heap.IsTuple l items) (hx : items[i]? = none) (hQ : ∀ h', Heap.ExtBut it s.heap h' → Q none { s with heap := h' }) : wpAny (model prog w) A (pyNext (.ref e)) Q E s := by
  have hT : s.TypeIs (.ref e) "enumerate" := ⟨_, he, rfl⟩
  unfold pyNext
  refine wpAny_bind (wpAny_attempt (wpAny_callSpecial?_slot (name := Str.ofString "__next__") hT F.slot_enumerate_next (wpAny_call_entry F.slot_enumerate_next hT F.entry_enumerate_next ?_ (F.args_enumerate_next_1 _))))
  show wpAny _ _ (field (.ref e) 2 >>= _) _ _ _
  refine wpAny_bind (wpAny_field he rfl (x := .ref it) rfl (wpAny_bind (wpAny_nextOf_tuple_end hh hit hl hx fun h' x he' hx' => ?_)))
  obtain ⟨o, ho, hc⟩ := hx'
  exact wpAny_bind (wpAny_isInstance (T := "StopIteration") (b := true) ⟨o, ho, hc⟩ isSubtype_stop (wpAny_pure (hQ _ he')))
def IteT (K : PySem.W.Frag) (a : Addr) : It :=
  ⟨fun i H => ∃ (xs : List V) (x : V), SqT K H a xs ∧ xs[i]? = some x, fun i H v H' => ∃ T x, v = .ref T ∧ H T = none ∧ H' = upd H T (.tup [.int (i : Nat), x]) ∧ ∀ xs, SqT K H a xs → xs[i]? = some x, fun i H => ∃ xs : List V, SqT K H a xs ∧ xs.length ≤ i⟩
theorem turn_enT {P : Program} {w : World} {K : PySem.W.Frag} {elts : List Expr} {kk : Nat} {tpos : Pos} (a e it : Addr) (hai : a ≠ it) (hae : a ≠ e) :
    Turn P w K (.Tuple elts kk tpos) (IteT K a) [e, it] e (fun i h => (∃ old, IsEnum h e it ((i : Nat) : Int) old) ∧ h.IsTupleIter it a i ∧ e ≠ it) where
  mem := by simp
  obj := fun i h st b hb => by
    obtain ⟨⟨old, he⟩, ⟨o, ho, hc, hd⟩, _⟩ := st
    have hb' : b = e ∨ b = it := by simpa using hb
    rcases hb' with rfl | rfl
    · exact ⟨_, he, fun v q => nomatch q⟩
    · exact ⟨o, ho, fun v q => by rw [hd] at q; cases q⟩
  keep := fun i h h' st k => let ⟨⟨old, he⟩, hi, ne⟩ := st; ⟨⟨old, k e (by simp) _ he⟩, hi.at fun o q => k it (by simp) o q, ne⟩
  item := by
    intro X hP hw hK hc i pins s σ H E I hf st hg
    subst hP hw hK
    obtain ⟨⟨old, he⟩, hit, ne⟩ := st
    obtain ⟨xs, x, hq, hx⟩ := hg
    obtain ⟨its, rv, p, hz⟩ := I.tuple hq
    obtain ⟨u, hu, ru⟩ := rv.get hx
    have lt : i < its.toArray.size := by
      have := (List.getElem?_eq_some_iff.mp hu).1
      simpa using this
    have el : e < s.heap.objs.size := Heap.lt_size he
    have il : it < s.heap.objs.size := by obtain ⟨_, q, _⟩ := hit; exact Heap.lt_size q
    have D := Draws.tuple (prog := X.prog) (w := X.w) (A := X.A.in1) (I.ok.hd hc) it a hai its.toArray
    refine wpAny_pyNext_enum_itemD D he ⟨hit, p⟩ lt ne (by simp only [List.mem_cons, List.not_mem_nil, or_false, not_or]; exact ⟨ne, fun z => hae z.symm⟩) fun y h' tk hy ho hst hT hsz hk => ?_
    have ey : y = u := by
      have hy' : its.toArray[i]? = some y := hy
      rw [List.getElem?_toArray, hu] at hy'
      exact (Option.some.inj hy').symm
    subst ey
    refine ⟨_, rfl, wpAny_letOwnedTupleGo_enum (s := { s with heap := h', toks := tk + 1 }) ho fun h'' he' sb => ?_⟩
    have hT2 : h''.get? s.heap.objs.size = some { cls := .type "tuple", data := .seq #[.int i tk, y] } := (sb.2 _ (Nat.ne_of_gt el)).trans hT
    have new : ObjOk X.prog X.w (upd H s.heap.objs.size (.tup [.int (i : Nat), x])) h'' s.heap.objs.size (.tup [.int (i : Nat), x]) :=
      ⟨by show 2 ≤ sizeLine; decide, [.int i tk, y], .cons ⟨_, rfl⟩ (.cons ru .nil), ⟨_, hT2, rfl, _, rfl⟩⟩
    have I1 : Inv X pins σ (upd H s.heap.objs.size (.tup [.int (i : Nat), x])) { s with heap := h'', toks := tk + 1 } :=
      I.turnedNew (ch := [e, it]) (fun b ob hb q => (sb.2 b (fun z => hb (by simp [z]))).trans (hk b ob (fun z => hb (by simp [z])) (fun z => hb (by simp [z])) q)) hf (Nat.le_refl _) new
    refine ⟨.ref s.heap.objs.size, _, I1, rfl, ⟨_, x, rfl, I.hok.fresh (Nat.le_refl _), rfl, fun ys hys => ?_⟩, ⟨⟨y, ?_⟩, hst.1.at fun o q => (sb.2 it (Ne.symm ne)).trans q, ne⟩, fun b hb => ?_⟩
    · rw [I.tuple_inj hys hq]; exact hx
    · rw [show ((i + 1 : Nat) : Int) = (i : Int) + 1 by omega]; exact he'
    · have hb' : b = e ∨ b = it := by simpa using hb
      have : b < s.heap.objs.size := by rcases hb' with rfl | rfl <;> assumption
      rw [upd_ne (Nat.ne_of_lt this)]
      exact (hf b hb).1
  done := by
    intro X hP hw hK hc i pins s σ H E I hf st hg
    subst hP hw hK
    obtain ⟨⟨old, he⟩, hit, ne⟩ := st
    obtain ⟨xs, hq, hx⟩ := hg
    obtain ⟨its, rv, p, hz⟩ := I.tuple hq
    obtain ⟨f0, f1, f2, f3, f4, f5⟩ := hf it (by simp)
    have hl := rv.length
    exact pyNext_enumT_end (I.ok.hd hc) he hit p (by simp; omega) fun h' eb => ⟨rfl, I.turned (t' := s.toks) (fun b o hb q => eb b o hb q) f0 f1 f3 f4 f5⟩
  self := fun A i s Q E st h => let ⟨⟨_, he⟩, _⟩ := st; wpAny_pyIter_enum he h
def iEnumT (K : PySem.W.Frag) (ta : TA) : TI := fun σ H R => ta σ H fun vs H1 => ∃ a xs, vs = [.ref a] ∧ SqT K H1 a xs ∧ R (IteT K a) H1
theorem pi_enumT {X : Cx} {e : Expr} {ta : TA} {p pos tpos : Pos} {elts : List Expr} {kk : Nat} (hg : Gl X "enumerate") (hm : X.mg "enumerate" = none) (ha : PA X [e] ta) (hs : starEach [e] X.env = [(false, eval e X.env)] := by rfl) :
    PI X (.Tuple elts kk tpos) (.Call (.Name "enumerate" p) [e] [] pos) (iEnumT X.K ta) := by
  refine ⟨fun pins s σ H R I h => ?_⟩
  refine Call_ (ld_blt I hg hm boot_enumerate (PyProof.Rows.callWith_type1 (thn (ha.run pos pins s σ H _ I h) fun us s1 ⟨vs, H1, I1, r1, a, xs, ex, hq, q⟩ => ?_) hs rfl))
  subst ex
  rw [Vals.ref1 r1]
  obtain ⟨its, rv, ⟨ob, hob, hc, n, hd⟩, hz⟩ := I1.tuple hq
  have lt : a < s1.heap.objs.size := Heap.lt_size hob
  refine callType_new F.called_enumerate (by decide) (F.typeCall_enumerate_1 _) (F.newCall_enumerate_1 _) (fun obj => F.args_object_init_2 obj _) F.entry_enumerate_new
    (mEnumT a ob its.toArray hc fun h e => ⟨ob, e, hc, n, hd⟩) ⟨hob, ?_⟩
  have sz : (s1.heap.push { cls := .type "tuple_iterator", data := .fields #[.ref a, .int 0 0] }).objs.size = s1.heap.objs.size + 1 := Heap.size_push ..
  show _ ∧ _
  rw [sz]
  have he := Heap.get?_push_size (s1.heap.push { cls := .type "tuple_iterator", data := .fields #[.ref a, .int 0 0] }) (o := { cls := .type "enumerate", data := .fields #[.none, .bool false, .ref s1.heap.objs.size, rawInt 0, .none, .none] }) rfl
  rw [sz] at he
  have keep : ∀ b o, s1.heap.get? b = some o → ((s1.heap.push { cls := .type "tuple_iterator", data := .fields #[.ref a, .int 0 0] }).push { cls := .type "enumerate", data := .fields #[.none, .bool false, .ref s1.heap.objs.size, rawInt 0, .none, .none] }).get? b = some o := fun b o x => Heap.get?_push_of_some _ (Heap.get?_push_of_some _ x)
  have hit : ((s1.heap.push { cls := .type "tuple_iterator", data := .fields #[.ref a, .int 0 0] }).push { cls := .type "enumerate", data := .fields #[.none, .bool false, .ref s1.heap.objs.size, rawInt 0, .none, .none] }).get? s1.heap.objs.size = some { cls := .type "tuple_iterator", data := .fields #[.ref a, .int 0 0] } := Heap.get?_push_of_some _ (Heap.get?_push_size _ rfl)
  generalize (s1.heap.push { cls := .type "tuple_iterator", data := .fields #[.ref a, .int 0 0] }).push { cls := .type "enumerate", data := .fields #[.none, .bool false, .ref s1.heap.objs.size, rawInt 0, .none, .none] } = h' at he keep hit ⊢
  have hen : IsEnum h' (s1.heap.objs.size + 1) s1.heap.objs.size 0 .none := he
  refine ⟨⟨_, he, rfl⟩, wpAny_pyIter_enum hen ?_⟩
  have I2 : Inv X pins σ H1 { s1 with heap := h' } := I1.kept (t' := s1.toks) keep
  refine ⟨s1.heap.objs.size + 1, [s1.heap.objs.size + 1, s1.heap.objs.size], _, _, H1, rfl, I2, turn_enT a (s1.heap.objs.size + 1) s1.heap.objs.size (Nat.ne_of_lt lt) (Nat.ne_of_lt (Nat.lt_succ_of_lt lt)), ⟨⟨.none, hen⟩, ⟨_, hit, rfl, rfl⟩, Nat.succ_ne_self _⟩, fun b hb => ?_, q⟩
  have hb' : b = s1.heap.objs.size + 1 ∨ b = s1.heap.objs.size := by simpa using hb
  have le : s1.heap.objs.size ≤ b := by
    rcases hb' with rfl | rfl
    · exact Nat.le_add_right _ _
    · exact Nat.le_refl _
  exact I1.fpOk le (I1.hok.fresh le)
section
variable {X : Cx} {W : WX} {τ : Type} [Sto τ] {K : Fg}
def fEnumT : List D → Option (List D)
  | [.tup ds] => some (enumD ds)
  | _ => none
@[simp] theorem fEnumT_tup {ds : List D} : fEnumT [.tup ds] = some (enumD ds) := rfl
theorem rIt_enumT {I : Fp → Hp → Prop} {F0 F : Fp} {H H' : Hp} {a : Addr} {vs : List V} {ds : List D} (hl : TupF K F H' a vs) (r : Reps K F H' vs ds) : rIt K I F0 F H H' (IteT K a) (enumD ds) := by
  have w : Walk (IteT K a) (enumD ds).length (fun H => SqT K H a vs) (YPair (fun i => some (.int (i : Nat))) (fun i => vs[i]?)) := by
    rw [show (enumD ds).length = vs.length by unfold enumD; rw [List.length_mapIdx, r.length]]
    refine ⟨fun i H hi g => ⟨vs, vs[i], g, List.getElem?_eq_getElem hi⟩, fun H g => ⟨vs, g, Nat.le_refl _⟩, fun i H x H' hi g y => ?_⟩
    obtain ⟨T, x0, rfl, nT, rfl, hx⟩ := y
    exact ⟨T, _, x0, rfl, nT, rfl, rfl, hx vs g⟩
  refine ⟨_, _, w, fun H2 s => (hl.step ⟨s, fun _ z => .inl z⟩).sq, fun Fc i H2 x H3 hi s dm y => ?_⟩
  obtain ⟨T, x0, y0, rfl, nT, rfl, e1, e2⟩ := y
  cases e1
  obtain ⟨d, ed, q⟩ := (r.step s).getV e2
  exact ⟨same_upd nT, .tup [.int (i : Nat), d], by unfold enumD; rw [List.getElem?_mapIdx, ed]; rfl, Rep.newTup (.cons (.int _) (.cons q .nil)) dm nT⟩
theorem mi_enumT {e : Expr} {p pos tpos : Pos} {elts : List Expr} {kk : Nat} {m : ME τ (List D)} (hg : Gl X "enumerate") (hm : X.mg "enumerate" = none) (ha : PA X [e] (tA X.K W m)) (hs : starEach [e] X.env = [(false, eval e X.env)] := by rfl) :
    PI X (.Tuple elts kk tpos) (.Call (.Name "enumerate" p) [e] [] pos) (tI X.K W (e1 fEnumT m)) := PI.imp (pi_enumT hg hm ha hs) fun σ H R ⟨C, ρ, t, A, p⟩ => by
  refine use okI A p fun d t1 v H1 e1 s1 A1 r1 p1 => ?_
  unfold fEnumT at p1
  split at p1
  · cases r1 with
    | cons r rr =>
      cases rr
      cases r with
      | tup h rs => exact ⟨_, _, rfl, h.sq, p1 _ H1 (Sm.refl _ _) A1.st (rIt_enumT h rs)⟩
  · exact p1.elim
def fEnum2 : List D → Option (List D)
  | [.tup ds] => some (enumD ds)
  | [.lst ds] => some (enumD ds)
  | _ => none
@[simp] theorem fEnum2_tup {ds : List D} : fEnum2 [.tup ds] = some (enumD ds) := rfl
@[simp] theorem fEnum2_lst {ds : List D} : fEnum2 [.lst ds] = some (enumD ds) := rfl
theorem PI.or {tg e : Expr} {t t' : TI} (h : PI X tg e t) (h' : PI X tg e t') : PI X tg e (fun σ H Q => t σ H Q ∨ t' σ H Q) := ⟨fun pins s σ H R I q => q.elim (h.run pins s σ H R I) (h'.run pins s σ H R I)⟩
theorem mi_enum2 {e : Expr} {p pos tpos : Pos} {elts : List Expr} {kk : Nat} {m : ME τ (List D)} (hg : Gl X "enumerate") (hm : X.mg "enumerate" = none) (ha : PA X [e] (tA X.K W m)) (hs : starEach [e] X.env = [(false, eval e X.env)] := by rfl) :
    PI X (.Tuple elts kk tpos) (.Call (.Name "enumerate" p) [e] [] pos) (tI X.K W (e1 fEnum2 m)) := PI.imp (PI.or (mi_enumT hg hm ha hs) (mi_enum hg hm ha hs)) fun σ H R ⟨C, ρ, t, A, p⟩ => by
  have key : e1 fEnum2 m ρ t = e1 fEnumT m ρ t ∨ e1 fEnum2 m ρ t = e1 fEnum m ρ t := by
    unfold e1
    cases m ρ t with
    | ok ds t1 =>
      show opt (fEnum2 ds) t1 = opt (fEnumT ds) t1 ∨ opt (fEnum2 ds) t1 = opt (fEnum ds) t1
      rcases ds with _ | ⟨d, _ | ⟨d2, dr⟩⟩
      · exact .inl rfl
      · cases d <;> first
          | exact .inl rfl
          | exact .inr rfl
      · left
        cases d <;> rfl
    | ex n fs t1 => exact .inl rfl
    | bad => exact .inl rfl
  rcases key with k | k
  · exact .inl ⟨C, ρ, t, A, k ▸ p⟩
  · exact .inr ⟨C, ρ, t, A, k ▸ p⟩
end
end MM

namespace MM
open PySem PySem.Spec PyProof.Rows L2
section
variable {τ : Type} [Sto τ] {X : Cx} {W : WX} {K : Fg}
abbrev MSf (τ : Type) := Rho → τ → Res τ (List D)
def SPostF (K : Fg) (W : WX) (C : SC τ) (F1 : Fp) (H : Hp) (r : Res τ (List D)) (Q : VK) : Prop := match r with
  | .ok ds t' => ∀ a vs H', Stp F1 H (fun b => C.F b ∨ b = a) H' → ¬ C.F a → H' a = some (.lst vs) → Reps K (fun b => C.F b ∨ b = a) H' vs ds → C.Iv t' (fun b => C.F b ∨ b = a) H' → Q (.ref a) H'
  | .ex n fs t' => ∀ cls dd σ' H' G, (∀ b, C.F b → G b) → Stp F1 H G H' → C.Iv t' G H' → XRep K G H' n fs cls dd → W cls dd σ' H'
  | .bad => False
theorem SPostF.rebase {C : SC τ} {F1 F2 : Fp} {H H1 : Hp} {r : Res τ (List D)} {Q : VK} (h : SPostF K W C F1 H r Q) (s : Stp F1 H F2 H1) : SPostF K W C F2 H1 r Q := by
  cases r with
  | ok ds t' => exact fun a vs H' s' n q r i => h a vs H' (s.trans s') n q r i
  | ex n fs t' => exact fun cls dd σ' H' G g s' i x => h cls dd σ' H' G g (s.trans s') i x
  | bad => exact h
def tSf (K : Fg) (W : WX) (m : MSf τ) : TS := fun E σ H => ∃ (C : SC τ) (ρ : Rho) (t : τ), At K C ρ t σ H ∧ SPostF K W C (Fo C.F ρ σ) H (m ρ t) E.rt
def FPostF (K : Fg) (C : SC τ) (H : Hp) (r : Res τ (List D)) (Q : VK) (E : XK) : Prop := match r with
  | .ok ds t' => ∀ a vs H', Stp C.F H (fun b => C.F b ∨ b = a) H' → ¬ C.F a → H' a = some (.lst vs) → Reps K (fun b => C.F b ∨ b = a) H' vs ds → C.Iv t' (fun b => C.F b ∨ b = a) H' → Q (.ref a) H'
  | .ex n fs t' => ∀ cls dd H', Sm C.F H H' → C.Iv t' C.F H' → XRep K C.F H' n fs cls dd → E cls dd H'
  | .bad => False
def spFF (np : Nat) (K : Fg) (m : List D → τ → Res τ (List D)) : Sp := fun vs H Q E => ∃ (C : SC τ) (ds : List D) (t : τ), Sto.ok K C ∧ C.Iv t C.F H ∧ Reps K C.F H vs ds ∧ ds.length = np ∧ FPostF K C H (m ds t) Q E
def runF (n : Nat) (mb : MSf τ) : List D → τ → Res τ (List D) := fun ds t => mb (ds.map Slot.val ++ List.replicate (n - ds.length) .no) t
theorem fn_mkF {P : Program} {w : World} {K : Fg} {mg : Str → Option Value} {base : Heap} {x qual : Str} {params : Arguments} {body : List Stmt} {scope : Scope} {dvs : List V} {kws : List (Str × V)} {f : Addr} {fd : FuncData} {N ps : List Str} {k : Nat}
    (F : FunD K x qual params body scope dvs kws f fd) (S : FnScope N ps scope) (mb : MSf τ)
    (hb : ∀ (cdv : Value) (A : Around) (outer : List Env) (s : Shared) (H : Hp) (E : XK), Room k (A.deeper (envOfC qual scope s.heap.objs.size f cdv)) →
      PSs (cxOf (L2.CX P w) P w K mg base N qual scope f cdv A outer s H E) body (tSf K (fun cls d _ H => E cls d H) mb)) : FnOk P w K mg base (L2.CX P w) (k + 1) f fd ps (spFF ps.length K (runF N.length mb)) := by
  have hpl : ps.length ≤ N.length := by have := congrArg List.length S.pre; rw [List.length_take] at this; omega
  refine F.ok S (fun vs H Q E ⟨C, ds, t, _, _, r, hl, _⟩ => r.length.trans hl) fun cdv A outer s H vs Q E hr ⟨C, ds, t, okC, iv, r, hl, p⟩ => ⟨_, hb cdv A outer s H E hr, C, _, t, At.start okC iv r (by rw [hl]; exact hpl), ?_⟩
  unfold runF at p
  cases e : mb (ds.map Slot.val ++ List.replicate (N.length - ds.length) .no) t with
  | ok xs t' =>
    rw [e] at p
    exact fun a vs H' s' n q r i => p a vs H' ⟨fun b o n e => s'.keep b o (fun z => n (FoStart z)) e, fun b h => (s'.new b h).elim (fun z => .inl (FoStart z)) .inr⟩ n q r i
  | ex n fs t' =>
    rw [e] at p
    exact fun cls dd σ' H' G g s' i x => p cls dd H' (fun b o n e => s'.keep b o (fun z => n (FoStart z)) e) (C.less i g) (x.anti g)
  | bad => rw [e] at p; exact p.elim
structure DefF (P : Program) (w : World) (K : Fg) (mg : Str → Option Value) (base : Heap) (k : Nat) (x : Str) (np : Nat) (m : List D → τ → Res τ (List D)) : Prop where
  ex : ∃ (fd : FuncData) (ps : List Str) (ds : List Value), FnOk P w K mg base (L2.CX P w) k (He.ga K x) fd ps (spFF np K m) ∧ mg x = some (.ref (He.ga K x)) ∧ PySem.W.keepIn K (.ref (He.ga K x)) = true ∧ Binds K fd ps ds ∧ Vals [] ds
theorem DefF.mk' {P : Program} {w : World} {K : Fg} {mg : Str → Option Value} {base : Heap} {x qual : Str} {params : Arguments} {body : List Stmt} {scope : Scope} {dvs : List V} {kws : List (Str × V)} {fd : FuncData} {N ps : List Str} {k : Nat}
    (F : FunD K x qual params body scope dvs kws (He.ga K x) fd) (hm : mg x = some (.ref (He.ga K x))) (S : FnScope N ps scope) (mb : MSf τ) (hb : ∃ ds, Vals [] ds ∧ Binds K fd ps ds)
    (hbody : ∀ (cdv : Value) (A : Around) (outer : List Env) (s : Shared) (H : Hp) (E : XK), Room k (A.deeper (envOfC qual scope s.heap.objs.size (He.ga K x) cdv)) →
      PSs (cxOf (L2.CX P w) P w K mg base N qual scope (He.ga K x) cdv A outer s H E) body (tSf K (fun cls d _ H => E cls d H) mb)) : DefF P w K mg base (k + 1) x ps.length (runF N.length mb) := by
  obtain ⟨ds, h1, h2⟩ := hb
  exact ⟨fd, ps, ds, fn_mkF F S mb hbody, hm, F.kp, h2, h1⟩
theorem DefF.mono {P : Program} {w : World} {K : Fg} {mg : Str → Option Value} {base : Heap} {j k : Nat} {x : Str} {np : Nat} {m : List D → τ → Res τ (List D)} (F : DefF P w K mg base j x np m) (h : j ≤ k) : DefF P w K mg base k x np m := by
  obtain ⟨fd, ps, ds, F, r⟩ := F.ex
  exact ⟨fd, ps, ds, F.mono h, r⟩
end
section
variable {τ : Type} [Sto τ] {X : Cx} {W : WX}
end
section
variable {τ : Type} [Sto τ] {X : Cx} {W : WX}
end
section
variable {τ α : Type} {X : Str → Fds → τ → Prop} {ρ : Rho} {t : τ}
@[simp] theorem oE_runF {n : Nat} {b : MSf τ} {ds : List D} {Q : List D → τ → Prop} : oE (runF n b ds t) Q X = oE (b (ds.map Slot.val ++ List.replicate (n - ds.length) .no) t) Q X := rfl
end
end MM

namespace MM
open PySem PySem.Spec PyProof.Rows L2
section
variable {τ : Type} [Sto τ] {X : Cx} {W : WX}
end
section
variable {X : Cx} {K : Fg}
end
end MM

namespace MM
open PySem PySem.Spec PyProof.Rows L2
mutual
def qd : PyData → D
  | .none => .non
  | .bool b => .bl b
  | .int i => .int i
  | .str x => .str x
  | .tuple ps => .tup (qds ps)
  | .list ps => .lst (qds ps)
  | .dict _ => .non
def qds : List PyData → List D
  | [] => []
  | p :: ps => qd p :: qds ps
end
mutual
theorem qd_of : ∀ {d : D} {p : PyData}, py d = some p → qd p = d
  | .non, _, e => by unfold py at e; cases e; rfl
  | .bl b, _, e => by unfold py at e; cases e; rfl
  | .int b, _, e => by unfold py at e; cases e; rfl
  | .str b, _, e => by unfold py at e; cases e; rfl
  | .tup ds, _, e => by
    unfold py at e
    cases q : pys ds with
    | none => rw [q] at e; cases e
    | some ps => rw [q] at e; cases e; unfold qd; rw [qds_of q]
  | .lst ds, _, e => by
    unfold py at e
    cases q : pys ds with
    | none => rw [q] at e; cases e
    | some ps => rw [q] at e; cases e; unfold qd; rw [qds_of q]
theorem qds_of : ∀ {ds : List D} {ps : List PyData}, pys ds = some ps → qds ps = ds
  | [], _, e => by unfold pys at e; cases e; rfl
  | d :: ds, _, e => by
    unfold pys at e
    cases q : py d with
    | none => rw [q] at e; cases e
    | some p =>
      rw [q] at e
      cases q2 : pys ds with
      | none =>
        have e' : (pys ds).map (p :: ·) = some _ := e
        rw [q2] at e'
        cases e'
      | some ps =>
        have e' : (pys ds).map (p :: ·) = some _ := e
        rw [q2] at e'
        cases e'
        unfold qds
        rw [qd_of q, qds_of q2]
end
theorem qds_get : ∀ {ps : List PyData} {i : Nat} {p : PyData}, ps[i]? = some p → (qds ps)[i]? = some (qd p)
  | [], _, _, e => by simp at e
  | _ :: _, 0, _, e => by
    have e' := Option.some.inj e
    subst e'
    rfl
  | _ :: ps, i + 1, p, e => by
    show (qds ps)[i]? = _
    exact qds_get (by simpa using e)
section
variable {X : Cx} {W : WX} {τ : Type} [Sto τ] {K : Fg}
structure MinC (p : PyData) (ps : List PyData) : Prop where
  ok : PySem.W.AlikeAll (p :: ps)
  dep : PyData.depthAll (p :: ps) ≤ 60
def rMinD (K : Fg) : List V → Hp → VK → Prop := fun vs H Q => ∃ (a : Addr) (xs : List V) (p : PyData) (ps : List PyData), vs = [V.ref a] ∧ SqL K H a xs ∧ DpAll K H xs (p :: ps) ∧ MinC p ps ∧ ∀ (i : Nat) (v : V), xs[i]? = some v → (p :: ps)[i]? = some (PySem.W.minD p ps) → Q v H
theorem vals_get : ∀ {xs : List V} {us : List Value} {i : Nat} {u : Value}, Vals xs us → us[i]? = some u → ∃ v, xs[i]? = some v ∧ RelV v u
  | _, _, _, _, .nil, h => by simp at h
  | _, _, 0, _, .cons r t, h => by
    have h' := Option.some.inj h
    subst h'
    exact ⟨_, rfl, r⟩
  | _, _, i + 1, _, .cons r t, h => by
    obtain ⟨v, e, q⟩ := vals_get (i := i) t (by simpa using h)
    exact ⟨v, by simpa using e, q⟩
theorem cr_minD (hc : X.calm = true) (hu : X.A.units + 64 < cLine) : CallR X (.builtin "min") (rMinD X.K) := by
  intro pins s σ H vs us Q I r h
  obtain ⟨a, xs, p, ps, rfl, hs, hd, hm, q⟩ := h
  obtain rfl := Vals.ref1 r
  obtain ⟨its, rv, hl, hz⟩ := I.list hs
  obtain ⟨as, ra⟩ := Dp.readsAll I (p :: ps) xs its hd rv
  have dep := hm.dep
  refine PySem.W.min_list_data (I.ok.hd hc) hl.isList ra hm.ok (by omega) fun i u h' tk bs hi hr hk => ?_
  have hi' : its[i]? = some u := by simpa using hi
  obtain ⟨v, hv, rvu⟩ := vals_get rv hi'
  obtain ⟨bs', rd, lt, _, _⟩ := PySem.W.readsAll_at ra i u hi'
  have e : (p :: ps).getD i .none = PySem.W.minD p ps := (Reads.unique (PySem.W.reads_keeps hk rd) _ _ hr).1
  refine ⟨v, H, I.kept hk, rvu, q i v hv ?_⟩
  rw [← e, List.getD_eq_getElem?_getD, List.getElem?_eq_getElem lt]
  rfl
open Classical in
noncomputable def fMinD : List D → Option D
  | [.lst ds] => (pys ds).bind fun ps => match ps with
    | [] => none
    | p :: ps => if MinC p ps then some (qd (PySem.W.minD p ps)) else none
  | _ => none
theorem reps_get {F : Fp} {H : Hp} : ∀ {vs : List V} {ds : List D} {i : Nat} {v : V} {d : D}, Reps K F H vs ds → vs[i]? = some v → ds[i]? = some d → Rep K F H v d
  | _, _, _, _, _, .nil, h, _ => by simp at h
  | _, _, 0, _, _, .cons r t, h, h' => by
    have e := Option.some.inj h
    have e' := Option.some.inj h'
    subst e e'
    exact r
  | _, _, i + 1, _, _, .cons r t, h, h' => reps_get (i := i) t (by simpa using h) (by simpa using h')
theorem c_minD : DCall K (rMinD K) fMinD := fun F0 F H xs ds z Q dm r q k => by
  unfold fMinD at q
  split at q
  · obtain ⟨v, rfl, r0⟩ := r.one
    obtain ⟨a, vs, rfl, h1, rs⟩ := r0.lstOf
    rename_i ds
    cases e : pys ds with
    | none => rw [e] at q; cases q
    | some ps =>
      rw [e, Option.bind_some] at q
      split at q
      · cases q
      · rename_i p ps
        split at q
        · rename_i hm
          cases q
          refine ⟨a, vs, p, ps, rfl, h1.sq, dps_of (F0 := F0) rs e, hm, fun i v hv hp => k _ _ (Same.refl H) ?_⟩
          have e2 := qds_get hp
          rw [qds_of e] at e2
          exact reps_get rs hv e2
        · cases q
  · cases q
def dIdx (es : List D) (e : D) : Option D := match pys es, py e with
  | some ps, some p => if SeqAt.shaped (.list ps) = true ∧ SeqAt.shaped p = true then (ps.findIdx? fun z => PyData.eqv z p).map fun j => .int (j : Nat) else none
  | _, _ => none
def eIdx (mo me : ME τ D) : ME τ D := fun ρ t => (mo ρ t).bind fun d t1 => match d with
  | .lst es => (me ρ t1).bind fun e t2 => opt (dIdx es e) t2
  | _ => .bad
theorem me_idx {o e : Expr} {mo me : ME τ D} {apos cpos : Pos} (hu : X.A.units + 65 < cLine) (ho : PE X o (tW X.K W mo)) (he : PE X e (tW X.K W me))
    (hbase : attributeBase o "index" X.env (eval o X.env) = eval o X.env := by rfl)
    (hfew : ((backTo cpos (starEach [e] X.env)).all (fun x => !x.1) && (backToKw cpos (keywordEach [] X.env)).all (fun x => x.1.isSome)
      && decide ([e].length + ([] : List Keyword).length + (if ([] : List Keyword).isEmpty then 0 else 1) < 30)) = true := by rfl)
    (hline : (apos.endLine == cpos.line) = true := by rfl) (hs : starEach [e] X.env = (false, eval e X.env) :: starEach [] X.env := by rfl) (hplain : (backTo cpos (starEach [] X.env)).any (·.1) = false := by rfl) :
    PE X (.Call (.Attribute o "index" apos) [e] [] cpos) (tE X.K W (eIdx mo me)) :=
  PE.imp (pe_bm PySem.F.plainAttrs_list PySem.F.slot_list_index PySem.F.type_list_index (mt_indexD hu) ho (pa_cons he pa_nil hs) hbase hfew hline hs hplain) fun σ H Q ⟨C, ρ, t, A, p⟩ => by
    refine use okE A p fun d t1 v H1 e1 s1 A1 r1 p1 => ?_
    cases d with
    | lst es =>
      obtain ⟨x, vs, rfl, h1, q1⟩ := r1.lstOf
      refine ⟨.inl ⟨rfl, vs, h1.sq⟩, ?_⟩
      refine use okE A1 p1 fun e t2 u H2 e2 s2 A2 r2 p2 => ?_
      have r1' := RepW.same r1 s2 (fun _ => Fo.base)
      unfold dIdx at p2
      split at p2
      · rename_i ps p e3 e4
        split at p2
        · rename_i hsh
          cases e5 : ps.findIdx? fun z => PyData.eqv z p with
          | none => rw [e5] at p2; exact p2.elim
          | some j =>
            rw [e5] at p2
            obtain ⟨hj, h3, h4⟩ := List.findIdx?_eq_some_iff_getElem.mp e5
            refine ⟨x, u, p, ps, j, ps[j], rfl, rfl, RepW.dp r1' (by simp only [py, e3]; rfl), RepW.dp r2 e4, hsh.1, hsh.2, List.getElem?_eq_getElem hj, h3, fun m z' hm hz => ?_, p2 _ H2 (Sm.refl _ _) A2.st (.int _)⟩
            have hml : m < ps.length := Nat.lt_trans hm hj
            rw [List.getElem?_eq_getElem hml] at hz
            cases hz
            have := h4 m hm
            simpa using this
        · exact p2.elim
      · exact p2.elim
    | _ => exact p1.elim
end
section
variable {τ : Type} {Q : D → τ → Prop} {X : Str → Fds → τ → Prop} {ρ : Rho} {t : τ}
@[simp] theorem oE_idx {mo me : ME τ D} : oE (eIdx mo me ρ t) Q X = oE (mo ρ t) (fun d t1 => ∃ es, d = .lst es ∧ oE (me ρ t1) (fun e t2 => ∃ z, dIdx es e = some z ∧ Q z t2) X) X := by
  unfold eIdx
  cases e1 : mo ρ t with
  | ok d t1 =>
    cases d with
    | lst es =>
      simp only [Res.bind_ok, oE_ok, D.lst.injEq, exists_eq_left']
      cases e2 : me ρ t1 with
      | ok e t2 => cases e3 : dIdx es e <;> simp [e3]
      | ex n fs t2 => simp
      | bad => simp
    | _ => simp
  | ex n fs t2 => simp
  | bad => simp
end
end MM

namespace MM
open PySem PySem.Spec PyProof.Rows L2
section
variable {X : Cx} {W : WX} {τ : Type} [Sto τ] {K : Fg}
def eChain (f g : D → D → Option D) (ma mb mc : ME τ D) : ME τ D := fun ρ t => (ma ρ t).bind fun x t1 => (mb ρ t1).bind fun y t2 => match f x y with
  | some (.bl true) => (mc ρ t2).bind fun w t3 => opt (g y w) t3
  | some (.bl false) => .ok (.bl false) t2
  | _ => .bad
theorem run3 {r r' : R2} {f g : D → D → Option D} {ma mb mc : ME τ D} {σ : L2.St} {H : Hp} {Q : VK} (o1 : DOp2 K r f) (o2 : DOp2 K r' g) (p : tE K W (eChain f g ma mb mc) σ H Q) : tChain r r' (tW K W ma) (tW K W mb) (tW K W mc) σ H Q := by
  obtain ⟨C, ρ, t, A, p⟩ := p
  refine use okE A p fun x t1 v H1 e1 s1 A1 r1 p1 => ?_
  refine use okE A1 p1 fun y t2 u H2 e2 s2 A2 r2 p2 => ?_
  have r1' := RepW.same r1 s2 (fun _ => Fo.base)
  cases e : f x y with
  | none => rw [e] at p2; exact p2.elim
  | some z =>
    rw [e] at p2
    cases z with
    | bl k =>
      refine o1 C.F _ H2 v u x y (.bl k) _ A2.dom r1' r2 e fun v' H3 sm rr => ?_
      cases rr
      refine ⟨k, rfl, ?_⟩
      cases k with
      | false => exact p2 (.bl false) H3 (Sm.of_same sm) (C.stay A2.st sm) (.bl _)
      | true =>
        have A3 := A2.next (Sm.of_same sm) (C.stay A2.st sm)
        rw [if_pos rfl]
        have p2' : Post rE K W C (Fo C.F ρ σ) σ H2 ((mc ρ t2).bind fun w t3 => opt (g y w) t3) Q := p2
        refine use okE A3 (Post.rebase okE p2' (Sm.of_same sm) fun _ => Fo.base) fun w t3 w' H4 e3 s3 A4 r3 p3 => ?_
        have r2' := RepW.same (RepW.same r2 (Sm.of_same sm) (fun _ => Fo.base)) s3 (fun _ => Fo.base)
        cases e5 : g y w with
        | none => rw [e5] at p3; exact p3.elim
        | some z =>
          rw [e5] at p3
          exact o2 C.F _ H4 u w' y w z Q A4.dom r2' r3 e5 fun v'' H5 sm5 rr5 => p3 v'' H5 (Sm.of_same sm5) (C.stay A4.st sm5) rr5
    | _ => exact p2.elim
end
end MM

namespace MM
open PySem PySem.Spec PyProof.Rows L2
section
variable {prog : Program} {w : World} {A : Around} {E : Value → Shared → Prop} {s : Shared}
theorem un_list {l : Addr} {items : Array Value} {Q : List Value → Shared → Prop} (hL : s.heap.IsList l items) (hh : A.handled = none)
    (h : ∀ h2 : Heap, (∀ b o, s.heap.get? b = some o → h2.get? b = some o) → Q items.toList { s with heap := h2 }) :
    wpAny (model prog w) A (unpackItems (.ref l) items.size none) Q E s := by
  have hlt : l ≠ s.heap.objs.size := by obtain ⟨o, ho, _⟩ := hL; exact Nat.ne_of_lt (Heap.lt_size ho)
  unfold unpackItems notIterableAtAll
  refine wpAny_bind (wpAny_bind (wpAny_specialOf hL.typeIs slot_list_iter.lookup (wpAny_pure ?_)))
  simp only [Bool.false_eq_true, if_false]
  refine wpAny_bind (wpAny_holding (wpAny_pyIter_list hL ?_))
  refine wpAny_bind (wpAny_holding (PySem.W.kun_draw hlt items.size 0 _ _ ⟨_, Heap.get?_push_size _ rfl, rfl, rfl⟩ (hL.push _) (by omega) fun h1 it1 sb => ?_))
  have l1 : h1.IsList l items := (hL.push _).extBut sb.extBut hlt
  have hall : List.take items.size (List.drop 0 items.toList) = items.toList := by
    rw [List.drop_zero]; exact List.take_of_length_le (by simp)
  rw [hall, if_neg (by simp)]
  refine wpAny_bind (wpAny_holding (wpAny_pyNext_list_end hh it1 l1 (by simp) fun h2 he2 => ?_))
  simp only [Option.isSome_none, Bool.false_eq_true, if_false]
  exact wpAny_pure (h h2 fun b o e => he2 b o (Nat.ne_of_lt (Heap.lt_size e)) (sb.extBut b o (Nat.ne_of_lt (Heap.lt_size e)) (Heap.get?_push_of_some _ e)))
end
def gTupL (K : Fg) (n : Nat) (t : TGs) : TG := fun v σ H Q => ∃ a xs, v = .ref a ∧ SqL K H a xs ∧ xs.length = n ∧ t xs σ H Q
theorem pg_tupL {X : Cx} {es : List Expr} {k : Nat} {pos : Pos} {t : TGs} {n : Nat} (hc : X.calm = true) (h : PGs X es t)
    (hn : (assignEach es X.env).length = n := by rfl) (hst : (assignEach es X.env).findIdx? (·.1) = none := by rfl) : PG X (.Tuple es k pos) (gTupL X.K n t) := by
  refine ⟨fun pins s σ H v u Q I r hw => ?_⟩
  obtain ⟨a, xs, e1, hq, hl, hw⟩ := hw
  subst e1
  cases r
  obtain ⟨its, rv, pl, hz⟩ := I.list hq
  rw [PyProof.Rows.assign_Tuple]
  refine wpAny_bind (wpAny_standAt ?_)
  unfold unpack
  have hsz : its.toArray.size = n := by simp [← hl, rv.length]
  rw [hn, hst, ← hsz]
  refine wpAny_bind (wpAny_holding (un_list pl.isList (I.ok.hd hc) fun h2 up => ?_))
  exact h.run pins _ σ H xs _ Q (I.kept (t' := s.toks) up) (by simpa using rv) hw
section
variable {X : Cx} {τ : Type} [Sto τ] {K : Fg}
def gTL (gs : Tgts) : Tgt := fun ρ d => match d with
  | .lst ds => gs ρ ds
  | _ => none
theorem mg_tupL {es : List Expr} {k n : Nat} {pos : Pos} {gs : Tgts} (hc : X.calm = true) (hg : glen gs n) {vs : List Nat} (h : PGs X es (tTgs τ X.K gs vs)) (hn : (assignEach es X.env).length = n := by rfl) (hst : (assignEach es X.env).findIdx? (·.1) = none := by rfl) :
    PG X (.Tuple es k pos) (tTg τ X.K (gTL gs) vs) := PG.imp (pg_tupL hc h hn hst) fun v σ H Q ⟨C, ρ, t, d, A, r, ρ', e, k⟩ => by
  cases r with
  | lst lf rs =>
    have e' : gs ρ _ = some ρ' := e
    exact ⟨_, _, rfl, lf.sq, by rw [rs.length]; exact hg _ _ _ e', C, ρ, t, _, A, rs, ρ', e', k⟩
  | _ => cases e
@[simp] theorem gTL_lst {gs : Tgts} {ρ : Rho} {ds : List D} : gTL gs ρ (.lst ds) = gs ρ ds := rfl
end
end MM

namespace MM
open PySem PySem.Spec PyProof.Rows L2
section
variable {X : Cx} {τ : Type} [Sto τ] {W : WX}
end
section
variable {τ : Type} {P : MM.Pt τ} {ρ : Rho} {t : τ}
@[simp] theorem oS_asgTL {gs : Tgts} {m : ME τ D} : oS (sAsg (gTL gs) m ρ t) P = oE (m ρ t) (fun d t => ∃ ρ', gTL gs ρ d = some ρ' ∧ P.nx ρ' t) (fun n fs t => P.ex n fs ρ t) := oS_asgG
end
end MM

namespace MM
open PySem PySem.Spec PyProof.Rows L2
section
variable {prog : Program} {w : World} {A : Around} {E : Value → Shared → Prop} {s : Shared}
end
section
variable {X : Cx}
variable {W : WX} {τ : Type} [Sto τ]
end
end MM

namespace MM
open PySem PySem.Spec PyProof.Rows L2
section
variable {X : Cx} {W : WX} {τ : Type} [Sto τ] {K : Fg}
end
section
variable {τ : Type} {Q : D → τ → Prop} {X : Str → Fds → τ → Prop} {ρ : Rho} {t : τ}
end
end MM

namespace MM
open PySem PySem.Spec PyProof.Rows L2
section
variable {X : Cx} {K : Fg}
theorem Reps.rep {F : Fp} {H : Hp} {vs : List V} {ds : List D} (r : Reps K F H vs ds) : ∀ k, Reps K F H (List.replicate k vs).flatten (List.replicate k ds).flatten
  | 0 => .nil
  | k + 1 => by
    rw [List.replicate_succ, List.replicate_succ, List.flatten_cons, List.flatten_cons]
    exact Reps.append r (Reps.rep r k)
variable {W : WX} {τ : Type} [Sto τ]
end
end MM

namespace MM
open PySem PySem.Spec PyProof.Rows L2
section
variable {X : Cx} {W : WX} {τ : Type} [Sto τ]
theorem mt_chain {op op' : CmpOp} {a b c : Expr} {r r' : R2} {f g : D → D → Option D} {ma mb mc : ME τ D} {pos : Pos} (ho : OpR X (compareOp op) r) (ho' : OpR X (compareOp op') r') (o1 : DOp2 X.K r f) (o2 : DOp2 X.K r' g) (ha : PE X a (tW X.K W ma)) (hb : PE X b (tW X.K W mb)) (hc : PE X c (tW X.K W mc))
    (hm : lastMarks [op, op'] [b, c] = false := by with_unfolding_all rfl) : PT X (.Compare a [op, op'] [b, c] pos) (tT X.K W (MM.e1 asB (eChain f g ma mb mc))) := by
  refine PT.imp (pt_chain ho ho' ha hb hc hm) fun σ H Q ⟨C, ρ, t, A, p⟩ => ?_
  refine run3 (K := X.K) (W := W) o1 o2 ?_
  refine use okB A p fun d t1 v H1 e1 s1 A1 r1 p1 => ?_
  cases d <;> first
    | exact p1.elim
    | (cases r1; exact ⟨_, rfl, p1 _ H1 (Sm.refl _ _) A1.st rfl⟩)
end
section
variable {τ : Type} {Q : D → τ → Prop} {X : Str → Fds → τ → Prop} {ρ : Rho} {t : τ}
theorem oE_eChain {f g : D → D → Option D} {ma mb mc : ME τ D} : oE (eChain f g ma mb mc ρ t) Q X = oE (ma ρ t) (fun x t1 => oE (mb ρ t1) (fun y t2 => (f x y = some (.bl true) ∧ oE (mc ρ t2) (fun w t3 => ∃ z, g y w = some z ∧ Q z t3) X) ∨ (f x y = some (.bl false) ∧ Q (.bl false) t2)) X) X := by
  unfold eChain
  rw [oE_bind]
  congr; funext x t1
  rw [oE_bind]
  congr; funext y t2
  cases e : f x y with
  | none => simp
  | some z =>
    cases z with
    | bl k =>
      cases k with
      | true =>
        dsimp only
        rw [oE_bind]
        simp
      | false => simp
    | _ => simp
end
end MM

namespace MM
open PySem PySem.Spec PyProof.Rows L2
section
variable {X : Cx} {W : WX} {τ : Type} [Sto τ]
end
section
variable {τ : Type} {Q : List D → τ → Prop} {X : Str → Fds → τ → Prop} {ρ : Rho} {t : τ}
end
end MM

namespace MM
open PySem PySem.Spec PyProof.Rows L2
section
variable {X : Cx} {W : WX} {τ : Type} [Sto τ] {K : Fg}
end
end MM

namespace MM
open PySem PySem.Spec PyProof.Rows L2
section
variable {J : It} {n : Nat} {G : Hp → Prop} {Y : Nat → Hp → V → Hp → Prop}
end
section
variable {X : Cx} {W : WX} {τ : Type} [Sto τ] {K : Fg}
end
section
variable {τ : Type} {Q : List D → τ → Prop} {X : Str → Fds → τ → Prop} {ρ : Rho} {t : τ} {vs vs1 : List Nat} {g g1 : Tgt} {tt tt1 : ME τ Bool} {mi mi1 : ME τ (List D)} {te : ME τ D}
end
end MM

namespace MM
open PySem PySem.Spec PyProof.Rows L2
section
variable {X : Cx} {W : WX} {τ : Type} [Sto τ] {K : Fg}
end
end MM

namespace MM
open PySem PySem.Spec PyProof.Rows L2
section
variable {K : Fg}
end
end MM

namespace MM
open PySem PySem.Spec PyProof.Rows L2
structure Nxr (it l : Addr) (S : Heap → Nat → Prop) (L : Heap → Prop) (xs : Array Value) : Prop where
  sat : ∀ {h h' : Heap} {i : Nat}, S h i → (∀ o, h.get? it = some o → h'.get? it = some o) → S h' i
  lat : ∀ {h h' : Heap}, L h → (∀ o, h.get? l = some o → h'.get? l = some o) → L h'
  lt : ∀ {h : Heap} {i : Nat}, S h i → it < h.objs.size
  item : ∀ {prog : Program} {w : World} {A : Around} {E : Value → Shared → Prop} {s : Shared} {i : Nat} {x : Value} {Q : Value → Shared → Prop}, S s.heap i → L s.heap → xs[i]? = some x →
    (∀ h', S h' (i + 1) → Heap.SameBut it s.heap h' → Q x { s with heap := h' }) → wpAny (model prog w) A (Builtin.SmallTypes.nextOf (.ref it)) Q E s
  stop : ∀ {prog : Program} {w : World} {A : Around} {E : Value → Shared → Prop} {s : Shared} {i : Nat} {Q : Value → Shared → Prop}, A.handled = none → S s.heap i → L s.heap → xs[i]? = none →
    (∀ h' e, Heap.ExtBut it s.heap h' → (∃ o, h'.get? e = some o ∧ o.cls = .type "StopIteration") → E (.ref e) { s with heap := h' }) → wpAny (model prog w) A (Builtin.SmallTypes.nextOf (.ref it)) Q E s
theorem Nxr.lst {it l : Addr} {xs : Array Value} : Nxr it l (fun h i => h.IsListIter it l i) (fun h => h.IsList l xs) xs :=
  ⟨fun a k => a.at k, fun a k => a.at k, fun a => by obtain ⟨_, e, _⟩ := a; exact Heap.lt_size e, fun a b c d => wpAny_nextOf_list_item a b c d, fun a b c d e => wpAny_nextOf_list_end a b c d e⟩
theorem Nxr.tup {it l : Addr} {xs : Array Value} : Nxr it l (fun h i => h.IsTupleIter it l i) (fun h => h.IsTuple l xs) xs :=
  ⟨fun a k => a.at k, fun a k => a.at k, fun a => by obtain ⟨_, e, _⟩ := a; exact Heap.lt_size e, fun a b c d => RZ.nextOf_tuple_item a b c d, fun a b c d e => RZ.nextOf_tuple_end a b c d e⟩
section
variable {it l : Addr} {S : Heap → Nat → Prop} {L : Heap → Prop} {xs : Array Value}
theorem Nxr.lx (N : Nxr it l S L xs) {h h' : Heap} {b : Addr} (x : L h) (e : Heap.ExtBut b h h') (d : l ≠ b) : L h' := N.lat x fun o q => e _ o d q
end
section
variable {prog : Program} {w : World} {A : Around} {E : Value → Shared → Prop} {s : Shared} {z TI TO i1 i2 l1 l2 : Addr} {S1 S2 : Heap → Nat → Prop} {L1 L2 : Heap → Prop} {k1 k2 : Nat} {xs ys : Array Value} {x y a b : Value}
end
section
variable {prog : Program} {w : World} {A : Around} {E : Value → Shared → Prop} {s : Shared} {z TI TO i1 i2 l1 l2 : Addr} {S1 S2 : Heap → Nat → Prop} {L1 L2 : Heap → Prop} {k1 k2 : Nat} {xs ys : Array Value} {x y a b : Value}
end
section
variable {X : Cx} {W : WX} {τ : Type} [Sto τ] {K : Fg}
end
end MM

namespace MM
open PySem PySem.Spec PyProof.Rows L2
open ClX (CRead)
section
variable {X : Cx} {o e : Expr} {es : List Expr} {to te : TE} {ta : TA} {B f : Str} {p p' p1 p2 pos : Pos}
end
section
variable {X : Cx} {W : WX} {τ : Type} [Sto τ] {K : Fg}
end
section
variable {X : Cx} {W : WX} {τ : Type} [Sto τ] {K : Fg}
end
end MM
namespace MM
open PySem PySem.Spec PyProof.Rows L2
section
variable {τ : Type} {P : Pt τ} {ρ : Rho} {t : τ}
end
end MM

namespace MM
open PySem PySem.Spec PyProof.Rows L2
section
variable {prog : Program} {w : World} {A : Around} {P : Nat → Value → Prop}
end
section
variable {prog : Program} {w : World} {A : Around} {E : Value → Shared → Prop} {s : Shared} {x y : Str} {t u : Tok} {Q : Value → Shared → Prop}
end
section
variable {X : Cx} {K : Fg}
end
end MM
namespace PySem.W
open PySem PySem.Spec PySem.Calls PyProof.Rows
section
variable {prog : Program} {w : World} {A : Around} {E : Value → Shared → Prop} {s : Shared} {K : Frag} {x D : Addr} {ox : Obj} {od : Option Obj}
end
end PySem.W
namespace MM
open PySem PySem.Spec PyProof.Rows L2
section
variable {X : Cx} {a D : Addr} {oe : Obj} {cls : Value} {d : Option Addr} {pn : List (Addr × Obj)}
end
end MM

namespace MM
open PySem PySem.Spec PyProof.Rows L2
section
variable {X : Cx} {a D : Addr} {oe : Obj} {cls : Value} {d : Option Addr} {pn : List (Addr × Obj)} {i : Nat}
end
end MM

namespace MM
open PySem PySem.Spec PyProof.Rows L2
open L2H (RoomH PinOk cxH inv_startH)
structure Ec (dd : Addr) where
  fs : List (Str × V)
instance {dd : Addr} : Sto (Ec dd) where
  ok := fun _ C => ∀ t G H, C.Iv t G H → H dd = some (.xd t.fs)
  cmp := fun _ _ _ _ _ h t G H i => h t G H i.1
  ov := fun _ _ _ _ _ _ h t G H i => h t G H i.1
  lend := fun _ _ _ _ _ _ h t G H i => h t _ H i.1
section
variable {X : Cx} {W : WX} {K : Fg} {a D dd : Addr} {oe : Obj}
end
section
variable {dd a : Addr} {i : Nat} {b : Bool} {ρ : Rho} {t : Ec dd} {Q : D → Ec dd → Prop} {X : Str → Fds → Ec dd → Prop}
end
structure FnB (P : Program) (w : World) (K : Fg) (mg : Str → Option Value) (base : Heap) (CX : CXT) (p : Addr × Obj) (k : Nat) (f : Addr) (fd : FuncData) (ps : List Str) (sp : Sp) : Prop where
  len : ∀ vs H Q E, sp vs H Q E → vs.length = ps.length
  run : ∀ (A : Around) (outer : List Env) (s : Shared) (H : Hp) (args : Args) (us : List Value) (vs : List V) (Q : VK) (E : XK), RoomH k A → PinOk outer H s p → Env0 P w K mg base A outer s H → BindsTo s fd args (ps.zip us) → Vals vs us → sp vs H Q E →
    codeAny (model P w) A (.call (.ref f) args) (CR CX outer P w H s Q E) s
theorem fnB_of {P : Program} {w : World} {K : Fg} {mg : Str → Option Value} {base : Heap} {CX : CXT} {p : Addr × Obj} {x qual : Str} {params : Arguments} {body : List Stmt} {scope : Scope} {dvs : List V} {kws : List (Str × V)} {f : Addr} {fd : FuncData} {N ps : List Str} {k : Nat} {sp : Sp}
    (F : FunD K x qual params body scope dvs kws f fd) (S : FnScope N ps scope) (len : ∀ vs H Q E, sp vs H Q E → vs.length = ps.length)
    (hbody : ∀ (cdv : Value) (A : Around) (outer : List Env) (s : Shared) (H : Hp) (vs : List V) (Q : VK) (E : XK), RoomH k (A.deeper (envOfC qual scope s.heap.objs.size f cdv)) → sp vs H Q E →
      ∃ t, PSs (cxH CX P w K mg base N qual scope f cdv A outer s H E p) body t ∧ t { nx := fun _ H' => Q .non H', rt := Q } (L2.start N vs) H) : FnB P w K mg base CX p (k + 1) f fd ps sp := by
  obtain ⟨oc, od, dV, kV, doc, pm, an, cdv, ct, osl, rfl, lk, hcd, _, _⟩ := F.ex
  refine ⟨len, fun A outer s H args us vs Q E hr hpin e0 hb r hsp => ?_⟩
  have up : ∀ b o, base.get? b = some o → s.heap.get? b = some o := fun b o e => (e0.bs b o e).1
  have KX : K.In s.heap := e0.mod.kin.keeps up
  refine codeAny_call_function hr.depth (KX _ _ lk) rfl S.co S.gen rfl (PySem.W.codeRec_of KX hcd) (hb _ _ _ _ ?_)
  refine wpAny_newFunctionEnv_cells S.kind (fun ⟨n, v⟩ hy => ?_) fun env he s1 xx => ?_
  · rcases S.par n (List.of_mem_zip hy).1 with q | q
    · exact .inl q
    · exact .inr ⟨q, PySem.W.cellsFrom_some _ _ _ (.inl q)⟩
  subst he
  refine ⟨(e0.mod.nolimit.keeps up).keeps xx.toInCall.keep, codeAny_func ?_⟩
  obtain ⟨t, ht, hq⟩ := hbody cdv A outer s H vs Q E (hr.deeper _) hsp
  have I := inv_startH (CX := CX) (E := E) S hpin e0 (len _ _ _ _ hsp) r xx
  refine wpAny_mono (ht.run [] s1 (L2.start N vs) H _ I hq) (fun fl s' hs => ?_) fun e s' hs => hs
  cases fl with
  | ret u =>
    obtain ⟨v, σ', H', J, rv, q⟩ := hs
    exact ⟨v, H', J.os, J.bare, J.base, J.hok, rv, q⟩
  | next =>
    obtain ⟨σ', H', J, q⟩ := hs
    exact ⟨V.non, H', J.os, J.bare, J.base, J.hok, rfl, q⟩
  | brk => exact hs.elim fun _ h => h.elim fun _ h => h.2.elim
  | cont => exact hs.elim fun _ h => h.elim fun _ h => h.2.elim
section
variable {X : Cx} {CX : CXT} {k : Nat} {f : Addr} {fd : FuncData} {ps : List Str} {sp : Sp} {E : St → XK} {x : Str} {q pos : Pos} {e : Expr} {es : List Expr} {t : TA} {p : Addr × Obj}
end
structure DefB (P : Program) (w : World) (K : Fg) (mg : Str → Option Value) (base : Heap) (p : Addr × Obj) (k : Nat) (x : Str) (dd : Addr) (m : List D → Ec dd → Res (Ec dd) D) : Prop where
  ex : ∃ (fd : FuncData) (ps : List Str), FnB P w K mg base (L2.CX P w) p k (He.ga K x) fd ps (spF 1 K m) ∧ mg x = some (.ref (He.ga K x)) ∧ PySem.W.keepIn K (.ref (He.ga K x)) = true ∧ Binds K fd ps []
theorem DefB.mk' {P : Program} {w : World} {K : Fg} {mg : Str → Option Value} {base : Heap} {p : Addr × Obj} {dd : Addr} {x : Str} {params : Arguments} {body : List Stmt} {scope : Scope} {fd : FuncData} {N ps : List Str} {k : Nat}
    (F : FunD K x x params body scope [] [] (He.ga K x) fd) (g : mg x = some (.ref (He.ga K x))) (S : FnScope N ps scope) (hps : ps.length = 1) (hb : Binds K fd ps []) (mb : MS (Ec dd))
    (hbd : ∀ (cdv : Value) (A : Around) (outer : List Env) (s : Shared) (H : Hp) (E : XK), RoomH k (A.deeper (envOfC x scope s.heap.objs.size (He.ga K x) cdv)) →
      PSs (cxH (L2.CX P w) P w K mg base N x scope (He.ga K x) cdv A outer s H E p) body (tS K (fun cls d _ H => E cls d H) mb)) : DefB P w K mg base p (k + 1) x dd (runB N.length mb) := by
  have hpl : ps.length ≤ N.length := by have := congrArg List.length S.pre; rw [List.length_take] at this; omega
  refine ⟨fd, ps, fnB_of F S (fun vs H Q E ⟨C, ds, t, _, _, r, hl, _⟩ => r.length.trans (hl.trans hps.symm)) fun cdv A outer s H vs Q E hr ⟨C, ds, t, okC, iv, r, hl, p⟩ => ⟨_, hbd cdv A outer s H E hr, C, _, t, At.start okC iv r (by rw [hl, ← hps]; exact hpl), ?_⟩, g, F.kp, hb⟩
  unfold runB at p
  cases e : mb (ds.map Slot.val ++ List.replicate (N.length - ds.length) .no) t with
  | nx ρ' t' =>
    rw [e] at p
    exact fun σ' H' s' A' => p .non H' (fun b o n e => s'.keep b o (fun z => n (FoStart z)) e) (C.less A'.st fun _ => .inl) .non
  | rt d t' =>
    rw [e] at p
    exact fun v H' s' i r => p v H' (fun b o n e => s' b o (fun z => n (FoStart z)) e) i r
  | ex n fs ρ' t' =>
    rw [e] at p
    exact fun cls dd σ' H' s' A' x => p cls dd H' (fun b o n e => s'.keep b o (fun z => n (FoStart z)) e) (C.less A'.st fun _ => .inl) (x.anti fun _ => .inl)
  | bk ρ' t' => rw [e] at p; exact p.elim
  | ct ρ' t' => rw [e] at p; exact p.elim
  | bad => rw [e] at p; exact p.elim
section
variable {X : Cx} {W : WX} {a dd : Addr} {oe : Obj}
end
section
variable {X : Cx} {W : WX} {τ : Type} [Sto τ] {K : Fg}
end
section
variable {τ : Type} {Q : D → τ → Prop} {X : Str → Fds → τ → Prop} {ρ : Rho} {t : τ}
end
end MM

namespace MM
open PySem PySem.Spec PyProof.Rows L2
open L2H (RoomH PinOk cxH inv_startH roomH_of)
abbrev FX := Fds → Option D
def TeOk (K : Fg) (n0 : Str) (i : Nat) (hf : FX) (te : Addr → Value → Option Addr → TE) : Prop :=
  ∀ {a : Addr} {cls : Value} {dd : Option Addr} {fs : Fds} {F : Fp} {σ : St} {H : Hp} {d : D} {Q : VK}, σ[i]? = some (some (.ref a)) → XRep K F H n0 fs cls dd → hf fs = some d → Dom F H → (∀ v H', Same H H' → Rep K F H' v d → Q v H') → te a cls dd σ H Q
def SuS (X : Cx) (n0 : Str) (i : Nat) (b : Stmt) (j : Nat) (hf : FX) : Prop := ∃ te : Addr → Value → Option Addr → TE,
  (∀ (a : Addr) (oe : Obj) (cls : Value) (d : Option Addr) (pn : List (Addr × Obj)), Zc cls d oe → (∃ vs, oe.data = .fields vs) → PS (X.suite a ((a, oe) :: pn)) b (tAsg (te a cls d) (gName j))) ∧ TeOk X.K n0 i hf te
theorem SuS.mk {X : Cx} {n0 : Str} {i j : Nat} {b : Stmt} {hf : FX} {te : Addr → Value → Option Addr → TE}
    (h1 : ∀ (a : Addr) (oe : Obj) (cls : Value) (d : Option Addr) (pn : List (Addr × Obj)), Zc cls d oe → (∃ vs, oe.data = .fields vs) → PS (X.suite a ((a, oe) :: pn)) b (tAsg (te a cls d) (gName j)))
    (h2 : ∀ {a : Addr} {cls : Value} {dd : Option Addr} {fs : Fds} {F : Fp} {σ : St} {H : Hp} {d : D} {Q : VK}, σ[i]? = some (some (.ref a)) → XRep X.K F H n0 fs cls dd → hf fs = some d → Dom F H → (∀ v H', Same H H' → Rep X.K F H' v d → Q v H') → te a cls dd σ H Q) : SuS X n0 i b j hf := ⟨te, h1, h2⟩
inductive SuSs (X : Cx) (n0 : Str) (i : Nat) : List Stmt → List (Nat × FX) → Prop
  | nil : SuSs X n0 i [] []
  | cons {b : Stmt} {bs : List Stmt} {j : Nat} {hf : FX} {l : List (Nat × FX)} : j ≠ i → SuS X n0 i b j hf → SuSs X n0 i bs l → SuSs X n0 i (b :: bs) ((j, hf) :: l)
def appU (fs : Fds) : List (Nat × FX) → Rho → Option Rho
  | [], ρ => some ρ
  | (j, hf) :: l, ρ => match hf fs with
    | some d => appU fs l (ρ.set j (.val d))
    | none => none
section
variable {X : Cx} {W : WX} {τ : Type} [Sto τ] {n0 : Str} {i : Nat}
structure SuI (K : Fg) (n0 : Str) (i : Nat) (C : SC τ) (ρ : Rho) (t : τ) (σ : St) (H : Hp) (a : Addr) (cls : Value) (d : Option Addr) (fs : Fds) : Prop where
  at_ : At K C ρ t σ H
  no : ρ[i]? = some .no
  s : σ[i]? = some (some (.ref a))
  x : XRep K (Fo C.F ρ σ) H n0 fs cls d
def tU (K : Fg) (n0 : Str) (i : Nat) (τ : Type) [Sto τ] (l : List (Nat × FX)) (a : Addr) (cls : Value) (d : Option Addr) : TS := fun E σ H => ∃ (C : SC τ) (ρ : Rho) (t : τ) (fs : Fds), SuI K n0 i C ρ t σ H a cls d fs ∧
  ∃ ρ', appU fs l ρ = some ρ' ∧ ∀ σ' H', Stp (Fo C.F ρ σ) H (Fo C.F ρ' σ') H' → SuI K n0 i C ρ' t σ' H' a cls d fs → E.nx σ' H'
theorem XRep.step {K : Fg} {F F' : Fp} {H H' : Hp} {n : Str} {fs : Fds} {cls : Value} {dd : Option Addr} (x : XRep K F H n fs cls dd) (s : Same H H') (h : ∀ b, F' b → F b) : XRep K F' H' n fs cls dd := by
  obtain ⟨e, x⟩ := x
  refine ⟨e, ?_⟩
  cases fs with
  | none => exact x
  | some p =>
    obtain ⟨ns, ds⟩ := p
    obtain ⟨a, vs, h1, h2, h3, h4⟩ := x
    exact ⟨a, vs, h1, s a _ h2, h3, (h4.same (fun b o _ e => s b o e)).anti h⟩
theorem SuSs.run {bs : List Stmt} {l : List (Nat × FX)} (h : SuSs X n0 i bs l) {a : Addr} {oe : Obj} {cls : Value} {d : Option Addr} {pn : List (Addr × Obj)} (hz : Zc cls d oe) (hv : ∃ vs, oe.data = .fields vs) : PSs (X.suite a ((a, oe) :: pn)) bs (tU X.K n0 i τ l a cls d) := by
  induction h with
  | nil => exact PSs.imp pss_nil fun E σ H ⟨C, ρ, t, fs, S, ρ', e, q⟩ => by cases e; exact q σ H (Stp.less fun _ z => z) S
  | @cons b bs j hf l ij hb _ ih =>
    obtain ⟨te, hp, ht⟩ := hb
    refine PSs.imp (pss_cons (hp a oe cls d pn hz hv) ih) fun E σ H ⟨C, ρ, t, fs, S, ρ', e, q⟩ => ?_
    unfold appU at e
    cases eh : hf fs with
    | none => rw [eh] at e; cases e
    | some dv =>
      rw [eh] at e
      refine ht S.s S.x eh S.at_.dom fun v H1 sm r => ?_
      have smC : Sm C.F H H1 := fun b o _ e => sm b o e
      have A2 := S.at_.next smC (C.stay S.at_.st sm)
      have A3 := A2.setVal (i := j) (v := v) (d := dv) r
      have S3 : SuI X.K n0 i C (ρ.set j (.val dv)) t (σ.set j (some v)) H1 a cls d fs := ⟨A3, by rw [List.getElem?_set_ne ij]; exact S.no, by rw [List.getElem?_set_ne ij]; exact S.s, S.x.step sm fun b h => Fo.setVal h⟩
      refine ⟨C, _, t, fs, S3, ρ', e, fun σ' H' s' S' => q σ' H' (Stp.trans ⟨fun b o n e => sm b o e, fun b h => .inl (Fo.setVal h)⟩ s') S'⟩
end
theorem _root_.L2H.RoomH.units {k : Nat} {A : Around} (r : RoomH k A) : A.units + 64 < cLine := by have := r.un; omega
section
variable {τ : Type} {P : Pt τ} {ρ : Rho} {t : τ}
end
end MM

namespace MM
open PySem PySem.Spec PyProof.Rows L2
section
variable {X : Cx} {W : WX} {τ : Type} [Sto τ] {K : Fg}
end
section
variable {τ : Type} {Q : D → τ → Prop} {X : Str → Fds → τ → Prop} {ρ : Rho} {t : τ}
end
end MM

namespace MM
open PySem PySem.Spec PyProof.Rows L2
theorem nsEq_ok : ∀ {a b : List Nat}, nsEq a b = true → a = b
  | [], [], _ => rfl
  | a :: x, b :: y, h => by
    obtain ⟨h1, h2⟩ := Bool.and_eq_true_iff.mp h
    rw [Nat.eq_of_beq_eq_true h1, nsEq_ok h2]
  | [], _ :: _, h => by cases h
  | _ :: _, [], h => by cases h
theorem sEqL_ok {a b : Str} (h : sEqL a b = true) : a = b := by
  obtain ⟨⟨a⟩⟩ := a
  obtain ⟨⟨b⟩⟩ := b
  have := nsEq_ok h
  simp at this
  rw [this]
theorem linKeys_ok {own : List Str} : ∀ {ks xs : List Str}, linKeys own ks xs = true → ∀ k ∈ ks, startupNames.contains k = true ∨ own.contains k = true ∨ k ∈ xs
  | [], _, _, k, hk => by cases hk
  | k :: ks, [], h, k', hk => by
    obtain ⟨h1, h2⟩ := Bool.and_eq_true_iff.mp h
    rcases List.mem_cons.mp hk with rfl | hk
    · rcases Bool.or_eq_true_iff.mp h1 with z | z
      · exact .inl z
      · exact .inr (.inl z)
    · exact linKeys_ok h2 k' hk
  | k :: ks, x :: xs, h, k', hk => by
    rw [linKeys] at h
    cases e : sEqL k x with
    | true =>
      rw [e] at h
      rcases List.mem_cons.mp hk with rfl | hk
      · exact .inr (.inr (by rw [sEqL_ok e]; exact List.mem_cons_self))
      · rcases linKeys_ok h k' hk with z | z | z
        · exact .inl z
        · exact .inr (.inl z)
        · exact .inr (.inr (List.mem_cons_of_mem _ z))
    | false =>
      rw [e] at h
      obtain ⟨h1, h2⟩ := Bool.and_eq_true_iff.mp h
      rcases List.mem_cons.mp hk with rfl | hk
      · rcases Bool.or_eq_true_iff.mp h1 with z | z
        · exact .inl z
        · exact .inr (.inl z)
      · exact linKeys_ok h2 k' hk
theorem seenL_ok {q : Program} {loose mods : List Str} {Xt : Shared → Bool} {s : Shared} (hq : ∀ L, clssOf q L = [] ∧ dclssOf q L = [] ∧ PySem.W.wclssOf q L = []) (h : seenL q loose mods Xt s = PySem.W.openGood q []) :
    PySem.W.openSeen q loose mods Xt true s = PySem.W.openGood q loose := by
  have ek : ∀ {a}, (linKeys ((recsOf q).map (·.name)) (s.heap.nsKeys mainGlobals) loose && a) = true → ∀ c1 c2, (s.heap.keysOk (PySem.W.looseW q loose) ((recsOf q).map (·.name)) c1 c2 && a) = true := by
    intro a z c1 c2
    obtain ⟨z1, z2⟩ := Bool.and_eq_true_iff.mp z
    refine Bool.and_eq_true_iff.mpr ⟨?_, z2⟩
    unfold Heap.keysOk
    rw [List.all_eq_true]
    intro k hk
    rcases linKeys_ok z1 k hk with y | y | y
    · simp only [y, Bool.true_or]
    · simp only [y, Bool.true_or, Bool.or_true]
    · have : (PySem.W.looseW q loose).contains k = true := by
        rw [List.contains_iff_mem]
        unfold PySem.W.looseW looseD PySem.W.heldW
        simp only [List.mem_append]
        exact .inl (.inl (.inl y))
      simp only [this, Bool.true_or, Bool.or_true]
  unfold seenL at h
  rw [← HandSHeadRun.seenQ_eq] at h
  unfold PySem.W.openSeen PySem.W.openGood plainSeenE plainGoodE plainSeenD plainGoodD PySem.W.clsSeenW PySem.W.clsGoodW plainsOf at h ⊢
  simp only [(hq _).1, (hq _).2.1, (hq _).2.2, Prod.mk.injEq, if_true] at h ⊢
  obtain ⟨h1, h2, h3, h4⟩ := h
  refine ⟨h1, h2, ?_, h4⟩
  simp only [Bool.and_assoc] at h3 ⊢
  exact ek h3 _ _
open PySem.W PySem.Calls in
theorem head_anyL {r : OpenRow} {q : Program} {H : Hook} {ob : SharedT → H.α} {M : Nat} {loose : List PySem.Str} {d : DefRec} {kwd : List (PySem.Str × PySem.Expr)} (ho : ∀ s : SharedT, ob s = H.obs s.abs)
    (e : opening r.prog = plainProg r.prog.main.scope.names) (f : ∀ s, fenceModules? r.prog s = some s) (run : ∀ w, RunEqL r q H ob M loose w)
    (hq : ∀ L, clssOf q L = [] ∧ dclssOf q L = [] ∧ PySem.W.wclssOf q L = [])
    (hdef : defOf q r.name = some (d, kwd)) (hp : r.prog.theDef r.name = some (d.params, d.body, d.scope)) (hk : kwWritten? d.params.kwonlyargs d.params.kw_defaults = some kwd)
    (hwr : (!r.writes || r.records.isEmpty) = true) (k1 : r.wellSaid = true) (ok : (chainsOk q && opensWell r.prog && (frees r.toRowW && r.within.isEmpty)) = true) (hb : r.prog.bare) (hw : r.toRowW.promised)
    (call : WalkO q loose (XL q []) H.says r.toRowW d kwd fun f vs => PySem.call f vs) : r.Holds := by
  have left : LeftO r.prog q loose (fun s => xlAt q [] s && recOk r.toRowW.records s) H.obs H.val (M + 600) true :=
    HandSHeadRun.left_one (M := M) e (Nat.ble_eq_true_of_le (by omega)) f (Nat.ble_eq_true_of_le (by omega)) fun w os => by
      have z := run w os
      have eo : ob = fun s => H.obs s.abs := funext ho
      rw [eo] at z
      rw [HandSHeadRun.endQ_eq]
      obtain ⟨s, hs, hv⟩ := Option.map_eq_some_iff.mp z
      obtain ⟨l1, l2, l3⟩ : _ ∧ _ ∧ _ := by simpa only [Prod.mk.injEq] using hv
      rw [hs]
      exact congrArg some (Prod.ext l1 (Prod.ext (seenL_ok hq l2) l3))
  exact holds_open (r := r) (q := q) (loose := loose) (XP := XL q []) (YP := H.says) (d := d) (kwd := kwd) left H.of H.keeps (fun s z => xl_of s (Bool.and_eq_true_iff.mp z).1) XL.keeps hdef hp hk (fun s z => recFacts_of (Bool.and_eq_true_iff.mp z).2) hwr k1 ok hb hw call
end MM

namespace MM
open PySem PySem.Spec PyProof.Rows L2
section
variable {X : Cx} {W : WX} {τ : Type} [Sto τ] {K : Fg}
end
end MM

namespace MM
open PySem PySem.Spec PyProof.Rows L2
section
variable {X : Cx} {W : WX} {τ : Type} [Sto τ] {K : Fg}
end
structure FnG (P : Program) (w : World) (K : Fg) (mg : Str → Option Value) (base : Heap) (CX : CXT) (k : Nat) (f : Addr) (fd : FuncData) (ps : List Str) (sp : Sp) : Prop where
  len : ∀ vs H Q E, sp vs H Q E → vs.length = ps.length
  run : ∀ (A : Around) (outer : List Env) (s : Shared) (H : Hp) (args : Args) (us : List Value) (vs : List V) (Q : VK) (E : XK), Room k A → A.guards = some [] → Env0 P w K mg base A outer s H → BindsTo s fd args (ps.zip us) → Vals vs us → sp vs H Q E →
    codeAny (model P w) A (.call (.ref f) args) (CR CX outer P w H s Q E) s
theorem FnG.mono {P : Program} {w : World} {K : Fg} {mg : Str → Option Value} {base : Heap} {CX : CXT} {j k : Nat} {f : Addr} {fd : FuncData} {ps : List Str} {sp : Sp} (F : FnG P w K mg base CX j f fd ps sp) (h : j ≤ k) : FnG P w K mg base CX k f fd ps sp :=
  ⟨F.len, fun A outer s H args us vs Q E r => F.run A outer s H args us vs Q E (r.mono h)⟩
theorem fnG_of {P : Program} {w : World} {K : Fg} {mg : Str → Option Value} {base : Heap} {CX : CXT} {x qual : Str} {params : Arguments} {body : List Stmt} {scope : Scope} {dvs : List V} {kws : List (Str × V)} {f : Addr} {fd : FuncData} {N ps : List Str} {k : Nat} {sp : Sp}
    (F : FunD K x qual params body scope dvs kws f fd) (S : FnScope N ps scope) (len : ∀ vs H Q E, sp vs H Q E → vs.length = ps.length)
    (hbody : ∀ (cdv : Value) (A : Around) (outer : List Env) (s : Shared) (H : Hp) (vs : List V) (Q : VK) (E : XK), Room k (A.deeper (envOfC qual scope s.heap.objs.size f cdv)) → (A.deeper (envOfC qual scope s.heap.objs.size f cdv)).guards = some [] → sp vs H Q E →
      ∃ t, PSs (cxOf CX P w K mg base N qual scope f cdv A outer s H E) body t ∧ t { nx := fun _ H' => Q .non H', rt := Q } (L2.start N vs) H) : FnG P w K mg base CX (k + 1) f fd ps sp := by
  obtain ⟨oc, od, dV, kV, doc, pm, an, cdv, ct, osl, rfl, lk, hcd, _, _⟩ := F.ex
  refine ⟨len, fun A outer s H args us vs Q E hr hgd e0 hb r hsp => ?_⟩
  have up : ∀ b o, base.get? b = some o → s.heap.get? b = some o := fun b o e => (e0.bs b o e).1
  have KX : K.In s.heap := e0.mod.kin.keeps up
  refine codeAny_call_function hr.depth (KX _ _ lk) rfl S.co S.gen rfl (PySem.W.codeRec_of KX hcd) (hb _ _ _ _ ?_)
  refine wpAny_newFunctionEnv_cells S.kind (fun ⟨n, v⟩ hy => ?_) fun env he s1 xx => ?_
  · rcases S.par n (List.of_mem_zip hy).1 with q | q
    · exact .inl q
    · exact .inr ⟨q, PySem.W.cellsFrom_some _ _ _ (.inl q)⟩
  subst he
  refine ⟨(e0.mod.nolimit.keeps up).keeps xx.toInCall.keep, codeAny_func ?_⟩
  obtain ⟨t, ht, hq⟩ := hbody cdv A outer s H vs Q E (hr.deeper _) hgd hsp
  have I := inv_start (CX := CX) (E := E) S hr.hd e0 (len _ _ _ _ hsp) r xx
  refine wpAny_mono (ht.run [] s1 (L2.start N vs) H _ I hq) (fun fl s' hs => ?_) fun e s' hs => hs
  cases fl with
  | ret u =>
    obtain ⟨v, σ', H', J, rv, q⟩ := hs
    exact ⟨v, H', J.os, J.bare, J.base, J.hok, rv, q⟩
  | next =>
    obtain ⟨σ', H', J, q⟩ := hs
    exact ⟨V.non, H', J.os, J.bare, J.base, J.hok, rfl, q⟩
  | brk => exact hs.elim fun _ h => h.elim fun _ h => h.2.elim
  | cont => exact hs.elim fun _ h => h.elim fun _ h => h.2.elim
section
variable {X : Cx} {CX : CXT} {k : Nat} {f : Addr} {fd : FuncData} {ps : List Str} {sp : Sp} {dvs : List V} {ds : List Value} {E : St → XK} {x : Str} {q pos : Pos} {e : Expr} {es : List Expr} {t : TA}
theorem pe_callG (F : FnG X.prog X.w X.K X.mg X.base CX k f fd ps sp) (hr : Room k X.A) (hgd : X.A.guards = some []) (hg : Gl X x) (hm : X.mg x = some (.ref f)) (hk : PySem.W.keepIn X.K (.ref f) = true) (hb : Binds X.K fd ps ds) (hd : Vals dvs ds) (hx : ∀ σ, PassesAt CX X σ (E σ))
    (ha : PA X (e :: es) t) (hdb : (x == ("__debug__" : Str)) = false := by decide) (he : starEach (e :: es) X.env = (false, eval e X.env) :: starEach es X.env := by rfl) (hpl : (backTo pos (starEach es X.env)).any (·.1) = false := by rfl) :
    PE X (.Call (.Name x q) (e :: es) [] pos) (tCallSD sp dvs E t) := by
  refine ⟨fun pins s σ H Q I h => wpAny_Call_Name_kw (ld_glob I hg hm ?_ hdb)⟩
  refine PySem.W.callWith_K (h₀ := X.base) I.ok.mod.kin hk (thn (ha.run pos pins s σ H _ I h) fun us s1 ⟨vs, H1, I1, r, h1⟩ => ⟨I1.kIn, ?_⟩) he hpl
  have r2 := r.append hd
  have hl : (us ++ ds).length = ps.length := by rw [← r2.length]; exact F.len _ _ _ _ h1
  refine wpAny_call (codeAny_mono (F.run X.A X.stack s1 H1 ⟨us, []⟩ _ _ Q (E σ) hr hgd I1.env0 (hb s1 us I1.kIn hl) r2 h1) fun r s' hq => ?_)
  match r, hq with
  | .error e, hq => exact hx σ pins H1 s1 e s' I1 hq
  | .ok (.ret u), hq => exact I1.after hq
end
structure DefG {τ : Type} [Sto τ] (P : Program) (w : World) (K : Fg) (mg : Str → Option Value) (base : Heap) (k : Nat) (x : Str) (np : Nat) (df : List D) (m : List D → τ → Res τ D) : Prop where
  ex : ∃ (fd : FuncData) (ps : List Str) (ds : List Value) (dvs : List V), FnG P w K mg base (L2.CX P w) k (He.ga K x) fd ps (spF np K m) ∧ mg x = some (.ref (He.ga K x)) ∧ PySem.W.keepIn K (.ref (He.ga K x)) = true ∧ Binds K fd ps ds ∧ Vals dvs ds ∧ (∀ F H, Reps K F H dvs df)
theorem DefG.mono {τ : Type} [Sto τ] {P : Program} {w : World} {K : Fg} {mg : Str → Option Value} {base : Heap} {j k : Nat} {x : Str} {np : Nat} {df : List D} {m : List D → τ → Res τ D} (F : DefG P w K mg base j x np df m) (h : j ≤ k) : DefG P w K mg base k x np df m := by
  obtain ⟨fd, ps, ds, dv, F, r⟩ := F.ex
  exact ⟨fd, ps, ds, dv, F.mono h, r⟩
theorem DefG.mk' {τ : Type} [Sto τ] {P : Program} {w : World} {K : Fg} {mg : Str → Option Value} {base : Heap} {x qual : Str} {params : Arguments} {body : List Stmt} {scope : Scope} {dvs : List V} {kws : List (Str × V)} {fd : FuncData} {N ps : List Str} {k : Nat} {df : List D}
    (F : FunD K x qual params body scope dvs kws (He.ga K x) fd) (hm : mg x = some (.ref (He.ga K x))) (S : FnScope N ps scope) (mb : MS τ) (hb : ∃ ds dv, Vals dv ds ∧ Binds K fd ps ds ∧ ∀ F H, Reps K F H dv df)
    (hbody : ∀ (cdv : Value) (A : Around) (outer : List Env) (s : Shared) (H : Hp) (E : XK), Room k (A.deeper (envOfC qual scope s.heap.objs.size (He.ga K x) cdv)) → (A.deeper (envOfC qual scope s.heap.objs.size (He.ga K x) cdv)).guards = some [] →
      PSs (cxOf (L2.CX P w) P w K mg base N qual scope (He.ga K x) cdv A outer s H E) body (tS K (fun cls d _ H => E cls d H) mb)) : DefG P w K mg base (k + 1) x ps.length df (runB N.length mb) := by
  obtain ⟨ds, dv, h1, h2, h3⟩ := hb
  have hpl : ps.length ≤ N.length := by have := congrArg List.length S.pre; rw [List.length_take] at this; omega
  refine ⟨fd, ps, ds, dv, fnG_of F S (fun vs H Q E ⟨C, ds, t, _, _, r, hl, _⟩ => r.length.trans hl) fun cdv A outer s H vs Q E hr hgd ⟨C, ds, t, okC, iv, r, hl, p⟩ => ⟨_, hbody cdv A outer s H E hr hgd, C, _, t, At.start okC iv r (by rw [hl]; exact hpl), ?_⟩, hm, F.kp, h2, h1, h3⟩
  unfold runB at p
  cases e : mb (ds.map Slot.val ++ List.replicate (N.length - ds.length) .no) t with
  | nx ρ' t' =>
    rw [e] at p
    exact fun σ' H' s' A' => p .non H' (fun b o n e => s'.keep b o (fun z => n (FoStart z)) e) (C.less A'.st fun _ => .inl) .non
  | rt d t' =>
    rw [e] at p
    exact fun v H' s' i r => p v H' (fun b o n e => s' b o (fun z => n (FoStart z)) e) i r
  | ex n fs ρ' t' =>
    rw [e] at p
    exact fun cls dd σ' H' s' A' x => p cls dd H' (fun b o n e => s'.keep b o (fun z => n (FoStart z)) e) (C.less A'.st fun _ => .inl) (x.anti fun _ => .inl)
  | bk ρ' t' => rw [e] at p; exact p.elim
  | ct ρ' t' => rw [e] at p; exact p.elim
  | bad => rw [e] at p; exact p.elim
section
variable {X : Cx} {W : WX} {τ : Type} [Sto τ]
theorem me_callG {k np j : Nat} {x : Str} {df : List D} {m : List D → Unit → Res Unit D} {e : Expr} {es : List Expr} {p pos : Pos} {a : ME τ (List D)} (Df : DefG X.prog X.w X.K X.mg X.base k x np df m) (hr : Room k X.A) (hgd : X.A.guards = some []) (tk : Takes X W) (hg : Gl X x) (hn : ALen a j)
    (ha : PA X (e :: es) (tA X.K W a)) (hdb : (x == ("__debug__" : Str)) = false := by decide) (hj : j + df.length = np := by rfl) (he : starEach (e :: es) X.env = (false, eval e X.env) :: starEach es X.env := by rfl) (hpl : (backTo pos (starEach es X.env)).any (·.1) = false := by rfl) :
    PE X (.Call (.Name x p) (e :: es) [] pos) (tE X.K W (eCall m df a)) := by
  obtain ⟨fd, ps, ds, dvs, F, hm, hk, hb, hd, hdf⟩ := Df.ex
  exact PE.imp (pe_callG F hr hgd hg hm hk hb hd (fun σ => passAt tk σ) ha hdb he hpl) fun _ _ _ p => call_red hdf hn hj p
end
section
variable {P : Program} {w : World} {K : Fg} {mg : Str → Option Value} {base : Heap}
theorem law_fnG {fd : FuncData} {N : List Str} {params : Arguments} {s0 : Stmt} {r : List Stmt} {scope : Scope} {dvs : List V} {kws : List (Str × V)} {k : Nat} {m : List D → Option (D × List Int)} {rest : MS Dk}
    (F : FunD K "law" "law" params (s0 :: r) scope dvs kws (He.ga K "law") fd) (S : FnScope N ["_law_script"] scope) (hn : 2 ≤ N.length)
    (h0 : ∀ (cdv : Value) (A : Around) (outer : List Env) (s : Shared) (H : Hp) (E : XK), Room k (A.deeper (envOfC "law" scope s.heap.objs.size (He.ga K "law") cdv)) →
      PS (cxOf (L2.CX P w) P w K mg base N "law" scope (He.ga K "law") cdv A outer s H E) s0 (tAsg (tCallSD (spDk 1 K m) [] (WE fun cls d _ H => E cls d H) (tCons (tVar 0) tNil)) (gName 1)))
    (hr : ∀ (cdv : Value) (A : Around) (outer : List Env) (s : Shared) (H : Hp) (E : XK), Room k (A.deeper (envOfC "law" scope s.heap.objs.size (He.ga K "law") cdv)) → (A.deeper (envOfC "law" scope s.heap.objs.size (He.ga K "law") cdv)).guards = some [] →
      PSs (cxOf (L2.CX P w) P w K mg base N "law" scope (He.ga K "law") cdv A outer s H E) r (tS K (fun cls d _ H => E cls d H) rest)) :
    FnG P w K mg base (L2.CX P w) (k + 1) (He.ga K "law") fd ["_law_script"] (spLaw K N.length m rest) := by
  refine fnG_of F S (fun vs H Q E ⟨a, ns, e, _⟩ => by rw [e]; rfl) fun cdv A outer s H vs Q E hrm hgd ⟨a, ns, e, hs, good, hq⟩ => ⟨_, pss_cons (h0 cdv A outer s H E hrm) (hr cdv A outer s H E hrm hgd), ?_⟩
  subst e
  obtain ⟨d, big, em, good⟩ := good
  have dm : Dom (fun _ => False) H := fun b h => h.elim
  have iv0 : (SC.pure (fun _ => False) H dm).Iv () (fun _ => False) H := ⟨Stp.refl _ _, fun _ _ _ e => e⟩
  have rs : Rep K (fun _ => False) H (.ref a) (.scr ns) := .scr (by
    rcases hs with hs | hs
    · exact .inl ⟨fun z => z, hs⟩
    · exact .inr hs)
  have A0 : At K (SC.pure (fun _ => False) H dm) (Slot.val (.scr ns) :: List.replicate (N.length - 1) .no) () (start N [.ref a]) H := At.start (ds := [.scr ns]) trivial iv0 (.cons rs .nil) (by simp; omega)
  refine ⟨.ref a, rfl, SC.pure (fun _ => False) H dm, [.scr ns], iv0, .cons rs .nil, rfl, ?_⟩
  rw [em]
  intro sv x y H' st r ne hx hy
  have A1 := A0.toDk (i := 1) (fun _ z => z) (fun j xs => start_none) ⟨fun b o n e => st.keep b o (fun z => z) e, fun b h => (st.new b h).elim False.elim .inr⟩ r ne hx hy
  obtain ⟨t, et⟩ := good x y
  refine ⟨_, _, _, A1, ?_⟩
  rw [et]
  intro v H2 _ _ r2
  cases r2
  exact hq H2
theorem law_callG {mb : Str → Option Value} {CX : CXT} {k : Nat} {fa a : Addr} {fd : FuncData} {x : Str} {sp : Sp} {s1 : Shared} {us : List Value} {ns : List Int}
    (KX : K.In s1.heap) (nsm : s1.heap.Ns mainGlobals mg) (nsb : s1.heap.Ns builtinsNs mb) (nb : ∀ x : Str, x ≠ "__name__" → mb x = bootBuiltins x) (lim : s1.heap.NoLimit) (gs : s1.gens = #[])
    (oa : s1.heap.get? a = some { cls := .type "list", data := .seq us.toArray }) (hi : IntsAre us ns) (hl : ns.length ≤ sizeLine) (hr : Room k callerA)
    (F : ∀ base : Heap, FnG P w K mg base CX k fa fd [x] sp) (hbind : ∀ (s : Shared) (u : Value), BindsTo s fd ⟨[u], []⟩ [(x, u)])
    (hsp : ∀ H : Hp, Only H → SqL K H a (ns.map V.int) → sp [.ref a] H (fun v _ => v = .bl true) fun _ _ _ => False)
    (hCX : ∀ H e s', CX [] H s1 (fun _ _ _ => False) e s' → False) :
    codeAny (model P w) callerA (.call (.ref fa) ⟨[.ref a], []⟩) (fun r s' => r = .ok (.ret (.bool true)) ∧ OldK s1.heap s'.heap ∧ s'.os = s1.os ∧ AllBare s'.gens) s1 := by
  have rv := vals_ints hi
  have lu := hi.length
  have go : ∀ H : Hp, (∀ b, H b = none ∨ (b = a ∧ ∃ o xs, H b = some (.frz o (.lst xs)))) → SqL K H a (ns.map V.int) → HOk P w H s1.heap → (H a ≠ none → K.lookup a = none) →
      codeAny (model P w) callerA (.call (.ref fa) ⟨[.ref a], []⟩) (fun r s' => r = .ok (.ret (.bool true)) ∧ OldK s1.heap s'.heap ∧ s'.os = s1.os ∧ AllBare s'.gens) s1 := fun H hH hS hok hK => by
    have only : Only H := fun b => (hH b).imp id fun z => z.2
    have isA : ∀ {b : Addr} {u : HO}, H b = some u → b = a := fun {b u} e => by
      rcases hH b with z | z
      · rw [e] at z; cases z
      · exact z.1
    have noD : ∀ {b : Addr} {o : Obj} {es : Array DictEntry} {ep : Nat}, s1.heap.get? b = some o → o.data = .dict es ep → H b = none := fun {b o es ep} e d => by
      cases q : H b with
      | none => rfl
      | some u =>
        rw [isA q, oa] at e
        cases e
        exact nomatch d
    have ns' : ∀ {b : Addr} {m : Str → Option Value}, s1.heap.Ns b m → (hidT s1.heap H).Ns b m := fun {b m} ⟨o, es, ep, e, d, r⟩ => ⟨o, es, ep, hidT_get e (noD e d), d, r⟩
    have kin : K.In (hidT s1.heap H) := fun b o e => hidT_get (KX b o e) (by
      cases q : H b with
      | none => rfl
      | some u =>
        have eb := isA q
        subst eb
        rw [hK (by rw [q]; simp)] at e
        cases e)
    have md : Mod K mg (hidT s1.heap H) := ⟨kin, ns' nsm, ⟨mb, ns' nsb, nb⟩, let ⟨mc, h1, h2⟩ := lim; ⟨mc, ns' h1, h2⟩⟩
    have env : Env0 P w K mg (hidT s1.heap H) callerA [] s1 H := ⟨rfl, md, fun b o e => of_hidT e, Nat.le_of_eq (hidT_size _ _), trivial, fun b hb => absurd (show b ∈ ([] : List Addr) from hb) List.not_mem_nil, hok, .of_eq gs⟩
    refine codeAny_mono ((F _).run callerA [] s1 H ⟨[.ref a], []⟩ [.ref a] [.ref a] _ _ hr rfl env (hbind s1 (.ref a)) (.cons rfl .nil) (hsp H only hS)) fun r s' h => ?_
    match r, h with
    | .error e, h => exact (hCX H e s' h).elim
    | .ok (.ret u), h =>
      obtain ⟨v, H', os, bare, un, hok', r', q⟩ := h
      have qv : v = .bl true := q
      subst qv
      have eu : u = Value.bool true := r'
      subst eu
      refine ⟨rfl, OldK.of_keep fun b o e => ?_, os, bare⟩
      rcases hH b with z | ⟨_, ob, xs, z⟩
      · exact un.keep b o e z (fun y => nomatch y) (fun y => nomatch y)
      · obtain ⟨e1, _⟩ := hok b _ z
        obtain ⟨e2, _⟩ := hok' b _ (un.frzs b ob _ z)
        rw [e] at e1
        cases e1
        exact e2
  cases hk : K.lookup a with
  | some o =>
    have e := KX a o hk
    rw [oa] at e
    cases e
    exact go (fun _ => none) (fun _ => .inl rfl) (.inr ⟨_, us.toArray, _, hk, rfl, rfl, rfl, by rw [List.size_toArray, lu]; exact hl, by simpa using rv⟩) (fun b u z => nomatch (show (none : Option HO) = some u from z)) fun z => absurd rfl z
  | none =>
    obtain ⟨H, hH⟩ : ∃ H : Hp, H = fun b => if b = a then some (.frz { cls := .type "list", data := .seq us.toArray } (.lst (ns.map V.int))) else none := ⟨_, rfl⟩
    have ha : H a = some (.frz { cls := .type "list", data := .seq us.toArray } (.lst (ns.map V.int))) := by rw [hH]; exact if_pos rfl
    have hn : ∀ b, b ≠ a → H b = none := fun b h => by rw [hH]; exact if_neg h
    refine go H (fun b => ?_) (.inl (.inr ⟨_, ha⟩)) (fun b u z => ?_) fun _ => hk
    · by_cases h : b = a
      · exact .inr ⟨h, _, _, by rw [h]; exact ha⟩
      · exact .inl (hn b h)
    · by_cases h : b = a
      · subst h
        rw [ha] at z
        cases z
        exact ⟨oa, by rw [List.length_map]; exact hl, us, _, rv, oa⟩
      · rw [hn b h] at z
        cases z
end
theorem walk_mmG {l : PySem.W.OpenLaw} {n k nn : Nat} {q : Program} {loose : List Str} {XP : (Str → Option Value) → Heap → Prop} {chk : Chk} {fn : List He.DefD} {d : DefRec} {N : Nat} {m : List D → Option (D × List Int)} {rest : MS Dk}
    (hn : l.most = some n) (hn2 : n ≤ sizeLine) (hdf : d.params.defaults = []) (hname : d.name = "law") (hr : Room k callerA)
    (F : ∀ (w : World) (mg : Str → Option Value) (K : Fg) (h : Heap), K.In h → h.Ns mainGlobals mg → SaysM chk fn K → mg "law" = some (.ref (He.ga K "law")) ∧
      ∃ fd : FuncData, (∀ (s : Shared) (u : Value), BindsTo s fd ⟨[u], []⟩ [("_law_script", u)]) ∧ ∀ base : Heap, FnG l.prog w K mg base (L2.CX l.prog w) k (He.ga K "law") fd ["_law_script"] (spLaw K N m rest))
    (good : ∀ ns : List Int, ns.length ≤ n → (∀ z ∈ ns, Builtin.Int.intBits z ≤ 1048576) → lawIs N m rest ns) :
    PySem.W.WalkO q loose XP (hookM nn chk fn).says l.row.toRowW d [] (fun f vs => PySem.call f vs) := by
  refine Att.attach_callB hn hdf fun w s₀ s₁ mg mb fa o pm cd doc a vs ns G Y ho hd hcd hmg hobj hints hlen hbits hg => ?_
  obtain ⟨K, KX, sm⟩ := Y
  obtain ⟨e1, fd, hb, hF⟩ := F w mg K _ KX G.T.g sm
  rw [hname, e1] at hmg
  injection hmg with hmg
  injection hmg with hmg
  subst hmg
  refine law_callG KX G.T.g G.T.b G.T.builtins G.T.nolimit hg hobj hints (Nat.le_trans hlen hn2) hr hF hb (fun H _ hS => ⟨a, ns, rfl, hS, good ns hlen hbits, fun _ => rfl⟩) fun H e s' => ?_
  rintro ⟨a, B, H', cls, dd, _, _, _, _, _, _, _, z⟩
  exact z
section
variable {τ : Type} {Q : D → Prop} {d : D}
end
end MM

namespace MM
open PySem PySem.Spec PyProof.Rows L2
section
variable {X : Cx} {W : WX} {τ : Type} [Sto τ] {K : Fg}
theorem op_ne_ss : OpR X (compareOp .NotEq) (fun x y H Q => ∃ i j, x = .str i ∧ y = .str j ∧ Q (.bl (i.cps.toList != j.cps.toList)) H) := by
  intro pins s σ H x y v u Q I rx ry h
  obtain ⟨i, j, rfl, rfl, q⟩ := h
  obtain ⟨t, rfl⟩ := rx
  obtain ⟨t', rfl⟩ := ry
  exact PySem.P.ne_str ⟨.bl _, H, I, rfl, q⟩
theorem op_eq_ss : OpR X (compareOp .Eq) (fun x y H Q => ∃ i j, x = .str i ∧ y = .str j ∧ Q (.bl (i.cps.toList == j.cps.toList)) H) := by
  intro pins s σ H x y v u Q I rx ry h
  obtain ⟨i, j, rfl, rfl, q⟩ := h
  obtain ⟨t, rfl⟩ := rx
  obtain ⟨t', rfl⟩ := ry
  exact PySem.P.eq_str ⟨.bl _, H, I, rfl, q⟩
def dNeSS (d e : D) : Option D := match d, e with
  | .str x, .str y => some (.bl (x.cps.toList != y.cps.toList))
  | _, _ => none
def dEqSS (d e : D) : Option D := match d, e with
  | .str x, .str y => some (.bl (x.cps.toList == y.cps.toList))
  | _, _ => none
theorem o_neSS : DOp2 K (fun x y H Q => ∃ i j, x = .str i ∧ y = .str j ∧ Q (.bl (i.cps.toList != j.cps.toList)) H) dNeSS := fun F0 F H x y d e z Q dm rx ry q k => by
  cases d <;> try cases q
  cases e <;> try cases q
  exact ⟨_, _, rx.strOf, ry.strOf, k _ H (Same.refl H) (.bl _)⟩
theorem o_eqSS : DOp2 K (fun x y H Q => ∃ i j, x = .str i ∧ y = .str j ∧ Q (.bl (i.cps.toList == j.cps.toList)) H) dEqSS := fun F0 F H x y d e z Q dm rx ry q k => by
  cases d <;> try cases q
  cases e <;> try cases q
  exact ⟨_, _, rx.strOf, ry.strOf, k _ H (Same.refl H) (.bl _)⟩
@[simp] theorem dNeSS_self {x : Str} : dNeSS (.str x) (.str x) = some (.bl false) := by simp [dNeSS]
@[simp] theorem dEqSS_self {x : Str} : dEqSS (.str x) (.str x) = some (.bl true) := by simp [dEqSS]
end
end MM

namespace MM
open PySem PySem.Spec PyProof.Rows L2
section
variable {X : Cx}
end
section
variable {X : Cx} {W : WX} {τ : Type} [Sto τ]
end
section
variable {τ : Type} {P : Pt τ} {ρ : Rho} {t : τ}
end
end MM

namespace MM
open PySem PySem.Spec PyProof.Rows L2
section
variable {X : Cx} {W : WX} {τ : Type} [Sto τ] {K : Fg}
end

section
variable {X : Cx} {K : Fg}
def KnT (H : Hp) (p : Addr) (xs : List V) : Prop := ∃ o, H p = some (.frz o (.tup xs)) ∧ o.dict = none
theorem KnT.sq {H : Hp} {p : Addr} {xs : List V} (h : KnT H p xs) : SqT K H p xs := let ⟨o, e, _⟩ := h; .inl (.inr ⟨o, e⟩)
theorem KnT.rd {H : Hp} {p : Addr} {xs : List V} (h : KnT H p xs) : Rd H p (.tup xs) := let ⟨o, e, _⟩ := h; .inr ⟨o, e⟩
end
end MM

namespace MM
open PySem PySem.Spec PyProof.Rows L2
theorem KnT.same {H H' : Hp} {p : Addr} {xs : List V} (h : KnT H p xs) (s : Same H H') : KnT H' p xs := let ⟨o, e, d⟩ := h; ⟨o, s _ _ e, d⟩
section
variable {X : Cx} {W : WX} {τ : Type} [Sto τ]
end
section
variable {τ : Type} {P : Pt τ} {ρ : Rho} {t : τ}
end
end MM

namespace MM
open PySem PySem.Spec PyProof.Rows L2
section
variable {X : Cx} {W : WX} {τ : Type} [Sto τ] {K : Fg}
end
end MM

namespace MM
open PySem PySem.Spec PyProof.Rows L2
open L2H (RoomH PinOk cxH inv_startH roomH_of)
section
variable {X : Cx} {body : List Stmt} {h₀ : ExceptHandler} {hds : List ExceptHandler} {l : List (Value × Nat × (Addr → Value → Option Addr → TS))} {pos : Pos} {tb : WX → TS} {Wout : WX}
end
section
variable {X : Cx} {W : WX} {τ : Type} [Sto τ]
end
section
variable {τ : Type} {P : Pt τ} {ρ : Rho} {t : τ}
end
structure HX (X : Cx) (n0 : Str) (i : Nat) (e : Expr) (hf : FX) (te : Addr → Value → Option Addr → TE) : Prop where
  pe : ∀ (a : Addr) (oe : Obj) (cls : Value) (d : Option Addr) (pn : List (Addr × Obj)), Zc cls d oe → (∃ vs, oe.data = .fields vs) → PE (X.suite a ((a, oe) :: pn)) e (te a cls d)
  ok : TeOk X.K n0 i hf te
section
variable {X : Cx} {n0 : Str} {i : Nat}
theorem SuS.hx {e : Expr} {hf : FX} {te : Addr → Value → Option Addr → TE} {b : Stmt} {j : Nat} (h : HX X n0 i e hf te) (hp : ∀ (a : Addr) (oe : Obj) (pn : List (Addr × Obj)) (t : TE), PE (X.suite a ((a, oe) :: pn)) e t → PS (X.suite a ((a, oe) :: pn)) b (tAsg t (gName j))) : SuS X n0 i b j hf :=
  ⟨te, fun a oe cls d pn hz hv => hp a oe pn _ (h.pe a oe cls d pn hz hv), h.ok⟩
end
structure DefT (τ : Type) [Sto τ] (P : Program) (w : World) (K : Fg) (mg : Str → Option Value) (base : Heap) (p : Addr × Obj) (k : Nat) (x : Str) (np : Nat) (m : List D → τ → Res τ D) : Prop where
  ex : ∃ (fd : FuncData) (ps : List Str), FnB P w K mg base (L2.CX P w) p k (He.ga K x) fd ps (spF np K m) ∧ mg x = some (.ref (He.ga K x)) ∧ PySem.W.keepIn K (.ref (He.ga K x)) = true ∧ Binds K fd ps []
theorem DefT.mk' {τ : Type} [Sto τ] {P : Program} {w : World} {K : Fg} {mg : Str → Option Value} {base : Heap} {p : Addr × Obj} {x : Str} {params : Arguments} {body : List Stmt} {scope : Scope} {fd : FuncData} {N ps : List Str} {k : Nat}
    (F : FunD K x x params body scope [] [] (He.ga K x) fd) (g : mg x = some (.ref (He.ga K x))) (S : FnScope N ps scope) (hb : Binds K fd ps []) (mb : MS τ)
    (hbd : ∀ (cdv : Value) (A : Around) (outer : List Env) (s : Shared) (H : Hp) (E : XK), RoomH k (A.deeper (envOfC x scope s.heap.objs.size (He.ga K x) cdv)) →
      PSs (cxH (L2.CX P w) P w K mg base N x scope (He.ga K x) cdv A outer s H E p) body (tS K (fun cls d _ H => E cls d H) mb)) : DefT τ P w K mg base p (k + 1) x ps.length (runB N.length mb) := by
  have hpl : ps.length ≤ N.length := by have := congrArg List.length S.pre; rw [List.length_take] at this; omega
  refine ⟨fd, ps, fnB_of F S (fun vs H Q E ⟨C, ds, t, _, _, r, hl, _⟩ => r.length.trans hl) fun cdv A outer s H vs Q E hr ⟨C, ds, t, okC, iv, r, hl, p⟩ => ⟨_, hbd cdv A outer s H E hr, C, _, t, At.start okC iv r (by rw [hl]; exact hpl), ?_⟩, g, F.kp, hb⟩
  unfold runB at p
  cases e : mb (ds.map Slot.val ++ List.replicate (N.length - ds.length) .no) t with
  | nx ρ' t' =>
    rw [e] at p
    exact fun σ' H' s' A' => p .non H' (fun b o n e => s'.keep b o (fun z => n (FoStart z)) e) (C.less A'.st fun _ => .inl) .non
  | rt d t' =>
    rw [e] at p
    exact fun v H' s' i r => p v H' (fun b o n e => s' b o (fun z => n (FoStart z)) e) i r
  | ex n fs ρ' t' =>
    rw [e] at p
    exact fun cls dd σ' H' s' A' x => p cls dd H' (fun b o n e => s'.keep b o (fun z => n (FoStart z)) e) (C.less A'.st fun _ => .inl) (x.anti fun _ => .inl)
  | bk ρ' t' => rw [e] at p; exact p.elim
  | ct ρ' t' => rw [e] at p; exact p.elim
  | bad => rw [e] at p; exact p.elim
section
variable {X : Cx} {W : WX} {τ : Type} [Sto τ] {a dd : Addr} {oe : Obj}
theorem DefT.mono {P : Program} {w : World} {K : Fg} {mg : Str → Option Value} {base : Heap} {p : Addr × Obj} {j k : Nat} {x : Str} {np : Nat} {m : List D → τ → Res τ D} (F : DefT τ P w K mg base p j x np m) (h : j ≤ k) : DefT τ P w K mg base p k x np m := by
  obtain ⟨fd, ps, ⟨F1, F2⟩, r⟩ := F.ex
  exact ⟨fd, ps, ⟨F1, fun A outer s H args us vs Q E hr hp e0 b r' hs => F2 A outer s H args us vs Q E (hr.mono h) hp e0 b r' hs⟩, r⟩
end
section
variable {X : Cx} {n0 : Str} {i : Nat}
end
section
variable {X : Cx} {W : WX} {K : Fg} {a D0 : Addr} {oe : Obj}
end
section
variable {a : Addr} {i : Nat} {b : Bool} {ρ : Rho} {t : Unit} {Q : D → Unit → Prop} {X : Str → Fds → Unit → Prop}
end
end MM

namespace MM
open PySem PySem.Spec PyProof.Rows L2
section
variable {X : Cx} {W : WX} {τ : Type} [Sto τ] {K : Fg}
end
section
variable {τ : Type} {Q : D → τ → Prop} {X : Str → Fds → τ → Prop} {ρ : Rho} {t : τ}
end
abbrev FW := Rho → FX
def SuW (X : Cx) (n0 : Str) (i : Nat) (τ : Type) [Sto τ] (b : Stmt) (j : Nat) (hw : FW) : Prop := ∃ te : Addr → Value → Option Addr → TE,
  (∀ (a : Addr) (oe : Obj) (cls : Value) (d : Option Addr) (pn : List (Addr × Obj)), Zc cls d oe → (∃ vs, oe.data = .fields vs) → PS (X.suite a ((a, oe) :: pn)) b (tAsg (te a cls d) (gName j))) ∧
  ∀ {C : SC τ} {ρ : Rho} {t : τ} {σ : L2.St} {H : Hp} {a : Addr} {cls : Value} {dd : Option Addr} {fs : Fds} {d : D} {Q : VK}, SuI X.K n0 i C ρ t σ H a cls dd fs → hw ρ fs = some d → (∀ v H', Same H H' → Rep X.K (Fo C.F ρ σ) H' v d → Q v H') → te a cls dd σ H Q
inductive SuWs (X : Cx) (n0 : Str) (i : Nat) (τ : Type) [Sto τ] : List Stmt → List (Nat × FW) → Prop
  | nil : SuWs X n0 i τ [] []
  | cons {b : Stmt} {bs : List Stmt} {j : Nat} {hw : FW} {l : List (Nat × FW)} : j ≠ i → SuW X n0 i τ b j hw → SuWs X n0 i τ bs l → SuWs X n0 i τ (b :: bs) ((j, hw) :: l)
def appW (fs : Fds) : List (Nat × FW) → Rho → Option Rho
  | [], ρ => some ρ
  | (j, hw) :: l, ρ => match hw ρ fs with
    | some d => appW fs l (ρ.set j (.val d))
    | none => none
section
variable {X : Cx} {W : WX} {τ : Type} [Sto τ] {n0 : Str} {i : Nat}
theorem SuW.hx {e : Expr} {hf : FX} {te : Addr → Value → Option Addr → TE} {b : Stmt} {j : Nat} (h : HX X n0 i e hf te) (hp : ∀ (a : Addr) (oe : Obj) (pn : List (Addr × Obj)) (t : TE), PE (X.suite a ((a, oe) :: pn)) e t → PS (X.suite a ((a, oe) :: pn)) b (tAsg t (gName j))) : SuW X n0 i τ b j (fun _ => hf) :=
  ⟨te, fun a oe cls d pn hz hv => hp a oe pn _ (h.pe a oe cls d pn hz hv), fun S e q => h.ok S.s S.x e S.at_.dom q⟩
def tW2 (K : Fg) (n0 : Str) (i : Nat) (τ : Type) [Sto τ] (l : List (Nat × FW)) (a : Addr) (cls : Value) (d : Option Addr) : TS := fun E σ H => ∃ (C : SC τ) (ρ : Rho) (t : τ) (fs : Fds), SuI K n0 i C ρ t σ H a cls d fs ∧
  ∃ ρ', appW fs l ρ = some ρ' ∧ ∀ σ' H', Stp (Fo C.F ρ σ) H (Fo C.F ρ' σ') H' → SuI K n0 i C ρ' t σ' H' a cls d fs → E.nx σ' H'
theorem SuWs.run {bs : List Stmt} {l : List (Nat × FW)} (h : SuWs X n0 i τ bs l) {a : Addr} {oe : Obj} {cls : Value} {d : Option Addr} {pn : List (Addr × Obj)} (hz : Zc cls d oe) (hv : ∃ vs, oe.data = .fields vs) : PSs (X.suite a ((a, oe) :: pn)) bs (tW2 X.K n0 i τ l a cls d) := by
  induction h with
  | nil => exact PSs.imp pss_nil fun E σ H ⟨C, ρ, t, fs, S, ρ', e, q⟩ => by cases e; exact q σ H (Stp.less fun _ z => z) S
  | @cons b bs j hw l ij hb _ ih =>
    obtain ⟨te, hp, ht⟩ := hb
    refine PSs.imp (pss_cons (hp a oe cls d pn hz hv) ih) fun E σ H ⟨C, ρ, t, fs, S, ρ', e, q⟩ => ?_
    unfold appW at e
    cases eh : hw ρ fs with
    | none => rw [eh] at e; cases e
    | some dv =>
      rw [eh] at e
      refine ht S eh fun v H1 sm r => ?_
      have smC : Sm C.F H H1 := fun b o _ e => sm b o e
      have A2 := S.at_.next smC (C.stay S.at_.st sm)
      have A3 := A2.setVal (i := j) (v := v) (d := dv) r
      have S3 : SuI X.K n0 i C (ρ.set j (.val dv)) t (σ.set j (some v)) H1 a cls d fs := ⟨A3, by rw [List.getElem?_set_ne ij]; exact S.no, by rw [List.getElem?_set_ne ij]; exact S.s, S.x.step sm fun b h => Fo.setVal h⟩
      refine ⟨C, _, t, fs, S3, ρ', e, fun σ' H' s' S' => q σ' H' (Stp.trans ⟨fun b o n e => sm b o e, fun b h => .inl (Fo.setVal h)⟩ s') S'⟩
end
section
variable {τ : Type} {P : Pt τ} {ρ : Rho} {t : τ}
end
end MM

namespace MM
open PySem PySem.Spec PyProof.Rows L2
section
variable {X : Cx} {W : WX} {τ : Type} [Sto τ] {K : Fg}
end
section
variable {τ : Type} {ρ : Rho} {t : τ}
end
end MM

namespace MM
open PySem PySem.Spec PyProof.Rows L2
section
variable {X : Cx} {W : WX} {τ : Type} [Sto τ] {K : Fg}
end
section
variable {τ : Type} {ρ : Rho} {t : τ}
end
end MM

namespace MM
open PySem PySem.Spec PyProof.Rows L2
section
variable {X : Cx} {W : WX} {τ : Type} [Sto τ] {K : Fg}
end
end MM

namespace MM
open PySem PySem.Spec PyProof.Rows L2
section
variable {X : Cx} {pins : List (Addr × Obj)} {σ : L2.St} {H : Hp} {s : Shared} {xe : Value → Shared → Prop}
end
section
variable {X : Cx} {x n : Str} {c : Value} {i : Nat} {body suite : List Stmt} {b₀ : Stmt} {np pos pos' : Pos} {tb : WX → TS} {ts : Addr → Value → Option Addr → TS} {Wout : WX}
end
section
variable {X : Cx} {W : WX} {τ : Type} [Sto τ] {K : Fg}
end
section
variable {τ : Type} {P : Pt τ} {ρ : Rho} {t : τ}
end
def TkC (X : Cx) (W : WX) : Prop := ∀ σ, PassesAt (L2N.CX X.prog X.w) X σ (WE W σ)
theorem tk_cxN {P : Program} {w : World} {K : Fg} {mg : Str → Option Value} {base : Heap} {N : List Str} {qual : Str} {scope : Scope} {f : Addr} {cd : Value} {A : Around} {outer : List Env} {s : Shared} {H : Hp} {E : XK} :
    L2N.Takes (cxOf (L2N.CX P w) P w K mg base N qual scope f cd A outer s H E) (fun cls d _ H => E cls d H) := L2N.takes_of rfl rfl rfl rfl
theorem po_cxN {P : Program} {w : World} {K : Fg} {mg : Str → Option Value} {base : Heap} {N : List Str} {qual : Str} {scope : Scope} {f : Addr} {cd : Value} {A : Around} {outer : List Env} {s : Shared} {H : Hp} {E : XK} :
    PassesOwn (model (cxOf (L2N.CX P w) P w K mg base N qual scope f cd A outer s H E).prog (cxOf (L2N.CX P w) P w K mg base N qual scope f cd A outer s H E).w) (cxOf (L2N.CX P w) P w K mg base N qual scope f cd A outer s H E).A (cxOf (L2N.CX P w) P w K mg base N qual scope f cd A outer s H E).env (cxOf (L2N.CX P w) P w K mg base N qual scope f cd A outer s H E).xe := PassesOwn.leaving
theorem fn_mkN {τ : Type} [Sto τ] {P : Program} {w : World} {K : Fg} {mg : Str → Option Value} {base : Heap} {x qual : Str} {params : Arguments} {body : List Stmt} {scope : Scope} {dvs : List V} {kws : List (Str × V)} {f : Addr} {fd : FuncData} {N ps : List Str} {k : Nat}
    (F : FunD K x qual params body scope dvs kws f fd) (S : FnScope N ps scope) (mb : MS τ)
    (hb : ∀ (cdv : Value) (A : Around) (outer : List Env) (s : Shared) (H : Hp) (E : XK), Room k (A.deeper (envOfC qual scope s.heap.objs.size f cdv)) →
      PSs (cxOf (L2N.CX P w) P w K mg base N qual scope f cdv A outer s H E) body (tS K (fun cls d _ H => E cls d H) mb)) : FnOk P w K mg base (L2N.CX P w) (k + 1) f fd ps (spF ps.length K (runB N.length mb)) := by
  have hpl : ps.length ≤ N.length := by have := congrArg List.length S.pre; rw [List.length_take] at this; omega
  refine F.ok S (fun vs H Q E ⟨C, ds, t, _, _, r, hl, _⟩ => r.length.trans hl) fun cdv A outer s H vs Q E hr ⟨C, ds, t, okC, iv, r, hl, p⟩ => ⟨_, hb cdv A outer s H E hr, C, _, t, At.start okC iv r (by rw [hl]; exact hpl), ?_⟩
  unfold runB at p
  cases e : mb (ds.map Slot.val ++ List.replicate (N.length - ds.length) .no) t with
  | nx ρ' t' =>
    rw [e] at p
    exact fun σ' H' s' A' => p .non H' (fun b o n e => s'.keep b o (fun z => n (FoStart z)) e) (C.less A'.st fun _ => .inl) .non
  | rt d t' =>
    rw [e] at p
    exact fun v H' s' i r => p v H' (fun b o n e => s' b o (fun z => n (FoStart z)) e) i r
  | ex n fs ρ' t' =>
    rw [e] at p
    exact fun cls dd σ' H' s' A' x => p cls dd H' (fun b o n e => s'.keep b o (fun z => n (FoStart z)) e) (C.less A'.st fun _ => .inl) (x.anti fun _ => .inl)
  | bk ρ' t' => rw [e] at p; exact p.elim
  | ct ρ' t' => rw [e] at p; exact p.elim
  | bad => rw [e] at p; exact p.elim
structure DefN {τ : Type} [Sto τ] (P : Program) (w : World) (K : Fg) (mg : Str → Option Value) (base : Heap) (k : Nat) (x : Str) (np : Nat) (df : List D) (m : List D → τ → Res τ D) : Prop where
  ex : ∃ (fd : FuncData) (ps : List Str) (ds : List Value) (dvs : List V), FnOk P w K mg base (L2N.CX P w) k (He.ga K x) fd ps (spF np K m) ∧ mg x = some (.ref (He.ga K x)) ∧ PySem.W.keepIn K (.ref (He.ga K x)) = true ∧ Binds K fd ps ds ∧ Vals dvs ds ∧ (∀ F H, Reps K F H dvs df)
theorem DefN.mk' {τ : Type} [Sto τ] {P : Program} {w : World} {K : Fg} {mg : Str → Option Value} {base : Heap} {x qual : Str} {params : Arguments} {body : List Stmt} {scope : Scope} {dvs : List V} {kws : List (Str × V)} {fd : FuncData} {N ps : List Str} {k : Nat} {df : List D}
    (F : FunD K x qual params body scope dvs kws (He.ga K x) fd) (hm : mg x = some (.ref (He.ga K x))) (S : FnScope N ps scope) (mb : MS τ) (hb : ∃ ds dv, Vals dv ds ∧ Binds K fd ps ds ∧ ∀ F H, Reps K F H dv df)
    (hbody : ∀ (cdv : Value) (A : Around) (outer : List Env) (s : Shared) (H : Hp) (E : XK), Room k (A.deeper (envOfC qual scope s.heap.objs.size (He.ga K x) cdv)) →
      PSs (cxOf (L2N.CX P w) P w K mg base N qual scope (He.ga K x) cdv A outer s H E) body (tS K (fun cls d _ H => E cls d H) mb)) : DefN P w K mg base (k + 1) x ps.length df (runB N.length mb) := by
  obtain ⟨ds, dv, h1, h2, h3⟩ := hb
  exact ⟨fd, ps, ds, dv, fn_mkN F S mb hbody, hm, F.kp, h2, h1, h3⟩
theorem DefN.mono {τ : Type} [Sto τ] {P : Program} {w : World} {K : Fg} {mg : Str → Option Value} {base : Heap} {j k : Nat} {x : Str} {np : Nat} {df : List D} {m : List D → τ → Res τ D} (F : DefN P w K mg base j x np df m) (h : j ≤ k) : DefN P w K mg base k x np df m := by
  obtain ⟨fd, ps, ds, dv, F, r⟩ := F.ex
  exact ⟨fd, ps, ds, dv, F.mono h, r⟩
theorem cxN_cx {P : Program} {w : World} {outer : List Env} {H : Hp} {s : Shared} {E : XK} {u : Value} {s' : Shared} (c : L2N.CX P w outer H s E u s') : L2.CX P w outer H s E u s' := by
  obtain ⟨a, B, H', cls, d, rfl, fl, r⟩ := c
  exact ⟨a, B, H', cls, d, rfl, L2H.flyingZ_imp (fun o z => z.zc) fl, r⟩
theorem DefN.toDef {τ : Type} [Sto τ] {P : Program} {w : World} {K : Fg} {mg : Str → Option Value} {base : Heap} {k : Nat} {x : Str} {np : Nat} {df : List D} {m : List D → τ → Res τ D} (F : DefN P w K mg base k x np df m) : Def P w K mg base k x np df m := by
  obtain ⟨fd, ps, ds, dv, F, r⟩ := F.ex
  refine ⟨fd, ps, ds, dv, ⟨F.len, fun A outer s H args us vs Q E h1 h2 h3 h4 h5 => codeAny_mono (F.run A outer s H args us vs Q E h1 h2 h3 h4 h5) fun r s' h => ?_⟩, r⟩
  cases r with
  | error e => exact cxN_cx h
  | ok f => cases f <;> exact h
section
variable {X : Cx} {W : WX} {τ : Type} [Sto τ]
theorem me_callN {k np j : Nat} {x : Str} {df : List D} {m : List D → Unit → Res Unit D} {e : Expr} {es : List Expr} {p pos : Pos} {a : ME τ (List D)} (Df : DefN X.prog X.w X.K X.mg X.base k x np df m) (hr : Room k X.A) (tk : TkC X W) (hg : Gl X x) (hn : ALen a j)
    (ha : PA X (e :: es) (tA X.K W a)) (hdb : (x == ("__debug__" : Str)) = false := by decide) (hj : j + df.length = np := by rfl) (he : starEach (e :: es) X.env = (false, eval e X.env) :: starEach es X.env := by rfl) (hpl : (backTo pos (starEach es X.env)).any (·.1) = false := by rfl) :
    PE X (.Call (.Name x p) (e :: es) [] pos) (tE X.K W (eCall m df a)) := by
  obtain ⟨fd, ps, ds, dvs, F, hm, hk, hb, hd, hdf⟩ := Df.ex
  exact PE.imp (pe_callSD F hr hg hm hk hb hd tk ha hdb he hpl) fun _ _ _ p => call_red hdf hn hj p
def noEx1 (m : List D → Unit → Res Unit D) : List D → Unit → Res Unit D := fun ds u => match m ds u with
  | .ex .. => .bad
  | r => r
theorem callQ_red {np j : Nat} {K : Fg} {m : List D → Unit → Res Unit D} {df : List D} {dvs : List V} {a : ME τ (List D)} {σ : L2.St} {H : Hp} {Q : VK} (hd : ∀ F H, Reps K F H dvs df) (hn : ALen a j) (hj : j + df.length = np) (p : tE K W (eCall (noEx1 m) df a) σ H Q) :
    tCallSD (spF np K m) dvs (fun _ _ _ _ => False) (tA K W a) σ H Q := by
  obtain ⟨C, ρ, t, A, p⟩ := p
  refine use okE A p fun ds t1 vs H1 e1 s1 A1 r1 p1 => ?_
  refine ⟨SC.pure (Fo C.F ρ σ) H1 A1.dom, ds ++ df, (), trivial, ⟨Stp.refl _ _, fun _ _ _ e => e⟩, Reps.append r1 (hd _ _), by rw [List.length_append, hn _ _ _ _ e1, hj], ?_⟩
  unfold noEx1 at p1
  cases e : m (ds ++ df) () with
  | ok d u =>
    rw [e] at p1
    exact fun v H' s i r => p1 v H' (Sm.of_same (SC.pure_same i)) (C.stay A1.st (SC.pure_same i)) r
  | ex n fs u =>
    rw [e] at p1
    exact p1.elim
  | bad =>
    rw [e] at p1
    exact p1.elim
theorem me_callQ {k np j : Nat} {x : Str} {df : List D} {m : List D → Unit → Res Unit D} {e : Expr} {es : List Expr} {p pos : Pos} {a : ME τ (List D)} (Df : Def X.prog X.w X.K X.mg X.base k x np df m) (hr : Room k X.A) (hg : Gl X x) (hn : ALen a j)
    (ha : PA X (e :: es) (tA X.K W a)) (hdb : (x == ("__debug__" : Str)) = false := by decide) (hj : j + df.length = np := by rfl) (he : starEach (e :: es) X.env = (false, eval e X.env) :: starEach es X.env := by rfl) (hpl : (backTo pos (starEach es X.env)).any (·.1) = false := by rfl) :
    PE X (.Call (.Name x p) (e :: es) [] pos) (tE X.K W (eCall (noEx1 m) df a)) := by
  obtain ⟨fd, ps, ds, dvs, F, hm, hk, hb, hd, hdf⟩ := Df.ex
  exact PE.imp (pe_callSD F hr hg hm hk hb hd (E := fun _ _ _ _ => False) (fun _ _ _ _ _ _ _ c => by obtain ⟨_, _, _, _, _, _, _, _, _, _, _, _, z⟩ := c; exact z.elim) ha hdb he hpl) fun _ _ _ p => callQ_red hdf hn hj p
theorem ms_raiseN {e : Expr} {n : Str} {pos : Pos} (hc : X.calm = true) (tk : L2N.Takes X W) (h : L2N.PMk X e (fun _ H Q => Q (.ref (He.ga X.K n)) none H)) : PS X (.Raise (some e) none pos) (tS X.K W (sRaise (τ := τ) n)) := PS.imp (L2N.ps_raise hc tk h) fun E σ H ⟨C, ρ, t, A, p⟩ =>
  p _ _ σ H (Stp.refl _ _) A ⟨rfl, rfl⟩
theorem pmk_ownN {C : Addr} {bmB : List Value} {B newId initId : String} {x m : Str} {j : Nat} {p p2 pos : Pos} (F : ExcBaseFacts B newId initId bmB) (q : PySem.W.excIn X.K C bmB newId = true) (gC : X.mg x = some (.ref C)) (kC : PySem.W.keepIn X.K (.ref C) = true) (r : Raises X (.ref C)) (hg : Gl X x)
    (hdb : (x == ("__debug__" : Str)) = false := by decide) : L2N.PMk X (.Call (.Name x p) [.Constant (.str m) j p2] [] pos) (fun _ H Q => Q (.ref C) none H) := by
  intro pins s σ H Q I h
  refine wpAny_Call_Name_kw (ld_glob I hg gC ?_ hdb)
  have ha : PA X [.Constant (.str m) j p2] (tCons (tC (.str m)) tNil) := pa_cons pe_str pa_nil
  refine PySem.W.callWith_K (h₀ := X.base) I.ok.mod.kin kC (thn (ha.run pos pins s σ H (fun vs H1 => vs = [V.str m] ∧ H = H1) I ⟨rfl, rfl⟩) fun us s1 hh => ?_)
  obtain ⟨vs, H1, I1, r1, ev, eH⟩ := hh
  subst ev
  rw [← eH] at I1
  refine ⟨I1.kIn, ?_⟩
  cases r1 with
  | cons ru rn =>
    rename_i u us'
    cases rn
    show wpAny _ _ (call (.ref C) [u]) _ _ _
    obtain ⟨bm, N, nm, qn, bs, hdct, sn, sub, ab, col, dd, k0, k1, k2, k3, k5, mN, hC, hN, hni, T⟩ := exc_obj I1.kIn q
    refine wpAny_call_exc_subT F T hC hN hni (fun h' e hm => ?_) (by show 1 ≤ sizeLine; rw [sizeLine_eq]; omega)
    exact L2N.mk_of I1 hm r h (I1.hok.gone hm.new)
end
section
variable {τ : Type} {ρ : Rho} {t : τ} {X : Str → Fds → τ → Prop}
@[simp] theorem oE_noEx1 {m : List D → Unit → Res Unit D} {ds : List D} {u : Unit} {Q : D → Unit → Prop} {X : Str → Fds → Unit → Prop} : oE (noEx1 m ds u) Q X = oE (m ds u) Q (fun _ _ _ => False) := by
  unfold noEx1
  cases m ds u <;> rfl
end
end MM

namespace MM
open PySem PySem.Spec PyProof.Rows L2
theorem noteFrame_eq {u : Value} {env env' : Env} (h : env'.frame = env.frame) : noteFrame u env' = noteFrame u env := by
  unfold noteFrame PySem.frameOf
  rw [h]
def compPostX (M : Model) (A : Around) (E : Value → Shared → Prop) (use : Option (Value → Sem Unit)) (Q : Value → Shared → Prop) (acc : Value) (cenv : Env) (r : Result) (s' : Shared) : Prop :=
  match r, use with
  | .ok _, none => ∃ m, s'.heap.Ns cenv.locals m ∧ ∀ h', Heap.SameBut cenv.locals s'.heap h' → Q acc { s' with heap := h' }
  | .ok _, some u => wpAny M A (u acc) (fun _ s'' => ∃ m, s''.heap.Ns cenv.locals m ∧ ∀ h', Heap.SameBut cenv.locals s''.heap h' → Q .none { s'' with heap := h' }) E s'
  | .error x, _ => ∃ m, s'.heap.Ns cenv.locals m ∧ ∀ h', Heap.SameBut cenv.locals s'.heap h' → wpAny M A (PySem.passOn "comprehension.variables-let-go" x cenv : Sem Value) (fun _ _ => False) E { s' with heap := h' }
theorem wpAny_comprehension_X {M : Model} {A : Around} {E : Value → Shared → Prop} {s : Shared} {env : Env} {e : Expr} {scope : Scope} {pos : Pos} {newAcc first : Sem Value} {g : Comprehension} {gs : List Comprehension} {cl : List (Str × Addr)} {use : Option (Value → Sem Unit)}
    {Q : Value → Shared → Prop}
    (hcl : clausesOf e = g :: gs) (hs : ∀ x, foldedSetIterable g.iter env x = pure x) (hclos : closureFor scope env = pure cl)
    (hkind : scope.kind = .function) (hnames : ∀ x ∈ scope.names, x.2 = .local → scope.names.lookup x.1 = some .local)
    (h : wpAny M A first (fun x s₁ => wpAny M A (pyIter x) (fun it s₂ => wpAny M A newAcc (fun acc s₃ =>
      wpAny M A (newFunctionEnv scope env.globals cl [] env.qual none .none (some env)) (fun cenv s₄ =>
        codeAny M A (.compStart e 0 it acc { cenv with scope := relabel scope env }) (compPostX M A E use Q acc { cenv with scope := relabel scope env }) s₄) E s₃) E s₂) E s₁) E s) :
    wpAny M A (comprehension e scope env pos newAcc false first use) Q E s := by
  unfold comprehension
  rw [hclos, hcl]
  refine wpAny_bind (wpAny_mono h (fun x s₁ h₁ => wpAny_bind (wpAny_standAt (wpAny_bind (wpAny_of_eq (hs x) (wpAny_bind (wpAny_holding (wpAny_mono h₁ (fun it s₂ h₂ =>
    wpAny_standIf (wpAny_bind (wpAny_mono h₂ (fun acc s₃ h₃ => wpAny_bind (wpAny_pure (wpAny_bind (wpAny_mono h₃ (fun cenv s₄ h₄ => ?_) fun _ _ h' => h')))) fun _ _ h' => h')))
      fun _ _ h' => h'))))))) fun _ _ h' => h')
  dsimp only
  have hv : ∀ x ∈ (scope.names.filter fun x => (x.2 == .local || x.2 == .cell) && x.1 != (".0" : Str)).reverse, x.2 = .local →
      Env.kindOf { cenv with scope := relabel scope env } x.1 = some .local := fun x hx hl => lookup_relabel_local (hnames x (List.mem_filter.mp (List.mem_reverse.mp hx)).1 hl)
  have hv' : ∀ x ∈ (scope.names.filter fun x => (x.2 == .local || x.2 == .cell) && x.1 != (".0" : Str)).reverse.drop 1 ++ (scope.names.filter fun x => (x.2 == .local || x.2 == .cell) && x.1 != (".0" : Str)).reverse.take 1,
      x.2 = .local → Env.kindOf { cenv with scope := relabel scope env } x.1 = some .local := fun x hx hl => by
    rcases List.mem_append.mp hx with h1 | h1
    · exact hv x (List.mem_of_mem_drop h1) hl
    · exact hv x (List.mem_of_mem_take h1) hl
  refine wpAny_holding (wpAny_bind (wpAny_attempt (wpAny_holding (wpAny_run (codeAny_mono h₄ fun r s' hr => ?_)))))
  cases r with
  | ok f =>
    cases use with
    | none =>
      obtain ⟨m, hn, hr⟩ := hr
      exact wpAny_bind (wpAny_holding (wpAny_comp_letGo (cenv := { cenv with scope := relabel scope env }) hkind _ s' m hv hn fun h' m' _ hs' => wpAny_pure (hr h' hs')))
    | some u =>
      refine wpAny_bind (wpAny_rule (wpAny_bind (wpAny_holding (wpAny_mono hr (fun _ s'' hr' => ?_) fun _ _ h' => h'))))
      obtain ⟨m, hn, hr'⟩ := hr'
      exact wpAny_bind (wpAny_comp_letGo (cenv := { cenv with scope := relabel scope env }) hkind _ s'' m hv' hn fun h' m' _ hs' => wpAny_pure (hr' h' hs'))
  | error x =>
    have hr' : ∃ m, s'.heap.Ns cenv.locals m ∧ ∀ h', Heap.SameBut cenv.locals s'.heap h' → wpAny M A (PySem.passOn "comprehension.variables-let-go" x { cenv with scope := relabel scope env } : Sem Value) (fun _ _ => False) E { s' with heap := h' } := by cases use <;> exact hr
    obtain ⟨m, hn, hr⟩ := hr'
    exact wpAny_bind (wpAny_holding (wpAny_comp_letGo (cenv := { cenv with scope := relabel scope env }) hkind _ s' m hv hn fun h' m' _ hs' => wpAny_mono (hr h' hs') (fun _ _ f => f.elim) fun _ _ y => y))
def XEf (X : Cx) (W : WX) (u : Value) (s' : Shared) : Prop :=
  ∃ (a : Addr) (B : Heap) (sI : Shared) (pins : List (Addr × Obj)) (σ : L2.St) (H : Hp) (cls : Value) (d : Option Addr),
    u = .ref a ∧ Inv X pins σ H sI ∧ (∀ b o, sI.heap.get? b = some o → b ∉ frs X.stack → B.get? b = some o) ∧ sI.heap.UpToSlots s'.heap ∧
      HandSPX.FlyingZ B X.stack a (L2N.Zn cls d) s'.heap ∧ H a = none ∧ s'.os = sI.os ∧ AllBare s'.gens ∧ W cls d σ H
theorem XEf.of_call {X : Cx} {pins : List (Addr × Obj)} {σ : L2.St} {H : Hp} {s s' : Shared} {W : WX} {u : Value} (I : Inv X pins σ H s) (c : L2N.CX X.prog X.w X.stack H s (WE W σ) u s') : XEf X W u s' := by
  obtain ⟨a, B, H', cls, d, rfl, fl, hok, ub, na, os, ag, hE⟩ := c
  obtain ⟨G, g1, g2⟩ := restrict s'.heap fun b => (B.get? b).isSome || decide (b ∈ frs X.stack)
  have st : B.StaysIn s'.heap := fl.1
  have gB : ∀ b o, B.get? b = some o → G.get? b = some o := fun b o e => by
    rw [g1 b (by simp [e])]
    exact st b o e
  have gF : ∀ b, b ∈ frs X.stack → G.get? b = s'.heap.get? b := fun b hb => g1 b (by simp [hb])
  have og : ∀ b o, G.get? b = some o → s'.heap.get? b = some o ∧ ((B.get? b).isSome = true ∨ b ∈ frs X.stack) := fun b o e => by
    cases q : ((B.get? b).isSome || decide (b ∈ frs X.stack)) with
    | false => rw [g2 b q] at e; cases e
    | true =>
      rw [g1 b q] at e
      exact ⟨e, by simpa [Bool.or_eq_true] using q⟩
  refine ⟨a, B, { s with heap := G, gens := s'.gens, drawn := s'.drawn, toks := s'.toks }, pins, σ, H', cls, d, rfl, ?_, fun b o e hb => ?_, Heap.UpToSlots.of_keeps fun b o e => (og b o e).1, fl, na, os, ag, hE⟩
  · refine I.call (ch := []) ⟨fun b o e n hb _ => gB b o (ub.keep b o e n hb), fun b o e n hb _ => ?_, fun b o e n _ => ub.free b o e n, fun b o e _ => ?_, ub.tups, ub.frzs, ub.tbls⟩ (hok.kept gB) ag (fun _ z => nomatch z)
    · obtain ⟨sl, q⟩ := ub.slot b o e hb
      exact ⟨sl, by rw [gF b hb]; exact q⟩
    · by_cases hb : b ∈ frs X.stack
      · obtain ⟨sl, q⟩ := ub.slot b o e hb
        exact ⟨_, by rw [gF b hb]; exact q⟩
      · obtain ⟨o', q⟩ := ub.there b o e hb
        exact ⟨o', gB b o' q⟩
  · obtain ⟨e', h⟩ := og b o e
    rcases h with h | h
    · obtain ⟨o', q⟩ := Option.isSome_iff_exists.mp h
      have z := st b o' q
      rw [e'] at z; cases z
      exact q
    · exact absurd h hb
theorem funFrames_less {h h' B B' : Heap} (hB : ∀ b, B.get? b = none → B'.get? b = none) : ∀ {l : List Env}, (∀ b ∈ l.filterMap (·.frame), h'.get? b = h.get? b) → h.FunFrames B l → h'.FunFrames B' l
  | [], _, _ => trivial
  | env :: rest, k, ⟨hk, ⟨L, o, hf, hn, ho, hd⟩, hr⟩ => by
    have k' : ∀ b ∈ L :: rest.filterMap (·.frame), h'.get? b = h.get? b := fun b hb => k b (by rw [List.filterMap_cons, hf]; exact hb)
    exact ⟨hk, ⟨L, o, hf, hB L hn, (k' L List.mem_cons_self).trans ho, hd⟩, funFrames_less hB (fun b hb => k' b (List.mem_cons_of_mem _ hb)) hr⟩
abbrev blkX (X : Cx) (s : Shared) (H : Hp) (scope : Scope) (cenv : Env) (fp : List Addr) (xe : Value → Shared → Prop) : Cx := { X.blk s H scope cenv fp with xe := xe }
theorem comp_flies {X : Cx} {W : WX} {pins : List (Addr × Obj)} {σ : L2.St} {H3 : Hp} {s3 s' : Shared} {scope : Scope} {ce : Env} {fp : List Addr} {use : Option (Value → Sem Unit)} {Qf : Value → Shared → Prop} {E₁ : Value → Shared → Prop} {acc u : Value} (hst : X.stack = X.env :: X.outer) (hf : X.env.frame = some X.env.locals) (tk : L2N.Takes X W)
    (I3 : Inv X pins σ H3 s3) (cF : ce.frame = X.env.frame) (cL : ce.locals = s3.heap.objs.size) (f3 : ∀ b ∈ fp, FpOk X pins H3 b ∧ b < s3.heap.objs.size) (x : XEf (X.blk s3 H3 scope ce fp) (fun cls d _ H' => W cls d σ H') u s') :
    wpAny (model X.prog X.w) X.A (noteFrame u ce) (fun _ s'' => compPostX (model X.prog X.w) X.A X.xe use Qf acc ce (.error u) s'') E₁ s' := by
  obtain ⟨a, B, sI, pinsB, σB, HB, cls, d, rfl, IY, nb, up, fl, na, os, ag, w⟩ := x
  rw [noteFrame_eq cF]
  have fl' : HandSPX.FlyingZ B (X.env :: X.outer) a (L2N.Zn cls d) s'.heap := by rw [← hst]; exact fl
  have hfrA : X.A.frames = some (X.env :: X.outer) := by rw [I3.ok.frames, hst]
  refine PXN.looks_onZ L2N.Zn.steady hfrA hf fl' fun h3 hh up3 => ?_
  have IX : Inv X pins σ HB sI := I3.call' (ch := fp) IY.os IY.base IY.hok IY.bare fun b hb => ⟨(f3 b hb).1.2.2.2.1, (f3 b hb).1.2.1, (f3 b hb).1.2.2.2.2.1, (f3 b hb).1.2.2.2.2.2⟩
  have nC : HB ce.locals = none := IY.free
  obtain ⟨m, hn, _⟩ := id IY.loc
  have hn : sI.heap.Ns ce.locals m := hn
  have hn3 : h3.Ns ce.locals m := (up.trans up3).ns hn
  have fC : FpOk X pins HB ce.locals := I3.fpOk (Nat.le_of_eq cL.symm) nC
  have hCf : ce.locals ∉ frs X.stack := fun hm => (List.mem_cons.mp (I3.stkSub _ hm)).elim fC.2.1 fC.2.2.1
  have fin0 : ∀ {P : Prop}, P → (compPostX (model X.prog X.w) X.A X.xe use Qf acc ce (.error (.ref a)) { s' with heap := h3 } ↔ P) → compPostX (model X.prog X.w) X.A X.xe use Qf acc ce (.error (.ref a)) { s' with heap := h3 } := fun p e => e.mpr p
  refine fin0 ?_ (by cases use <;> exact Iff.rfl)
  refine ⟨m, hn3, fun h4 hs4 => ?_⟩
  obtain ⟨G, g1, g2⟩ := restrict sI.heap fun b => !decide (b = ce.locals)
  obtain ⟨B', b1, b2⟩ := restrict B fun b => !decide (b = ce.locals)
  have g1' : ∀ b, b ≠ ce.locals → G.get? b = sI.heap.get? b := fun b hb => g1 b (by simp [hb])
  have b1' : ∀ b, b ≠ ce.locals → B'.get? b = B.get? b := fun b hb => b1 b (by simp [hb])
  have gne : ∀ b o, G.get? b = some o → b ≠ ce.locals := fun b o e z => by rw [g2 b (by simp [z])] at e; cases e
  have bne : ∀ b o, B'.get? b = some o → b ≠ ce.locals := fun b o e z => by rw [b2 b (by simp [z])] at e; cases e
  have bnn : ∀ b, B.get? b = none → B'.get? b = none := fun b e => by
    by_cases hb : b = ce.locals
    · exact b2 b (by simp [hb])
    · exact (b1' b hb).trans e
  obtain ⟨f0, f1, f2, f3', f4, f5⟩ := fC
  have I4 : Inv X pins σ HB { sI with heap := G } := IX.turned (t' := sI.toks) (fun b o hb e => (g1' b hb).trans e) f0 f1 f3' f4 f5
  obtain ⟨k1, k2, k3, oe, vs, T, oT, ts, he, hz, hd, h1, hnT, hTe, hT, hdT, ht3⟩ := id hh
  obtain ⟨oC, esC, epC, hoC, hdC, _⟩ := id hn3
  have ne2 : a ≠ ce.locals := fun z => by
    rw [z, hoC] at he
    cases he
    rw [hdC] at hd
    cases hd
  have neT : T ≠ ce.locals := fun z => by
    rw [z, hoC] at hT
    cases hT
    rw [hdC] at hdT
    cases hdT
  have he4 : h4.get? a = some oe := (hs4.2 a ne2).trans he
  have st4 : B'.StaysIn h4 := fun b o e => (hs4.2 b (bne b o e)).trans (k1 b o ((b1' b (bne b o e)).symm.trans e))
  have ff4 : h4.FunFrames B' (X.env :: X.outer) := funFrames_less bnn (fun b hb => hs4.2 b fun z => hCf (by rw [hst, ← z]; exact hb)) k3
  have tr4 : HandSPX.TracedZ h4 B' a (L2N.Zn cls d) (rawInt X.env.locals) := ⟨oe, vs, T, oT, ts, he4, hz, hd, h1, bnn T hnT, hTe, (hs4.2 T neT).trans hT, hdT, ht3⟩
  unfold PySem.passOn
  refine wpAny_bind (wpAny_field (s := { s' with heap := h4 }) he4 hd h1 ?_)
  rw [if_neg (show ¬ ((Value.ref T == Value.none) = true) from by simp)]
  have fin : wpAny (model X.prog X.w) X.A (setFlight (.ref a) ce.frame) (fun _ s5 => wpAny (model X.prog X.w) X.A (throw (.ref a) : Sem Value) (fun _ _ => False) X.xe s5) X.xe { s' with heap := h4 } := by
    rw [cF, hf]
    refine HandSPX.setFlight_anyZ (s := { s' with heap := h4 }) st4 ff4 tr4 fun h5 l1 l2 l3 l4 => wpAny_throw (tk _ _ ?_)
    refine ⟨a, B', { sI with heap := G }, pins, σ, HB, cls, d, rfl, I4, fun b o e hb => ?_, fun b o e hnf => ?_, .inr (.inr ?_), na, os, ag, w⟩
    · exact (b1' b (gne b o e)).trans (nb b o ((g1' b (gne b o e)).symm.trans e) hb)
    · have hb := gne b o e
      obtain ⟨sl, e2⟩ := (up.trans up3) b o ((g1' b hb).symm.trans e) hnf
      obtain ⟨sl2, e3⟩ := l4 b _ ((hs4.2 b hb).trans e2) hnf
      exact ⟨sl2, e3⟩
    · rw [hst]
      exact ⟨l1, bnn a k2, l2, l3⟩
  first
    | exact wpAny_bind (wpAny_pure (wpAny_bind fin))
    | exact wpAny_bind fin
section
variable {X : Cx}
theorem lc_coreX {pins : List (Addr × Obj)} {s : Shared} {σ : L2.St} {H : Hp} {Q : VK} {elt tg iter : Expr} {ifs : List Expr} {scope : Scope} {own : List (Str × Nat)} {pos pos' : Pos} {wi : TI} {g : TG} {tt : TT} {te : WX → TE} {W : WX} {use : Option (Value → Sem Unit)} {Qf : Value → Shared → Prop}
    (hst : X.stack = X.env :: X.outer) (hf : X.env.frame = some X.env.locals) (tk : L2N.Takes X W) (hc : X.calm = true) (hN : X.N.Nodup) (I : Inv X pins σ H s) (hi : PI X tg iter wi) (ok : BlkOk X.N X.env.scope scope own)
    (hg : ∀ (s : Shared) (H : Hp) (C : Addr) (cl : List (Str × Addr)) (fp : List Addr), PG (X.blk s H scope (compEnvC scope cl C X.env) fp) tg g) (ht : ∀ (s : Shared) (H : Hp) (C : Addr) (cl : List (Str × Addr)) (fp : List Addr), PTs (X.blk s H scope (compEnvC scope cl C X.env) fp) ifs tt)
    (he : ∀ (s : Shared) (H : Hp) (C : Addr) (cl : List (Str × Addr)) (fp : List Addr) (xe : Value → Shared → Prop) (W : WX), TkC (blkX X s H scope (compEnvC scope cl C X.env) fp xe) W → PE (blkX X s H scope (compEnvC scope cl C X.env) fp xe) elt (te W)) (hs : ∀ x, foldedSetIterable iter X.env x = pure x)
    (h : tLc wi g tt (te fun cls d _ H' => W cls d σ H') (own.map (·.2)) σ H Q)
    (hRR : ∀ D s' m H' (ce : Env), Inv X pins σ H' s' → Q (.ref D) H' → s'.heap.Ns ce.locals m → FpOk X pins H' ce.locals → compPostX (model X.prog X.w) X.A X.xe use Qf (.ref D) ce (.ok .next) s') :
    wpAny (model X.prog X.w) X.A (comprehension (.ListComp elt [⟨tg, iter, ifs, 0⟩] scope pos) scope X.env pos' (newList []) false (eval iter X.env) use) Qf X.xe s := by
  have hfree : ∀ y ∈ scope.names, y.2 = .free → ∃ c, X.env.cells.lookup y.1 = some c := fun y hy e => by
    rcases ok.free y hy e with k | k
    · exact I.ok.has _ (.inl k)
    · exact I.ok.has _ (.inr k)
  refine wpAny_comprehension_X (use := use) rfl hs (closure_ok hfree) ok.kind (fun y hy e => by rw [ok.uniq y hy, e])
    (thn (hi.run pins s σ H _ I h) fun xv s1 hx => thn hx fun itv s2 h2 => ?_)
  obtain ⟨it, fp, tn, J, H2, e, I2, T, st2, f2, q⟩ := h2
  subst e
  refine wpAny_newObj_type (newEnv_comp ?_) (by show 0 ≤ sizeLine; decide)
  generalize hD : s2.heap.objs.size = D
  have hDn : H2 D = none := I2.hok.fresh (Nat.le_of_eq hD)
  obtain ⟨Wm, ⟨m0, w0⟩, turn⟩ := q D hDn
  -- the new list
  generalize hs3 : ({ s2 with heap := s2.heap.push { cls := .type "list", data := .seq ([] : List Value).toArray } } : Shared) = s3
  have I3 : Inv X pins σ (upd H2 D (.lst [])) s3 := by
    rw [← hs3]
    refine I2.laid (t' := s2.toks) (fun b o e => Heap.get?_push_of_some _ e) (Nat.le_of_eq hD) ⟨Nat.zero_le _, [], 0, .nil, ?_⟩
    rw [← hD]
    exact Heap.get?_push_size _ rfl
  have h3 : s3.heap = s2.heap.push { cls := .type "list", data := .seq ([] : List Value).toArray } := by rw [← hs3]
  have sz : ∀ b ∈ fp, b < s2.heap.objs.size := fun b hb => by
    obtain ⟨o, e, _⟩ := T.obj _ _ st2 b hb
    exact Heap.lt_size e
  have f3 : ∀ b ∈ fp, FpOk X pins (upd H2 D (.lst [])) b ∧ b < s3.heap.objs.size := fun b hb => by
    have hlt := sz b hb
    refine ⟨⟨?_, (f2 b hb).2⟩, by rw [h3, Heap.size_push]; exact Nat.lt_succ_of_lt hlt⟩
    rw [upd_ne (by rw [← hD]; exact Nat.ne_of_lt hlt)]
    exact (f2 b hb).1
  have st3 : tn 0 s3.heap := T.keep _ _ _ st2 fun b _ o e => by rw [h3]; exact Heap.get?_push_of_some _ e
  have I4 := block_start I3 ok hN f3
  have pg := hg s3 (upd H2 D (.lst [])) s3.heap.objs.size (cellsFrom (s3.heap.objs.size + 1) scope.names (cloFrom X.env.cells scope.names [])) fp
  have pt := ht s3 (upd H2 D (.lst [])) s3.heap.objs.size (cellsFrom (s3.heap.objs.size + 1) scope.names (cloFrom X.env.cells scope.names [])) fp
  have pe := fun xe W' => he s3 (upd H2 D (.lst [])) s3.heap.objs.size (cellsFrom (s3.heap.objs.size + 1) scope.names (cloFrom X.env.cells scope.names [])) fp xe W'
  show codeAny _ _ (.compStart (.ListComp elt [⟨tg, iter, ifs, 0⟩] scope pos) 0 (.ref it) (.ref D) (compEnvC scope (cellsFrom (s3.heap.objs.size + 1) scope.names (cloFrom X.env.cells scope.names [])) s3.heap.objs.size X.env)) (compPostX (model X.prog X.w) X.A X.xe use Qf (.ref D) (compEnvC scope (cellsFrom (s3.heap.objs.size + 1) scope.names (cloFrom X.env.cells scope.names [])) s3.heap.objs.size X.env)) { s3 with heap := pushCells (s3.heap.push { cls := .type "dict", data := .dict #[] }) scope.names }
  have nfp : ∀ b ∈ fp, (upd H2 D (.lst [])) b = none := fun b hb => (f3 b hb).1.1
  generalize hce : compEnvC scope (cellsFrom (s3.heap.objs.size + 1) scope.names (cloFrom X.env.cells scope.names [])) s3.heap.objs.size X.env = ce at I4 pg pt pe ⊢
  have cL : ce.locals = s3.heap.objs.size := by subst hce; rfl
  have cF : ce.frame = X.env.frame := by subst hce; rfl
  generalize hH3 : upd H2 D (.lst []) = H3 at I3 I4 pg pt pe w0 nfp f3
  generalize hs4 : ({ s3 with heap := pushCells (s3.heap.push { cls := .type "dict", data := .dict #[] }) scope.names } : Shared) = s4 at I4 ⊢
  have st4 : tn 0 s4.heap := T.keep _ _ _ st3 fun b _ o e => by rw [← hs4]; exact pushCells_keeps _ _ _ _ (Heap.get?_push_of_some _ e)
  have stat : ∀ {σ' : St} {H' : Hp} {s' : Shared}, Inv (X.blk s3 H3 scope ce fp) [] σ' H' s' → (∀ b ∈ fp, H' b = none) → ∀ b ∈ fp, FpOk (X.blk s3 H3 scope ce fp) [] H' b := fun {σ' H' s'} I' hn b hb =>
    ⟨hn b hb, (I'.ok.exf b hb).1, I'.ok.exfs b hb, .inl hb, fun x c e => (I'.ok.exf b hb).2 x c e, fun p hp => absurd (show p ∈ ([] : List (Addr × Obj)) ++ [] from hp) (by simp)⟩
  have loop : codeAny (model X.prog X.w) X.A (.compLoop (.ListComp elt [⟨tg, iter, ifs, 0⟩] scope pos) 0 (.ref it) (.ref D) ce) (compPostX (model X.prog X.w) X.A X.xe use Qf (.ref D) ce) s4 := by
    refine compLoop_any (fun n s' => ∃ i H', Inv (X.blk s3 H3 scope ce fp) [] (wipe σ (own.map (·.2))) H' s' ∧ tn i s'.heap ∧ (∀ b ∈ fp, H' b = none) ∧ Wm i n H') ?_ m0 ⟨0, H3, I4, st4, nfp, w0⟩
    rintro n s5 ⟨i, H5, I5, st5, n5, w5⟩
    rcases turn i n H5 w5 with ⟨stop, qq⟩ | ⟨go, Nx, hNx, step⟩
    · have td := T.done (X.blk s3 H3 scope ce fp) rfl rfl rfl hc i [] s5 _ H5 (fun _ _ => False) I5 (stat I5 n5) st5 stop
      refine thnF td fun r s6 ⟨hr, I6⟩ => ?_
      subst hr
      -- back in the def's context
      have I7 : Inv X pins σ H5 s6 := I3.call' (ch := fp) I6.os I6.base I6.hok I6.bare fun b hb => ⟨(f3 b hb).1.2.2.2.1, (f3 b hb).1.2.1, (f3 b hb).1.2.2.2.2.1, (f3 b hb).1.2.2.2.2.2⟩
      have nC : H5 ce.locals = none := I6.free
      obtain ⟨m, hn, _⟩ := I6.loc
      have hn : s6.heap.Ns ce.locals m := hn
      exact hRR D s6 m H5 ce I7 qq hn (I3.fpOk (Nat.le_of_eq cL.symm) nC)
    · have ti := T.item (X.blk s3 H3 scope ce fp) rfl rfl rfl hc i [] s5 _ H5 (fun _ _ => False) I5 (stat I5 n5) st5 go
      refine thnF ti fun r s6 ⟨u, hr, h6⟩ => ?_
      subst hr
      refine thnF h6 fun _ s7 ⟨x, H7, I7, r7, y7, st7, n7⟩ => ?_
      have I7' := I7.pinned (stat I7 n7) (T.obj _ _ st7)
      refine thnF (pg.run _ s7 _ H7 x u _ I7' r7 (step x H7 y7)) fun _ s8 ⟨σ8, H8, I8, hw8, q8⟩ => ?_
      refine thnF (pt.run _ s8 σ8 H8 _ I8 q8) fun b s9 ⟨H9, I9, q9⟩ => ?_
      -- the turn's end
      have fin : ∀ {s' : Shared} {H' : Hp}, Inv (X.blk s3 H3 scope ce fp) ([] ++ pinsAt fp s7.heap) σ8 H' s' → Nx H' → ∃ m, m < n ∧ ∃ i H', Inv (X.blk s3 H3 scope ce fp) [] (wipe σ (own.map (·.2))) H' s' ∧ tn i s'.heap ∧ (∀ b ∈ fp, H' b = none) ∧ Wm i m H' := fun {s' H'} I' nx => by
        obtain ⟨m', hm, w'⟩ := hNx H' nx
        have pin' : ∀ b ∈ fp, ∀ o, s7.heap.get? b = some o → s'.heap.get? b = some o ∧ H' b = none := fun b hb o e =>
          let z := I'.pin (b, o) (List.mem_append_right _ (List.mem_append_right _ (mem_pinsAt hb e)))
          ⟨z.1, z.2.1⟩
        have hl : (wipe σ (own.map (·.2))).length = σ8.length := by rw [← hw8, wipe_length]
        refine ⟨m', hm, i + 1, H', (I'.unpinned (pins := [])).weak hl (fun j v e => ?_), T.keep _ _ _ st7 fun b hb o e => (pin' b hb o e).1, fun b hb => ?_, w'⟩
        · rw [← hw8] at e
          exact (wipe_some e).1
        · obtain ⟨o, e, _⟩ := T.obj _ _ st7 b hb
          exact (pin' b hb o e).2
      cases b with
      | false =>
        simp only [Bool.false_eq_true, if_false] at q9 ⊢
        exact fin I9 q9
      | true =>
        simp only [if_true] at q9 ⊢
        refine wpAny_mono ((pe (XEf (X.blk s3 H3 scope ce fp) fun cls d _ H' => W cls d σ H') _ fun σ' pins' H' s' e s'' I' c' => XEf.of_call (X := X.blk s3 H3 scope ce fp) (I'.wish fun _ _ => False) c').run _ s9 σ8 H9 _ (I9.wish _) q9) (fun z s10 ⟨yv, H10, I10, r10, acc, hD10, hz10, nx⟩ => ?_)
          fun u s10 xx => comp_flies hst hf tk I3 cF cL f3 xx
        exact wpAny_mono (app_ok (X := X.blk s3 H3 scope ce fp) (E := fun _ _ => False) (I10.wish fun _ _ => False) hD10 hz10 r10 fun s11 I11 => fin I11 nx) (fun _ _ z => z) fun _ _ z => z.elim
  exact codeAny_compStart_list loop (T.self X.A 0 _ _ _ st4 loop)
theorem pe_lcX {elt tg iter : Expr} {ifs : List Expr} {scope : Scope} {own : List (Str × Nat)} {pos : Pos} {wi : TI} {g : TG} {tt : TT} {te : WX → TE} {W : WX} (hst : X.stack = X.env :: X.outer) (hf : X.env.frame = some X.env.locals) (tk : L2N.Takes X W) (hc : X.calm = true) (hN : X.N.Nodup) (hi : PI X tg iter wi) (ok : BlkOk X.N X.env.scope scope own)
    (hg : ∀ (s : Shared) (H : Hp) (C : Addr) (cl : List (Str × Addr)) (fp : List Addr), PG (X.blk s H scope (compEnvC scope cl C X.env) fp) tg g) (ht : ∀ (s : Shared) (H : Hp) (C : Addr) (cl : List (Str × Addr)) (fp : List Addr), PTs (X.blk s H scope (compEnvC scope cl C X.env) fp) ifs tt)
    (he : ∀ (s : Shared) (H : Hp) (C : Addr) (cl : List (Str × Addr)) (fp : List Addr) (xe : Value → Shared → Prop) (W : WX), TkC (blkX X s H scope (compEnvC scope cl C X.env) fp xe) W → PE (blkX X s H scope (compEnvC scope cl C X.env) fp xe) elt (te W)) (hs : ∀ x, foldedSetIterable iter X.env x = pure x := by intro _; rfl) :
    PE X (.ListComp elt [⟨tg, iter, ifs, 0⟩] scope pos) (fun σ H Q => tLc wi g tt (te fun cls d _ H' => W cls d σ H') (own.map (·.2)) σ H Q) := by
  refine ⟨fun pins s σ H Q I h => ?_⟩
  rw [eval_ListComp]
  refine lc_coreX hst hf tk hc hN I hi ok hg ht he hs h fun D s' m H' ce I' q hn f => ⟨m, hn, fun h'' sb => ?_⟩
  obtain ⟨f0, f1, f2, f3, f4, f5⟩ := f
  exact ⟨.ref D, H', I'.turned (t' := s'.toks) (fun b o hb e => (sb.2 b hb).trans e) f0 f1 f3 f4 f5, rfl, q⟩
end
section
variable {τ : Type} [Sto τ] {K : Fg} {W : WX}
def compLX (g : Tgt) (tt : ME τ Bool) (te : ME τ D) (ρ : Rho) : List D → τ → Res τ (List D)
  | [], t => .ok [] t
  | d :: ds, t => match g ρ d with
    | some ρ1 => (noEx (tt ρ1 t)).bind fun b t => if b = true then (te ρ1 t).bind fun y t => (compLX g tt te ρ ds t).bind fun ys t => .ok (y :: ys) t else compLX g tt te ρ ds t
    | none => .bad
def eCompX (mi : ME τ (List D)) (vs : List Nat) (g : Tgt) (tt : ME τ Bool) (te : ME τ D) : ME τ (List D) := fun ρ t => (mi ρ t).bind fun ds t => if ds.length ≤ 16777216 ∧ noOwn ρ vs = true then compLX g tt te (wipeR ρ vs) ds t else .bad
theorem lc_redX {mi : ME τ (List D)} {vs ws : List Nat} {g : Tgt} {tt : ME τ Bool} {te : ME τ D} {σ : L2.St} {H : Hp} {Q : VK} (hv : ∀ j, j ∈ ws → j ∈ vs) (p : tF K W (eCompX mi vs g tt te) σ H Q) : tLc (tIO K W mi) (tTg τ K g ws) (tT K W0 tt) (tE K (fun cls d _ H' => W cls d σ H') te) vs σ H Q := by
  obtain ⟨C, ρ, t0, A0, p⟩ := p
  refine use okF A0 p fun ds t1 J H1 e1 s1 A1 r1 p1 => ?_
  intro D0 nD
  split at p1
  · rename_i hlo
    obtain ⟨hlen, hno⟩ := hlo
    have own_out : ∀ (j : Nat) (x : Slot), (ρ[j]? = some x ∧ x.mine = true) → j ∉ vs := fun j x h hj => noOwn_mine hno h hj
    obtain ⟨G, Y, w, hG, hY⟩ := r1
    have nF0 : ¬ Fo C.F ρ σ D0 := fun z => A1.dom D0 z nD
    have s0 : Sm C.F H1 (upd H1 D0 (.lst [])) := Sm.of_same (same_upd nD)
    have sp0 : Stp (Fo C.F ρ σ) H1 (fun b => Fo C.F ρ σ b ∨ b = D0) (upd H1 D0 (.lst [])) := ⟨fun b o _ e => same_upd nD b o e, fun b h => h.elim .inl fun e => .inr (by rw [e]; exact nD)⟩
    refine lc_it w (fun i H' => ∃ (t : τ) (av : List V) (ad : List D), C.Iv t (fun b => Fo C.F ρ σ b ∨ b = D0) H' ∧ H' D0 = some (.lst av) ∧ Reps K (fun b => Fo C.F ρ σ b ∨ b = D0) H' av ad ∧ av.length ≤ i ∧ Sm C.F H1 H' ∧
        Post rF K W C (Fo C.F ρ σ) σ H1 ((compLX g tt te (wipeR ρ vs) (ds.drop i) t).bind fun ys t => .ok (ad ++ ys) t) Q)
      ⟨t1, [], [], C.step _ _ _ _ _ A1.st (fun b o _ e => same_upd nD b o e) sp0, upd_same, .nil, Nat.le_refl _, s0, ?_⟩ ?_ ?_ ?_
    · rw [List.drop_zero]
      cases q : compLX g tt te (wipeR ρ vs) ds t1 with
      | ok d t => rw [q] at p1; exact p1
      | ex n fs t => rw [q] at p1; exact p1
      | bad => rw [q] at p1; exact p1
    · rintro i H' hi ⟨t, av, ad, iv, hD, ra, hl, sm, q⟩
      exact hG H' sm
    · rintro i x H' H'' hi ⟨t, av, ad, iv, hD, ra, hl, sm, q⟩ y
      obtain ⟨AB, fo⟩ := At.blk (vs := vs) A1 nD sm iv hD
      have sp : Stp (Fo C.F ρ σ) H1 (Fo (C.cmp D0 (.lst av)).F (wipeR ρ vs) (wipe σ vs)) H' := ⟨fun b o n e => sm b o (fun z => n (.inl z)) e, fun b h => (fo b h).elim .inl fun e => .inr (by rw [e]; exact nD)⟩
      obtain ⟨sy, d, ed, r⟩ := hY _ i H' x H'' hi sp AB.dom y
      have AB2 := AB.next (Sm.of_same sy) ((C.cmp D0 (.lst av)).stay AB.st sy)
      have dr : ds.drop i = d :: ds.drop (i + 1) := by
        obtain ⟨hl, e⟩ := List.getElem?_eq_some_iff.mp ed
        rw [List.drop_eq_getElem_cons hl, e]
      rw [dr] at q
      unfold compLX at q
      cases eg : g (wipeR ρ vs) d with
      | none => rw [eg] at q; exact q.elim
      | some ρ1 =>
        rw [eg] at q
        dsimp only at q
        refine ⟨C.cmp D0 (.lst av), wipeR ρ vs, t, d, AB2, r, ρ1, eg, fun σ2 Hg f2 mg s2 A2 => ⟨(wipe_eq (ws := vs) f2.1 (fun j hj => (f2.2 j hj).1) hv).trans (wipe_eq (ws := vs) (vs := vs) (wipe_length σ vs) (fun j hj => wipe_keep hj) fun _ h => h), ?_⟩⟩
        have sy : Same H' Hg := fun b o e => mg b o (sy b o e)
        have sm2 : Sm C.F H1 Hg := sm.trans (Sm.of_same sy)
        have smB : ∀ {H3 : Hp}, Sm (C.cmp D0 (.lst av)).F Hg H3 → Sm C.F H1 H3 := fun {H3} s3 b o n e => s3 b o (fun z => z.elim n fun q => by rw [q, nD] at e; cases e) (sm2 b o n e)
        have big : ∀ b, (Fo C.F ρ σ b ∨ b = D0) → Fo (C.cmp D0 (.lst av)).F ρ1 σ2 b := fun b h => by
          rcases h with (h | ⟨j, xs, h1, h2⟩) | h
          · exact .inl (.inl h)
          · have hj := own_out j xs h1
            have hj2 : j ∉ ws := fun z => hj (hv j z)
            refine .inr ⟨j, xs, ⟨?_, h1.2⟩, ?_⟩
            · rw [(f2.2 j hj2).2]
              have : ∀ us : List Nat, j ∉ us → (wipeR ρ us)[j]? = ρ[j]? := fun us => by
                induction us with
                | nil => intro _; rfl
                | cons u us ih =>
                  intro hu
                  simp only [List.mem_cons, not_or] at hu
                  unfold wipeR
                  rw [List.getElem?_set_ne (fun e => hu.1 e.symm), ih hu.2]
              rw [this vs hj]; exact h1.1
            · rw [(f2.2 j hj2).1, wipe_keep hj, h2]
          · exact .inl (.inr h)
        have raB : ∀ {H3 : Hp}, Sm (C.cmp D0 (.lst av)).F Hg H3 → Reps K (fun b => Fo C.F ρ σ b ∨ b = D0) H3 av ad := fun {H3} s3 => (ra.same (Sm.of_same sy)).same (s3.mono fun b h => h.elim (fun z => .inl (.inl z)) .inr)
        refine ⟨C.cmp D0 (.lst av), ρ1, t, A2, ?_⟩
        unfold noEx at q
        cases et : tt ρ1 t with
        | bad => rw [et] at q; exact q.elim
        | ex n fs t' => rw [et] at q; exact q.elim
        | ok c t3 =>
          rw [et] at q
          intro c' H3 s3 i3 ec
          cases ec
          cases c with
          | false =>
            rw [if_neg Bool.false_ne_true]
            exact ⟨t3, av, ad, C.less i3.1 big, i3.2, raB s3, Nat.le_succ_of_le hl, smB s3, q⟩
          | true =>
            rw [if_pos rfl]
            have A3 := A2.next s3 i3
            refine ⟨C.cmp D0 (.lst av), ρ1, t3, A3, ?_⟩
            simp only [Res.bind_ok, if_true] at q
            cases ee : te ρ1 t3 with
            | bad => rw [ee] at q; exact q.elim
            | ex n fs t' =>
              rw [ee] at q
              intro cls dd H4 s4 i4 x4
              exact q cls dd H4 (smB (s3.trans s4)) (C.less i4.1 fun b h => big b (.inl h)) (x4.anti fun b h => big b (.inl h))
            | ok y t4 =>
              rw [ee] at q
              intro yv H4 s4 i4 ry
              have s34 : Sm (C.cmp D0 (.lst av)).F Hg H4 := s3.trans s4
              have yB : Rep K (fun b => Fo C.F ρ σ b ∨ b = D0) H4 yv y := Rep.anti ry big
              refine ⟨av, i4.2, Nat.lt_of_le_of_lt hl (Nat.lt_of_lt_of_le hi hlen), t4, av ++ [yv], ad ++ [y], ?_, upd_same, ?_, by rw [List.length_append]; exact Nat.succ_le_succ hl, ?_, ?_⟩
              · refine C.step _ _ _ _ _ (C.less i4.1 big) (fun b o h e => ?_) ⟨fun b o n e => by rw [upd_ne (fun z => n (.inr z))]; exact e, fun b h => .inl h⟩
                rw [upd_ne (fun z => nF0 (by rw [← z]; exact .inl h))]
                exact e
              · have sp4 : Stp (fun b => Fo C.F ρ σ b ∨ b = D0) H4 (fun b => Fo C.F ρ σ b ∨ b = D0) (upd H4 D0 (.lst (av ++ [yv]))) := ⟨fun b o n e => by rw [upd_ne (fun z => n (.inr z))]; exact e, fun b h => .inl h⟩
                exact Reps.step sp4 ((raB s34).snoc yB)
              · intro b o n e
                have nb : b ≠ D0 := fun z => by rw [z, nD] at e; cases e
                rw [upd_ne nb]
                exact smB s34 b o n e
              · simp only [Res.bind_ok] at q
                cases ec : compLX g tt te (wipeR ρ vs) (ds.drop (i + 1)) t4 with
                | ok zs t5 => rw [ec] at q; simp only [Res.bind_ok, List.append_assoc, List.singleton_append] at q ⊢; exact q
                | ex n fs t5 => rw [ec] at q; exact q
                | bad => rw [ec] at q; exact q
    · rintro H' ⟨t, av, ad, iv, hD, ra, hl, sm, q⟩
      rw [List.drop_length] at q
      simp only [compLX, Res.bind_ok, List.append_nil] at q
      exact q (.ref D0) H' sm (C.less iv fun _ => .inl) ⟨D0, av, rfl, nF0, nD, hD, ra, iv⟩
  · exact p1.elim
end
section
variable {X : Cx} {W : WX} {τ : Type} [Sto τ]
theorem mf_lcX {elt tg iter : Expr} {ifs : List Expr} {scope : Scope} {own : List (Str × Nat)} {ws : List Nat} {pos : Pos} {mi : ME τ (List D)} {g : Tgt} {tt : ME τ Bool} {te : ME τ D} (hst : X.stack = X.env :: X.outer) (hf : X.env.frame = some X.env.locals) (tk : L2N.Takes X W) (hc : X.calm = true) (hN : X.N.Nodup) (hi : PI X tg iter (tIO X.K W mi)) (ok : BlkOk X.N X.env.scope scope own)
    (hv : ∀ j, j ∈ ws → j ∈ own.map (·.2))
    (hg : ∀ (s : Shared) (H : Hp) (C : Addr) (cl : List (Str × Addr)) (fp : List Addr), PG (X.blk s H scope (compEnvC scope cl C X.env) fp) tg (tTg τ X.K g ws)) (ht : ∀ (s : Shared) (H : Hp) (C : Addr) (cl : List (Str × Addr)) (fp : List Addr), PTs (X.blk s H scope (compEnvC scope cl C X.env) fp) ifs (tT X.K W0 tt))
    (he : ∀ (s : Shared) (H : Hp) (C : Addr) (cl : List (Str × Addr)) (fp : List Addr) (xe : Value → Shared → Prop) (W : WX), TkC (blkX X s H scope (compEnvC scope cl C X.env) fp xe) W → PE (blkX X s H scope (compEnvC scope cl C X.env) fp xe) elt (tE X.K W te)) (hs : ∀ x, foldedSetIterable iter X.env x = pure x := by intro _; rfl) :
    PE X (.ListComp elt [⟨tg, iter, ifs, 0⟩] scope pos) (tF X.K W (eCompX mi (own.map (·.2)) g tt te)) := PE.imp (pe_lcX (te := fun W => tE X.K W te) hst hf tk hc hN hi ok hg ht he hs) fun _ _ _ p => lc_redX hv p
end
section
variable {τ : Type} {Q : List D → τ → Prop} {X : Str → Fds → τ → Prop} {ρ : Rho} {t : τ} {vs : List Nat} {g : Tgt} {tt : ME τ Bool} {mi : ME τ (List D)} {te : ME τ D}
@[simp] theorem oE_compX : oE (eCompX mi vs g tt te ρ t) Q X = oE (mi ρ t) (fun ds t => (ds.length ≤ 16777216 ∧ noOwn ρ vs = true) ∧ oE (compLX g tt te (wipeR ρ vs) ds t) Q X) X := by
  unfold eCompX; rw [oE_bind]; congr; funext ds t
  by_cases h : ds.length ≤ 16777216 ∧ noOwn ρ vs = true
  · rw [if_pos h]; simp only [h, and_self, true_and]
  · rw [if_neg h]; simp only [oE_bad, h, false_and]
theorem compLX_cons {d : D} {ds : List D} {ρ1 : Rho} (hg : g ρ d = some ρ1) (ht : tt ρ1 t = .ok true t) : oE (compLX g tt te ρ (d :: ds) t) Q X = oE (te ρ1 t) (fun y t => oE (compLX g tt te ρ ds t) (fun ys t => Q (y :: ys) t) X) X := by
  show oE (match g ρ d with
    | some ρ1 => (noEx (tt ρ1 t)).bind fun b t => if b = true then (te ρ1 t).bind fun y t => (compLX g tt te ρ ds t).bind fun ys t => .ok (y :: ys) t else compLX g tt te ρ ds t
    | none => .bad) Q X = _
  rw [hg]
  dsimp only
  rw [ht]
  simp only [noEx, Res.bind_ok, if_true, oE_bind, oE_ok]
end
end MM

namespace MM
open PySem PySem.Spec PyProof.Rows L2
section
variable {X : Cx} {K : Fg}
end
end MM

namespace MM
open PySem PySem.Spec PyProof.Rows L2
section
variable {X : Cx} {W : WX} {τ : Type} [Sto τ] {K : Fg}
end
end MM

namespace MM
open PySem PySem.Spec PyProof.Rows L2
def pickL {α : Type} (ix : List (Bool × Nat)) (a b : List α) : List α := ix.filterMap fun p => if p.1 = true then a[p.2]? else b[p.2]?
section
theorem vals_at {vs : List V} {us : List Value} (r : Vals vs us) : ∀ i : Nat, (vs[i]? = none ∧ us[i]? = none) ∨ ∃ v u, vs[i]? = some v ∧ us[i]? = some u ∧ RelV v u := by
  induction r with
  | nil => intro i; exact .inl ⟨rfl, rfl⟩
  | cons h t ih =>
    intro i
    cases i with
    | zero => exact .inr ⟨_, _, rfl, rfl, h⟩
    | succ i => simpa using ih i
theorem reps_at {K : Fg} {F : Fp} {H : Hp} {vs : List V} {ds : List D} (r : Reps K F H vs ds) (i : Nat) : (vs[i]? = none ∧ ds[i]? = none) ∨ ∃ v d, vs[i]? = some v ∧ ds[i]? = some d ∧ Rep K F H v d := by
  cases e : ds[i]? with
  | none =>
    refine .inl ⟨?_, rfl⟩
    rw [List.getElem?_eq_none_iff] at e ⊢
    rw [r.length]; exact e
  | some d =>
    obtain ⟨v, h1, h2⟩ := r.get e
    exact .inr ⟨v, d, h1, rfl, h2⟩
end
section
variable {K : Fg} {x qual : Str} {params : Arguments} {body : List Stmt} {scope : Scope} {kws : List (Str × V)} {f : Addr} {fd : FuncData} {ps : List Str}
end
structure DefQ (P : Program) (w : World) (K : Fg) (mg : Str → Option Value) (base : Heap) (k : Nat) (x : Str) (np n : Nat) (ks : List Str) (ix : List (Bool × Nat)) (dms : List D) (m : List D → Unit → Res Unit D) : Prop where
  ex : ∃ (fd : FuncData) (ps : List Str) (g : List Value → List Value → List Value) (dvs : List V), FnOk P w K mg base (L2.CX P w) k (He.ga K x) fd ps (spF np K m) ∧ mg x = some (.ref (He.ga K x)) ∧ PySem.W.keepIn K (.ref (He.ga K x)) = true ∧ KBn K fd ps n ks g (fun vs zs => vs ++ pickL ix dvs zs) ∧ ∀ F H, Reps K F H dvs dms
section
variable {X : Cx} {CX : CXT} {k n : Nat} {f : Addr} {fd : FuncData} {ps ks : List Str} {sp : Sp} {E : L2.St → XK} {x : Str} {p pos : Pos} {e : Expr} {es : List Expr} {kws : List Keyword} {t tk : TA} {g : List Value → List Value → List Value} {gV : List V → List V → List V}
end
section
variable {X : Cx} {W : WX} {τ : Type} [Sto τ] {K : Fg}
theorem DefQ.mono {P : Program} {w : World} {mg : Str → Option Value} {base : Heap} {k k' np n : Nat} {x : Str} {ks : List Str} {ix : List (Bool × Nat)} {dms : List D} {m : List D → Unit → Res Unit D} (h : DefQ P w K mg base k x np n ks ix dms m) : DefQ P w K mg base k x np n ks ix dms m := h
end
end MM

namespace MM
open PySem PySem.Spec PyProof.Rows L2
def stepL {α : Type} (xs : List α) (lo : Option Int) (st : Int) : List α :=
  (sliceRange (sliceBounds lo none (some st) xs.length).1 (sliceBounds lo none (some st) xs.length).2.1 (sliceBounds lo none (some st) xs.length).2.2).filterMap fun i => xs[i]?
theorem stepL_mem {α : Type} {xs : List α} {lo : Option Int} {st : Int} {x : α} (h : x ∈ stepL xs lo st) : x ∈ xs := by
  unfold stepL at h
  obtain ⟨i, _, hi⟩ := List.mem_filterMap.mp h
  exact List.mem_of_getElem? hi
theorem stepL_pick (its : List Value) (lo : Option Int) (st : Int) : slicePick its.toArray lo none (some st) = (stepL its lo st).toArray := by
  unfold slicePick stepL
  congr 1
  simp
theorem stepL_len (its : List Value) (lo : Option Int) (st : Int) : (stepL its lo st).length ≤ its.length := by
  have h := slicePick_size_le its.toArray lo none (some st)
  rw [stepL_pick] at h
  simpa using h
theorem step_vals {vs : List V} {us : List Value} (r : Vals vs us) (lo : Option Int) (st : Int) : Vals (stepL vs lo st) (stepL us lo st) := by
  unfold stepL
  rw [r.length]
  generalize sliceRange (sliceBounds lo none (some st) us.length).1 (sliceBounds lo none (some st) us.length).2.1 (sliceBounds lo none (some st) us.length).2.2 = ix
  induction ix with
  | nil => exact .nil
  | cons i ix ih =>
    rw [List.filterMap_cons, List.filterMap_cons]
    rcases vals_at r i with ⟨e1, e2⟩ | ⟨v, u, e1, e2, h⟩
    · rw [e1, e2]; exact ih
    · rw [e1, e2]; exact .cons h ih
theorem step_reps {K : Fg} {F : Fp} {H : Hp} {vs : List V} {ds : List D} (r : Reps K F H vs ds) (lo : Option Int) (st : Int) : Reps K F H (stepL vs lo st) (stepL ds lo st) := by
  unfold stepL
  rw [r.length]
  generalize sliceRange (sliceBounds lo none (some st) ds.length).1 (sliceBounds lo none (some st) ds.length).2.1 (sliceBounds lo none (some st) ds.length).2.2 = ix
  induction ix with
  | nil => exact .nil
  | cons i ix ih =>
    rw [List.filterMap_cons, List.filterMap_cons]
    rcases reps_at r i with ⟨e1, e2⟩ | ⟨v, u, e1, e2, h⟩
    · rw [e1, e2]; exact ih
    · rw [e1, e2]; exact .cons h ih
section
variable {X : Cx} {W : WX} {τ : Type} [Sto τ] {K : Fg}
def tStepL (K : Fg) (st : Int) (te : TE) (tl : TO) : TE := fun σ H Q => te σ H fun x H1 => tl σ H1 fun lo H2 => ∃ a xs, x = .ref a ∧ SqL K H2 a xs ∧ ∀ p, H2 p = none → Q (.ref p) (upd H2 p (.lst (stepL xs lo st)))
theorem pe_stepL {e : Expr} {lo : Option Expr} {te : TE} {tl : TO} {k kk : Nat} {p1 p3 pos : Pos} (he : PE X e te) (hl : PO X lo tl) : PE X (.Subscript e (.Slice lo none (some (.Constant (.int ((k + 1 : Nat) : Int)) kk p1)) p3) pos) (tStepL X.K ((k + 1 : Nat) : Int) te tl) := by
  refine ⟨fun pins s σ H Q I h => ?_⟩
  refine Subscript_ (thn (he.run pins s σ H _ I h) fun v s1 ⟨x, H1, I1, r1, q1⟩ => ?_)
  have hst : PO X (some (.Constant (.int ((k + 1 : Nat) : Int)) kk p1)) (tPart (tC (.int ((k + 1 : Nat) : Int)))) := po_some pe_int
  refine wpAny_Slice (thn (hl.run pins s1 σ H1 _ I1 q1) fun vl s2 ⟨l, H2, I2, pl, q2⟩ => ?_)
  obtain ⟨a, xs, ex, hx, q⟩ := q2
  subst ex
  cases r1
  refine thn (po_none.run pins s2 σ H2 (fun o H3 => o = none ∧ H3 = H2) I2 ⟨rfl, rfl⟩) fun vu s3 ⟨u, H3, I3, pu, eu, e3⟩ => ?_
  subst eu e3
  refine thn (hst.run pins s3 σ H3 (fun o H4 => o = some ((k + 1 : Nat) : Int) ∧ H4 = H3) I3 ⟨_, rfl, rfl, rfl⟩) fun vs s4 ⟨o, H4, I4, ps, eo, e4⟩ => ?_
  subst eo e4
  have I5 : Inv X pins σ H4 { s4 with heap := s4.heap.push { cls := .type "slice", data := .fields #[vl, vu, vs] } } := I4.kept (t' := s4.toks) fun b ob q => Heap.get?_push_of_some _ q
  obtain ⟨its, r, ht, hz⟩ := I5.list hx
  have hlen := r.length
  show wpAny (model X.prog X.w) X.A (subscriptTail e (.Slice lo none (some (.Constant (.int ((k + 1 : Nat) : Int)) kk p1)) p3) (.ref a) (.ref s4.heap.objs.size)) (EP X pins σ Q) X.xe { s4 with heap := s4.heap.push { cls := .type "slice", data := .fields #[vl, vu, vs] } }
  refine tail_any (ops := [.ref a, .ref s4.heap.objs.size]) ht.isList.typeIs (PySem.slot_list_getitem.lookup) ?_ (by with_unfolding_all rfl)
  refine wpAny_getItem_list_slice ht.isList (Heap.IsSliceOf.new _ vl vu vs) pl pu ps (by intro z; have := Option.some.inj z; omega) ?_ (by rw [List.size_toArray]; omega)
  rw [stepL_pick]
  have sl := stepL_len its l ((k + 1 : Nat) : Int)
  have rs := step_vals r l ((k + 1 : Nat) : Int)
  refine ⟨.ref _, _, I5.laid (t' := s4.toks) (o := .lst (stepL xs l ((k + 1 : Nat) : Int))) (fun b ob q => Heap.get?_push_of_some _ q) (Nat.le_refl _) ?_, rfl, q _ (I5.hok.fresh (Nat.le_refl _))⟩
  exact ⟨by rw [rs.length]; omega, _, 0, rs, Heap.get?_push_size _ rfl⟩
def dStep (st : Int) (d : D) (lo : Option Int) : Option (List D) := match d with
  | .lst ds => some (stepL ds lo st)
  | _ => none
theorem mf_step {e : Expr} {lo : Option Expr} {k kk : Nat} {p1 p3 pos : Pos} {m : ME τ D} {ml : ME τ (Option Int)} (h : PE X e (tW X.K W m)) (hl : PO X lo (tO X.K W ml)) : PE X (.Subscript e (.Slice lo none (some (.Constant (.int ((k + 1 : Nat) : Int)) kk p1)) p3) pos) (tF X.K W (MM.e2 (dStep ((k + 1 : Nat) : Int)) m ml)) :=
  PE.imp (pe_stepL h hl) fun σ H Q ⟨C, ρ, t, A, p⟩ => by
    refine use okF A p fun d t1 v H1 e1 s1 A1 r1 p1 => ?_
    refine use okF A1 p1 fun l t2 l' H2 e2 s2 A2 rl p2 => ?_
    cases rl
    unfold dStep at p2
    split at p2
    · obtain ⟨a, vs, rfl, hl, rs⟩ := (RepW.same r1 s2 fun _ => Fo.base).lstOf
      exact ⟨a, vs, rfl, hl.sq, new_fin A2 (step_reps rs _ _) p2⟩
    · exact p2.elim
end
end MM

namespace MM
open PySem PySem.Spec PyProof.Rows L2
open PyProof.V (PairsRead reads_dictOf)
def SysK (K : Fg) : Prop := ∃ o : Obj, K.lookup sysModules = some o ∧ o.cls = .type "dict"
theorem cSys_ok {K : Fg} (c : cSys K = true) : SysK K := by
  unfold cSys at c
  split at c
  · rename_i o e; exact ⟨o, e, of_decide_eq_true c⟩
  · cases c
def pk : D → Option PyData
  | .int i => some (.int i)
  | .str x => some (.str x)
  | _ => none
def pks : List D → Option (List PyData)
  | [] => some []
  | d :: ds => (pk d).bind fun p => (pks ds).map (p :: ·)
def encK : Key → PyData
  | .inl i => .int i
  | .inr x => .str x
theorem pks_key (ks : List Key) : pks (ks.map keyD) = some (ks.map encK) := by
  induction ks with
  | nil => rfl
  | cons k ks ih => cases k <;> simp [pks, pk, keyD, encK, ih]
mutual
def py2 : D → Option PyData
  | .non => some .none
  | .bl b => some (.bool b)
  | .int i => some (.int i)
  | .str x => some (.str x)
  | .tup ds => (pys2 ds).map .tuple
  | .lst ds => (pys2 ds).map .list
  | .dct ks ds => (pks ks).bind fun kp => (pys2 ds).map fun ps => .dict (kp.zip ps)
  | _ => none
def pys2 : List D → Option (List PyData)
  | [] => some []
  | d :: ds => (py2 d).bind fun p => (pys2 ds).map (p :: ·)
end
section
variable {X : Cx} {σ : St} {H : Hp} {s : Shared} {pins : List (Addr × Obj)}
theorem not_sys {a : Addr} {o : Obj} {T : String} (I : Inv X pins σ H s) (hs : SysK X.K) (h : s.heap.get? a = some o) (hc : o.cls = .type T) (hT : T ≠ "dict") : a ≠ sysModules := by
  intro e
  obtain ⟨q, hq, hd⟩ := hs
  have h2 := I.kIn _ _ hq
  rw [e] at h
  rw [h] at h2
  cases h2
  rw [hc] at hd
  exact hT (by injection hd)
theorem pairs_read {h : Heap} : ∀ {kvs : List (Key × V)} {vs : List (Key × Value)} {ps : List PyData} {as : List Addr}, KV kvs vs → ReadsAll h (vs.map (·.2)) ps as → PairsRead h encK vs ((kvs.map fun p => encK p.1).zip ps) as
  | _, _, _, _, .nil, r => by cases r; exact .nil
  | _, _, _, _, .cons q t, r => by
    cases r with
    | cons r rr =>
      obtain ⟨e, _⟩ := q
      rw [List.map_cons, List.zip_cons_cons, e]
      exact .cons r (pairs_read t rr)
theorem kv_vals : ∀ {kvs : List (Key × V)} {vs : List (Key × Value)}, KV kvs vs → Vals (kvs.map (·.2)) (vs.map (·.2))
  | _, _, .nil => .nil
  | _, _, .cons q t => .cons q.2 (kv_vals t)
mutual
theorem rd2 (I : Inv X pins σ H s) (hs : SysK X.K) {F : Fp} : ∀ {d : D} {v : V} {u : Value} {p : PyData}, Rep X.K F H v d → RelV v u → py2 d = some p → ∃ as, Reads s.heap u p as ∧ sysModules ∉ as
  | .non, _, _, _, .non, r, e => by unfold py2 at e; cases e; cases r; exact ⟨_, Reads.none, by simp⟩
  | .bl b, _, _, _, .bl _, r, e => by unfold py2 at e; cases e; cases r; exact ⟨_, Reads.bool b, by simp⟩
  | .int b, _, _, _, .int _, r, e => by unfold py2 at e; cases e; obtain ⟨t, rfl⟩ := r; exact ⟨_, Reads.int b t, by simp⟩
  | .str b, _, _, _, .str _, r, e => by unfold py2 at e; cases e; obtain ⟨t, rfl⟩ := r; exact ⟨_, Reads.str b t, by simp⟩
  | .tup ds, _, _, _, .tup h r0, r, e => by
    unfold py2 at e
    cases q : pys2 ds with
    | none => rw [q] at e; cases e
    | some ps =>
      rw [q] at e; cases e
      cases r
      obtain ⟨its, rv, hit, _⟩ := I.tuple h.sq
      obtain ⟨o, ho, hc, n, hd⟩ := hit
      obtain ⟨as, ra, ha⟩ := rds2 I hs (F := F) r0 rv q
      exact ⟨_, Reads.tuple ho hc hd ra, ha⟩
  | .lst ds, _, _, _, .lst h r0, r, e => by
    unfold py2 at e
    cases q : pys2 ds with
    | none => rw [q] at e; cases e
    | some ps =>
      rw [q] at e; cases e
      cases r
      obtain ⟨its, rv, ⟨o, n, ho, hc, _, hd⟩, _⟩ := I.list h.sq
      obtain ⟨as, ra, ha⟩ := rds2 I hs (F := F) r0 rv q
      exact ⟨_, Reads.list ho hc hd ra, fun hm => (List.mem_cons.mp hm).elim (fun z => not_sys I hs ho hc (by decide) z.symm) ha⟩
  | .dct _ ds, _, _, _, .dK (kvs := kvs) hf h r0, r, e => by
    unfold py2 at e
    cases q : pys2 ds with
    | none => rw [q] at e; cases e2 : pks (kvs.map fun p => keyD p.1) <;> rw [e2] at e <;> cases e
    | some ps =>
      rw [q, show (kvs.map fun p => keyD p.1) = (kvs.map (·.1)).map keyD by simp, pks_key] at e
      cases e
      cases r
      obtain ⟨_, hm, vs, kv, hd⟩ := dk_of I.hok h
      obtain ⟨as, ra, ha⟩ := rds2 I hs (F := F) r0 (kv_vals kv) q
      have pr := pairs_read kv ra
      rw [show (kvs.map fun p => encK p.1) = (kvs.map (·.1)).map encK by simp] at pr
      refine ⟨_, reads_dictOf (fun k key hk => ?_) hd pr, fun hmm => (List.mem_cons.mp hmm).elim (fun z => (beq_eq_false_iff_ne.mp hm) z.symm) ha⟩
      rcases keyIs_shape hk with ⟨i, t, rfl, rfl⟩ | ⟨x, t, rfl, rfl⟩
      · exact Reads.int i t
      · exact Reads.str x t
  | .dct _ ds, _, _, _, .dX (es := es) _ ne _ _ _ _, r, e => by
    unfold py2 at e
    cases es with
    | nil => exact (ne rfl).elim
    | cons p es => simp [pks, pk] at e
theorem rds2 (I : Inv X pins σ H s) (hs : SysK X.K) {F : Fp} : ∀ {ds : List D} {vs : List V} {us : List Value} {ps : List PyData}, Reps X.K F H vs ds → Vals vs us → pys2 ds = some ps → ∃ as, ReadsAll s.heap us ps as ∧ sysModules ∉ as
  | [], _, _, _, .nil, r, e => by unfold pys2 at e; cases e; cases r; exact ⟨_, ReadsAll.nil, by simp⟩
  | d :: ds, _, _, _, .cons r0 t, r, e => by
    unfold pys2 at e
    cases q : py2 d with
    | none => rw [q] at e; cases e
    | some p =>
      rw [q] at e
      cases q2 : pys2 ds with
      | none =>
        have e' : (pys2 ds).map (p :: ·) = some _ := e
        rw [q2] at e'
        cases e'
      | some ps =>
        have e' : (pys2 ds).map (p :: ·) = some _ := e
        rw [q2] at e'
        cases e'
        cases r with
        | cons r1 r2 =>
          obtain ⟨as, q1, h1⟩ := rd2 I hs (F := F) r0 r1 q
          obtain ⟨bs, q2, h2⟩ := rds2 I hs (F := F) t r2 q2
          exact ⟨_, ReadsAll.cons q1 q2, fun hm => (List.mem_append.mp hm).elim h1 h2⟩
end
theorem rdW (I : Inv X pins σ H s) (hs : SysK X.K) {F0 F : Fp} {d : D} {v : V} {u : Value} {p : PyData} (w : RepW X.K F0 F H v d) (r : RelV v u) (e : py2 d = some p) : ∃ as, Reads s.heap u p as ∧ sysModules ∉ as := by
  cases w with
  | of w => exact rd2 I hs w r e
  | lst h r0 =>
    unfold py2 at e
    rename_i a vs ds
    cases q : pys2 ds with
    | none => rw [q] at e; cases e
    | some ps =>
      rw [q] at e; cases e
      cases r
      obtain ⟨its, rv, ⟨o, n, ho, hc, _, hd⟩, _⟩ := I.list h.sq
      obtain ⟨as, ra, ha⟩ := rds2 I hs (F := F) r0 rv q
      exact ⟨_, Reads.list ho hc hd ra, fun hm => (List.mem_cons.mp hm).elim (fun z => not_sys I hs ho hc (by decide) z.symm) ha⟩
  | dct nf h ob =>
    cases ob with
    | k r0 => exact rd2 I hs (F := fun _ => False) (.dK (fun z => z) h (r0.anti fun _ z => z.elim)) r e
    | @x o es ds ne _ _ _ =>
      unfold py2 at e
      cases es with
      | nil => exact (ne rfl).elim
      | cons p es => simp [pks, pk] at e
end
section
variable {X : Cx} {W : WX} {τ : Type} [Sto τ] {K : Fg}
def rRepr2 (K : Fg) : List V → Hp → VK → Prop := fun xs H Q => ∃ x F0 F d p, xs = [x] ∧ RepW K F0 F H x d ∧ py2 d = some p ∧ p.depth ≤ 16 ∧ p.showable = true ∧ p.shown.length ≤ sizeLine ∧ Q (.str p.shown) H
theorem call_repr2 {k : Nat} (hr : Room k X.A) (hgd : X.A.guards = some []) (hs : SysK X.K) : CallR X (.builtin "repr") (rRepr2 X.K) := by
  intro pins s σ H xs us Q I r h
  obtain ⟨x, F0, F, d, p, rfl, hx, e, dd, hw, hz, q⟩ := h
  cases r with
  | @cons _ u _ us rx rt =>
    cases rt
    obtain ⟨as, rd, hn⟩ := rdW I hs hx rx e
    have hu := hr.un
    have nd : p.hasDict = true → sysModules ∉ as := fun _ => hn
    cases rd with
    | none => exact PySem.P.repr_of_none ⟨.str "None", H, I.tok _, ⟨_, rfl⟩, by simpa only [PyData.shown] using q⟩
    | bool b => exact PySem.P.repr_of_bool ⟨.str (if b then "True" else "False"), H, I.tok _, ⟨_, rfl⟩, by simpa only [PyData.shown] using q⟩
    | int i t => exact PySem.P.repr_of_int (by simpa [PyData.showable] using hw) ⟨.str (toString i), H, I.tok _, ⟨_, rfl⟩, by simpa only [PyData.shown] using q⟩
    | str y t => exact PySem.P.repr_of_str ⟨.str (reprText y), H, I.tok _, ⟨_, rfl⟩, by simpa only [PyData.shown] using q⟩ (by simpa only [PyData.shown] using hz)
    | list h1 h2 h3 h4 => exact repr_of_reads' (.list h1 h2 h3 h4) hw nd hgd (by omega) (fun _ _ e => e) (fun h' u tk hk => ⟨.str _, H, I.kept hk, ⟨u, rfl⟩, q⟩) hz
    | tuple h1 h2 h3 h4 => exact repr_of_reads' (.tuple h1 h2 h3 h4) hw nd hgd (by omega) (fun _ _ e => e) (fun h' u tk hk => ⟨.str _, H, I.kept hk, ⟨u, rfl⟩, q⟩) hz
    | dict h1 h2 h3 h4 h5 => exact repr_of_reads' (.dict h1 h2 h3 h4 h5) hw nd hgd (by omega) (fun _ _ e => e) (fun h' u tk hk => ⟨.str _, H, I.kept hk, ⟨u, rfl⟩, q⟩) hz
def fRepr2 : List D → Option D
  | [d] => match py2 d with
    | some p => if p.depth ≤ 16 ∧ p.showable = true ∧ p.shown.length ≤ sizeLine then some (.str p.shown) else none
    | none => none
  | _ => none
theorem c_repr2 : DCall K (rRepr2 K) fRepr2 := fun F0 F H xs ds z Q dm r q k => by
  unfold fRepr2 at q
  split at q
  · split at q
    · rename_i d _ p e
      split at q
      · rename_i hc
        cases q
        obtain ⟨v, rfl, r1⟩ := r.one
        exact ⟨v, F0, F, d, p, rfl, r1, e, hc.1, hc.2.1, hc.2.2, k _ _ (Same.refl H) (.str _)⟩
      · cases q
    · cases q
  · cases q
end
section
variable {Q : D → Prop} {d : D}
end
end MM

namespace PySem
open Sem (wp)
section
variable {prog : Program} {w : World} {A : Around} {E : Value → Shared → Prop} {s : Shared}
theorem enumT_next_item_held {e it l T : Addr} {i : Nat} {items : Array Value} {x old : Value} {f : Bool} {oT : Obj} {Q : Value → Shared → Prop}
    (he : IsEnumHeld s.heap e it i old T f) (hT : s.heap.get? T = some oT) (hTe : T ≠ e) (hTi : T ≠ it) (hit : s.heap.IsTupleIter it l i) (hl : s.heap.IsTuple l items) (hx : items[i]? = some x) (hne : e ≠ it)
    (hQ : ∀ h', IsEnumHeld h' e it ((i : Int) + 1) old T true → h'.IsTupleIter it l (i + 1) →
      h'.get? s.heap.objs.size = some { cls := .type "tuple", data := .seq #[.int i s.toks, x] } → h'.objs.size = s.heap.objs.size + 1 →
      (∀ b o, b ≠ e → b ≠ it → s.heap.get? b = some o → h'.get? b = some o) → Q (.ref s.heap.objs.size) { s with heap := h', toks := s.toks + 1 }) :
    wpAny (model prog w) A (Builtin.«enumerate.__next__» ⟨[.ref e], []⟩) (fun fin s' => ∃ v, fin = .done (.ret v) ∧ Q v s') E s := by
  obtain ⟨hp, g, d, tk, os⟩ := s
  show wpAny _ _ (field (.ref e) 2 >>= _) _ _ _
  refine wpAny_bind (wpAny_field he rfl (x := .ref it) rfl ?_)
  refine wpAny_bind (wpAny_nextOf_tuple_item hit hl hx fun h₁ hit₁ hs₁ => ?_)
  replace hs₁ : Heap.SameBut it hp h₁ := hs₁
  have he₁ : IsEnumHeld h₁ e it i old T f := (hs₁.2 e hne).trans he
  show wpAny _ _ (field (.ref e) 3 >>= _) _ _ ⟨h₁, g, d, tk, os⟩
  refine wpAny_bind (wpAny_field he₁ rfl (x := rawInt i) rfl ?_)
  show wpAny _ _ (field (.ref e) 4 >>= _) _ _ ⟨h₁, g, d, tk, os⟩
  refine wpAny_bind (wpAny_field he₁ rfl (x := .none) rfl ?_)
  show wpAny _ _ (mkInt i >>= _) _ _ ⟨h₁, g, d, tk, os⟩
  refine wpAny_bind (wpAny_mkInt ?_)
  show wpAny _ _ (setField (.ref e) 3 (rawInt ((i : Int) + 1)) >>= _) _ _ ⟨h₁, g, d, tk + 1, os⟩
  refine wpAny_bind (wpAny_setField_rec he₁ (by simp) fun h₂ he₂ hs₂ => ?_)
  replace hs₂ : Heap.SameBut e h₁ h₂ := hs₂
  replace he₂ : IsEnumHeld h₂ e it ((i : Int) + 1) old T f := he₂
  show wpAny _ _ (setField (.ref e) 4 .none >>= _) _ _ ⟨h₂, g, d, tk + 1, os⟩
  refine wpAny_bind (wpAny_setField_rec he₂ (by simp) fun h₃ he₃ hs₃ => ?_)
  replace hs₃ : Heap.SameBut e h₂ h₃ := hs₃
  replace he₃ : IsEnumHeld h₃ e it ((i : Int) + 1) old T f := he₃
  show wpAny _ _ (newTuple [.int i tk, x] >>= _) _ _ ⟨h₃, g, d, tk + 1, os⟩
  refine wpAny_bind (wpAny_newTuple ?_)
  have he₄ : IsEnumHeld (h₃.push { cls := .type "tuple", data := .seq #[.int i tk, x] }) e it ((i : Int) + 1) old T f := Heap.get?_push_of_some _ he₃
  generalize hh₄ : h₃.push { cls := .type "tuple", data := .seq #[.int i tk, x] } = h₄ at he₄
  have hsz : h₃.objs.size = hp.objs.size := by rw [hs₃.1, hs₂.1, hs₁.1]
  have hel : e < hp.objs.size := Heap.lt_size he
  have ht₄ : h₄.get? hp.objs.size = some { cls := .type "tuple", data := .seq #[.int i tk, x] } := by rw [← hh₄, ← hsz]; exact Heap.get?_push_size _ rfl
  have hz₄ : h₄.objs.size = hp.objs.size + 1 := by rw [← hh₄, Heap.size_push, hsz]
  have hk₄ : ∀ b o, b ≠ e → b ≠ it → hp.get? b = some o → h₄.get? b = some o := fun b o hbe hbi hb => by
    rw [← hh₄]; exact Heap.get?_push_of_some _ (hs₃.extBut b o hbe (hs₂.extBut b o hbe (hs₁.extBut b o hbi hb)))
  have hit₄ : h₄.IsTupleIter it l (i + 1) := by
    rw [← hh₄]; obtain ⟨o, ho, r⟩ := (hit₁.extBut hs₂.extBut (Ne.symm hne)).extBut hs₃.extBut (Ne.symm hne); exact ⟨o, Heap.get?_push_of_some _ ho, r⟩
  show wpAny _ _ (Builtin.SmallTypes.ownedTupleIsFree (.ref e) >>= _) _ _ ⟨h₄, g, d, tk + 1, os⟩
  rw [hsz]
  clear hh₄ he₃ hs₃ he₂ hs₂ he₁ hs₁ hit₁ hsz h₃ h₂ h₁
  refine wpAny_bind (wpAny_tupleHeld_enum (s := ⟨h₄, g, d, tk + 1, os⟩) he₄ (hk₄ T oT hTe hTi hT) fun h₅ he₅ hs₅ => ?_)
  replace hs₅ : Heap.SameBut e h₄ h₅ := hs₅
  simp only [Bool.false_eq_true, if_false]
  refine wpAny_pure ⟨_, rfl, hQ h₅ he₅ (hit₄.extBut hs₅.extBut (Ne.symm hne)) (hs₅.extBut _ _ (Nat.ne_of_gt hel) ht₄) ?_ fun b o hbe hbi hb => hs₅.extBut b o hbe (hk₄ b o hbe hbi hb)⟩
  show h₅.objs.size = hp.objs.size + 1
  rw [hs₅.1, hz₄]
theorem pyNext_enumT_item_held {e it l T : Addr} {i : Nat} {items : Array Value} {x old : Value} {f : Bool} {oT : Obj} {Q : Option Value → Shared → Prop}
    (he : IsEnumHeld s.heap e it i old T f) (hT : s.heap.get? T = some oT) (hTe : T ≠ e) (hTi : T ≠ it) (hit : s.heap.IsTupleIter it l i) (hl : s.heap.IsTuple l items) (hx : items[i]? = some x) (hne : e ≠ it)
    (hQ : ∀ h', IsEnumHeld h' e it ((i : Int) + 1) old T true → h'.IsTupleIter it l (i + 1) →
      h'.get? s.heap.objs.size = some { cls := .type "tuple", data := .seq #[.int i s.toks, x] } → h'.objs.size = s.heap.objs.size + 1 →
      (∀ b o, b ≠ e → b ≠ it → s.heap.get? b = some o → h'.get? b = some o) → Q (some (.ref s.heap.objs.size)) { s with heap := h', toks := s.toks + 1 }) :
    wpAny (model prog w) A (pyNext (.ref e)) Q E s := by
  have hTy : s.TypeIs (.ref e) "enumerate" := ⟨_, he, rfl⟩
  unfold pyNext
  exact wpAny_bind (wpAny_attempt (wpAny_callSpecial?_slot (name := Str.ofString "__next__") hTy F.slot_enumerate_next
    (wpAny_call_entry F.slot_enumerate_next hTy F.entry_enumerate_next
      (enumT_next_item_held he hT hTe hTi hit hl hx hne fun h' a1 a2 a3 a4 a5 => wpAny_pure (hQ h' a1 a2 a3 a4 a5)) (F.args_enumerate_next_1 _))))
theorem pyNext_enumT_end_held {e it l T : Addr} {i : Nat} {items : Array Value} {old : Value} {f : Bool} {Q : Option Value → Shared → Prop} (hh : A.handled = none)
    (he : IsEnumHeld s.heap e it i old T f) (hit : s.heap.IsTupleIter it l i) (hl : s.heap.IsTuple l items) (hx : items[i]? = none)
    (hQ : ∀ h', Heap.ExtBut it s.heap h' → Q none { s with heap := h' }) : wpAny (model prog w) A (pyNext (.ref e)) Q E s := by
  have hTy : s.TypeIs (.ref e) "enumerate" := ⟨_, he, rfl⟩
  unfold pyNext
  refine wpAny_bind (wpAny_attempt (wpAny_callSpecial?_slot (name := Str.ofString "__next__") hTy F.slot_enumerate_next
    (wpAny_call_entry F.slot_enumerate_next hTy F.entry_enumerate_next ?_ (F.args_enumerate_next_1 _))))
  show wpAny _ _ (field (.ref e) 2 >>= _) _ _ _
  refine wpAny_bind (wpAny_field he rfl (x := .ref it) rfl ?_)
  refine wpAny_bind (wpAny_nextOf_tuple_end hh hit hl hx fun h' x he' hx' => ?_)
  obtain ⟨o, ho, hc⟩ := hx'
  exact wpAny_bind (wpAny_isInstance (T := "StopIteration") (b := true) ⟨o, ho, hc⟩ isSubtype_stop (wpAny_pure (hQ _ he')))
end
section
variable {prog : Program} {w : World}
theorem pairEnumT (e it l : Addr) (hei : e ≠ it) (hle : l ≠ e) (hli : l ≠ it) (items : Array Value) :
    PairArg prog w "enumerate" e [e, it, l] [e, it] items.size (fun i k v => (∃ t, k = .int i t) ∧ items[i]? = some v)
      (fun h => (∃ old, IsEnum h e it 0 old) ∧ h.IsTupleIter it l 0 ∧ h.IsTuple l items) where
  type := fun s ok => let ⟨⟨_, he⟩, _⟩ := ok; ⟨_, he, rfl⟩
  notDict := by decide
  keep := fun h h' ok hk => by
    obtain ⟨⟨old, he⟩, hit, hl⟩ := ok
    exact ⟨⟨old, hk _ _ he⟩, hit.at fun o x => hk _ o x, hl.at fun o x => hk _ o x⟩
  there := fun h ok b hb => by
    obtain ⟨⟨old, he⟩, ⟨o1, h1, _⟩, ⟨o2, h2, _⟩⟩ := ok
    simp only [List.mem_cons, List.not_mem_nil, or_false] at hb
    rcases hb with rfl | rfl | rfl
    all_goals first | exact ⟨_, he⟩ | exact ⟨_, h1⟩ | exact ⟨_, h2⟩
  sub := fun b hb => by simp at hb ⊢; rcases hb with rfl | rfl <;> simp
  noKeys := fun A s Q E hA ok h => let ⟨⟨_, he⟩, _⟩ := ok; getAttrOr_miss_enumerate he rfl rfl rfl enumerate_no_keys (by decide +kernel) hA h
  iter := fun A s d Q E hA ok hd hdf h => by
    obtain ⟨⟨old, he⟩, hit, hl⟩ := ok
    simp only [List.mem_cons, List.not_mem_nil, or_false, not_or] at hdf
    obtain ⟨de, dit, dl⟩ := hdf
    refine wpAny_pyIter_enum he (h e [e, it] (fun i h => h.IsTupleIter it l i ∧ h.IsTuple l items ∧ ((∃ old, IsEnum h e it i old) ∨ ∃ old T f oT, IsEnumHeld h e it i old T f ∧ h.get? T = some oT ∧ T ≠ e ∧ T ≠ it ∧ T ≠ d)) s.heap s.toks ?_
      ⟨hit, hl, .inl ⟨old, he⟩⟩ (fun _ _ e => e) fun b hb => .inl hb)
    exact {
      off := fun hm => by
        simp only [List.mem_cons, List.not_mem_nil, or_false] at hm
        rcases hm with x | x
        · exact de x
        · exact dit x
      frame := fun i h₁ h₂ st hk => by
        obtain ⟨hit, hl, he⟩ := st
        refine ⟨hit.at fun o x => hk _ o (Ne.symm dit) x, hl.at fun o x => hk _ o (Ne.symm dl) x, ?_⟩
        rcases he with ⟨old, he⟩ | ⟨old, T, f, oT, he, hT, r1, r2, r3⟩
        · exact .inl ⟨old, hk _ _ (Ne.symm de) he⟩
        · exact .inr ⟨old, T, f, oT, hk _ _ (Ne.symm de) he, hk _ _ r3 hT, r1, r2, r3⟩
      item := fun i s₁ Q₁ E₁ hi st hds hQ => by
        obtain ⟨hit, hl, he⟩ := st
        have ex := Array.getElem?_eq_getElem hi
        have ec : ((i + 1 : Nat) : Int) = (i : Int) + 1 := by omega
        have nit : s₁.heap.objs.size ≠ it := let ⟨_, x, _⟩ := hit; Nat.ne_of_gt (Heap.lt_size x)
        rcases he with ⟨old, he⟩ | ⟨old, T, f, oT, he, hT, r1, r2, r3⟩
        · have D := Draws.tuple (prog := prog) (w := w) (A := A.in1) hA it l hli items
          refine wpAny_pyNext_enum_itemD D he ⟨hit, hl⟩ hi hei (by simp only [List.mem_cons, List.not_mem_nil, or_false, not_or]; exact ⟨hei, fun z => hle z.symm⟩) fun y h' tk hy ho hst hT hsz hk => ?_
          have ey : items[i]? = some y := hy
          exact hQ s₁.heap.objs.size _ _ h' (tk + 1) ⟨⟨_, rfl⟩, ey⟩ (.inl ⟨_, hT, rfl, _, rfl⟩)
            ⟨hst.1, hl.at fun o x => hk l o hle hli x, .inr ⟨_, s₁.heap.objs.size, false, _, (by rw [ec]; exact ho), hT, Nat.ne_of_gt (Heap.lt_size he), nit, Nat.ne_of_gt hds⟩⟩
            fun b o hb x => hk b o (fun y => hb (by simp [y])) (fun y => hb (by simp [y])) x
        · refine pyNext_enumT_item_held he hT r1 r2 hit hl ex hei fun h' ho hit' hT' hsz hk => ?_
          exact hQ s₁.heap.objs.size _ _ h' (s₁.toks + 1) ⟨⟨_, rfl⟩, ex⟩ (.inl ⟨_, hT', rfl, _, rfl⟩)
            ⟨hit', hl.at fun o x => hk l o hle hli x, .inr ⟨old, T, true, oT, (by rw [ec]; exact ho), hk _ _ r1 r2 hT, r1, r2, r3⟩⟩
            fun b o hb x => hk b o (fun y => hb (by simp [y])) (fun y => hb (by simp [y])) x
      done := fun s₁ Q₁ E₁ st hQ => by
        obtain ⟨hit, hl, he⟩ := st
        have hx : items[items.size]? = none := Array.getElem?_eq_none (Nat.le_refl _)
        rcases he with ⟨old, he⟩ | ⟨old, T, f, oT, he, hT, r1, r2, r3⟩
        · exact MM.pyNext_enumT_end hA he hit hl hx fun h' hk => hQ h' s₁.toks fun b o hb x => hk b o (fun y => hb (by simp [y])) x
        · exact pyNext_enumT_end_held hA he hit hl hx fun h' hk => hQ h' s₁.toks fun b o hb x => hk b o (fun y => hb (by simp [y])) x }
end
end PySem
namespace MM
open PySem PySem.Spec PyProof.Rows L2
section
variable {X : Cx} {W : WX} {τ : Type} [Sto τ] {K : Fg}
def ksTo (n : Nat) : List Key := (List.range n).map fun (i : Nat) => (Sum.inl (i : Int) : Key)
theorem ksTo_len (n : Nat) : (ksTo n).length = n := by simp [ksTo]
theorem ksTo_at {n i : Nat} (h : i < n) : (ksTo n)[i]? = some (Sum.inl (i : Int)) := by simp [ksTo, h]
theorem ksTo_nodup (n : Nat) : (ksTo n).Nodup := List.nodup_range.map _ fun (a b : Nat) h z => h (by injection z with z; omega)
def tDEnum (K : Fg) (ta : TA) : TE := fun σ H Q => ta σ H fun vs H1 => ∃ (a : Addr) (ys : List V), vs = [.ref a] ∧ SqT K H1 a ys ∧ ∀ p, H1 p = none → Q (.ref p) (upd H1 p (.dK (mergeK [] ((ksTo ys.length).zip ys))))
theorem pe_denum {e : Expr} {ta : TA} {p p2 pos pos2 : Pos} (hc : X.calm = true) (hg : Gl X "dict") (hm : X.mg "dict" = none) (hg2 : Gl X "enumerate") (hm2 : X.mg "enumerate" = none) (ha : PA X [e] ta)
    (hs : starEach [.Call (.Name "enumerate" p2) [e] [] pos2] X.env = (false, eval (.Call (.Name "enumerate" p2) [e] [] pos2) X.env) :: starEach [] X.env := by rfl)
    (hs2 : starEach [e] X.env = [(false, eval e X.env)] := by rfl) :
    PE X (.Call (.Name "dict" p) [.Call (.Name "enumerate" p2) [e] [] pos2] [] pos) (tDEnum X.K ta) := by
  refine ⟨fun pins s σ H Q I h => ?_⟩
  refine Call_ (ld_blt I hg hm PyProof.Rows.boot_dict (PyProof.Rows.callWith_type1 (args_cons (Call_ (ld_blt I hg2 hm2 boot_enumerate (PyProof.Rows.callWith_type1 (thn (ha.run pos2 pins s σ H _ I h) fun us s1 ⟨vs, H1, I1, r1, q1⟩ => ?_) hs2 rfl))) hs) hs rfl))
  obtain ⟨a, ys, ex, hq, q⟩ := q1
  subst ex
  rw [Vals.ref1 r1]
  obtain ⟨its, rv, p1, hz⟩ := I1.tuple hq
  have hob := p1
  obtain ⟨ob, hob, hc', n, hd⟩ := hob
  have l1 : its.length = ys.length := rv.length.symm
  have lt : a < s1.heap.objs.size := Heap.lt_size hob
  refine callType_new F.called_enumerate (by decide) (F.typeCall_enumerate_1 _) (F.newCall_enumerate_1 _) (fun obj => F.args_object_init_2 obj _) F.entry_enumerate_new
    (mEnumT a ob its.toArray hc' fun h e => ⟨ob, e, hc', n, hd⟩) ⟨hob, ?_⟩
  have sz : (s1.heap.push { cls := .type "tuple_iterator", data := .fields #[.ref a, .int 0 0] }).objs.size = s1.heap.objs.size + 1 := Heap.size_push ..
  show _ ∧ _
  rw [sz]
  have he := Heap.get?_push_size (s1.heap.push { cls := .type "tuple_iterator", data := .fields #[.ref a, .int 0 0] }) (o := { cls := .type "enumerate", data := .fields #[.none, .bool false, .ref s1.heap.objs.size, rawInt 0, .none, .none] }) rfl
  rw [sz] at he
  have keep : ∀ b o, s1.heap.get? b = some o → ((s1.heap.push { cls := .type "tuple_iterator", data := .fields #[.ref a, .int 0 0] }).push { cls := .type "enumerate", data := .fields #[.none, .bool false, .ref s1.heap.objs.size, rawInt 0, .none, .none] }).get? b = some o := fun b o x => Heap.get?_push_of_some _ (Heap.get?_push_of_some _ x)
  have hit : ((s1.heap.push { cls := .type "tuple_iterator", data := .fields #[.ref a, .int 0 0] }).push { cls := .type "enumerate", data := .fields #[.none, .bool false, .ref s1.heap.objs.size, rawInt 0, .none, .none] }).get? s1.heap.objs.size = some { cls := .type "tuple_iterator", data := .fields #[.ref a, .int 0 0] } := Heap.get?_push_of_some _ (Heap.get?_push_size _ rfl)
  have hsz : ((s1.heap.push { cls := .type "tuple_iterator", data := .fields #[.ref a, .int 0 0] }).push { cls := .type "enumerate", data := .fields #[.none, .bool false, .ref s1.heap.objs.size, rawInt 0, .none, .none] }).objs.size = s1.heap.objs.size + 2 := by rw [Heap.size_push, sz]
  generalize (s1.heap.push { cls := .type "tuple_iterator", data := .fields #[.ref a, .int 0 0] }).push { cls := .type "enumerate", data := .fields #[.none, .bool false, .ref s1.heap.objs.size, rawInt 0, .none, .none] } = h' at he keep hit hsz ⊢
  have hen : IsEnum h' (s1.heap.objs.size + 1) s1.heap.objs.size 0 .none := he
  refine ⟨⟨_, he, rfl⟩, args_nil ?_⟩
  refine PySem.call_dict_pairs (knd := mixKind X.prog X.w) (kvs := (ksTo ys.length).zip its) (PySem.pairEnumT (s1.heap.objs.size + 1) s1.heap.objs.size a (Nat.succ_ne_self _) (Nat.ne_of_lt (Nat.lt_succ_of_lt lt)) (Nat.ne_of_lt lt) its.toArray) (I1.ok.hd hc) ⟨⟨_, hen⟩, ⟨_, hit, rfl, rfl⟩, ⟨ob, keep _ _ hob, hc', n, hd⟩⟩ ?_ ?_ ?_
  · refine ⟨by rw [List.length_zip, ksTo_len]; simp; omega, fun i key v hh => ?_⟩
    obtain ⟨⟨t, rfl⟩, h4⟩ := hh
    have h4 : its[i]? = some v := by simpa using h4
    have hi := (List.getElem?_eq_some_iff.mp h4).1
    exact ⟨Sum.inl (i : Int), by rw [List.getElem?_zip_eq_some]; exact ⟨ksTo_at (by omega), h4⟩, keyIs_int _ t⟩
  · simp
    omega
  · intro h2 tk hd' hk'
    have rel : KV ((ksTo ys.length).zip ys) ((ksTo ys.length).zip its) := by
      have : ∀ (ks : List Key) (ys : List V) (us : List Value), Vals ys us → KV (ks.zip ys) (ks.zip us) := by
        intro ks
        induction ks with
        | nil => intro ys us _; exact .nil
        | cons k ks ih =>
          intro ys us r
          cases r with
          | nil => exact .nil
          | cons r t => exact .cons ⟨rfl, r⟩ (ih _ _ t)
      exact this (ksTo ys.length) ys its rv
    have le5 : s1.heap.objs.size ≤ h'.objs.size := by rw [hsz]; exact Nat.le_add_right _ _
    have hm : (h'.objs.size == sysModules) = false := beq_eq_false_iff_ne.mpr (Nat.ne_of_gt (Nat.lt_of_lt_of_le I1.big le5))
    have hlen : (mergeK [] ((ksTo ys.length).zip ys)).length ≤ sizeLine := by
      refine Nat.le_trans (length_mergeK _ []) ?_
      rw [List.length_nil, Nat.zero_add, List.length_zip, ksTo_len]
      omega
    have kp : ∀ b o, s1.heap.get? b = some o → h2.get? b = some o := fun b o e => by
      have hb := Heap.lt_size e
      refine hk' b o (fun z => ?_) (keep b o e)
      simp only [List.mem_cons, List.not_mem_nil, or_false] at z
      rcases z with z | z
      · exact (Nat.ne_of_lt (Nat.lt_of_lt_of_le hb (Nat.le_add_right _ _))) z
      · exact (Nat.ne_of_lt hb) z
    exact ⟨.ref h'.objs.size, upd H1 h'.objs.size (.dK (mergeK [] ((ksTo ys.length).zip ys))), I1.laid (t' := tk) kp le5 (show ObjOk X.prog X.w _ _ _ (.dK (mergeK [] ((ksTo ys.length).zip ys))) from ⟨hlen, hm, merged [] ((ksTo ys.length).zip its), KV.merge rel .nil, hd'⟩), rfl, q _ (I1.hok.fresh le5)⟩
def fDEnum : List D → Option D
  | [.tup ds] => some (.dct ((List.range ds.length).map fun (i : Nat) => D.int (i : Int)) ds)
  | _ => none
theorem me_denum {e : Expr} {m : ME τ (List D)} {p p2 pos pos2 : Pos} (hc : X.calm = true) (hg : Gl X "dict") (hm : X.mg "dict" = none) (hg2 : Gl X "enumerate") (hm2 : X.mg "enumerate" = none) (ha : PA X [e] (tA X.K W m))
    (hs : starEach [.Call (.Name "enumerate" p2) [e] [] pos2] X.env = (false, eval (.Call (.Name "enumerate" p2) [e] [] pos2) X.env) :: starEach [] X.env := by rfl)
    (hs2 : starEach [e] X.env = [(false, eval e X.env)] := by rfl) :
    PE X (.Call (.Name "dict" p) [.Call (.Name "enumerate" p2) [e] [] pos2] [] pos) (tE X.K W (e1 fDEnum m)) := PE.imp (pe_denum hc hg hm hg2 hm2 ha hs hs2) fun σ H Q ⟨C, ρ, t, A, p⟩ => by
  refine use okE A p fun ds t1 vs H1 e1 s1 A1 r1 p1 => ?_
  unfold fDEnum at p1
  split at p1
  · cases r1 with
    | cons ra rr =>
      cases rr
      cases ra with
      | tup h r =>
        rename_i ds a ys
        refine ⟨a, ys, rfl, h.sq, fun q nq => ?_⟩
        rw [mergeK_new _ [] (by rw [List.map_nil, List.nil_append, zip_fst (by rw [ksTo_len])]; exact ksTo_nodup _), List.nil_append]
        have same : Same H1 (upd H1 q (.dK ((ksTo ys.length).zip ys))) := same_upd nq
        refine p1 _ _ (Sm.of_same same) (C.stay A1.st same) ?_
        have key := Rep.dK (K := X.K) (F := Fo C.F ρ σ) (H := upd H1 q (.dK ((ksTo ys.length).zip ys))) (a := q) (kvs := (ksTo ys.length).zip ys) (ds := ds) (fun z => A1.dom q z nq) upd_same (by rw [zip_snd (by rw [ksTo_len])]; exact r.same (Sm.of_same same))
        have e2 : ((ksTo ys.length).zip ys).map (fun p => keyD p.1) = (List.range ds.length).map fun (i : Nat) => D.int (i : Int) := by
          have := congrArg (List.map keyD) (zip_fst (a := ksTo ys.length) (b := ys) (by rw [ksTo_len]))
          rw [List.map_map] at this
          rw [← r.length]
          refine this.trans ?_
          rw [ksTo, List.map_map]
          rfl
        rw [e2] at key
        exact key
  · exact p1.elim
end
end MM

namespace MM
open PySem PySem.Spec PyProof.Rows L2
section
variable {X : Cx} {τ : Type} [Sto τ] {K : Fg}
def gTB (gs : Tgts) : Tgt := fun ρ d => match d with
  | .tup ds => gs ρ ds
  | .lst ds => gs ρ ds
  | _ => none
@[simp] theorem gTB_tup {gs : Tgts} {ρ : Rho} {ds : List D} : gTB gs ρ (.tup ds) = gs ρ ds := rfl
@[simp] theorem gTB_lst {gs : Tgts} {ρ : Rho} {ds : List D} : gTB gs ρ (.lst ds) = gs ρ ds := rfl
theorem PG.or {e : Expr} {t t' : TG} (h : PG X e t) (h' : PG X e t') : PG X e (fun v σ H Q => t v σ H Q ∨ t' v σ H Q) := ⟨fun pins s σ H v u Q I r q => q.elim (h.run pins s σ H v u Q I r) (h'.run pins s σ H v u Q I r)⟩
theorem mg_tupB {es : List Expr} {k n : Nat} {pos : Pos} {gs : Tgts} (hc : X.calm = true) (hg : glen gs n) {vs : List Nat} (h : PGs X es (tTgs τ X.K gs vs)) (hn : (assignEach es X.env).length = n := by rfl) (hst : (assignEach es X.env).findIdx? (·.1) = none := by rfl) :
    PG X (.Tuple es k pos) (tTg τ X.K (gTB gs) vs) := PG.imp (PG.or (mg_tup hc hg h hn hst) (mg_tupL hc hg h hn hst)) fun v σ H Q ⟨C, ρ, t, d, A, r, ρ', e, k⟩ => by
  cases d with
  | tup ds => exact .inl ⟨C, ρ, t, _, A, r, ρ', e, k⟩
  | lst ds => exact .inr ⟨C, ρ, t, _, A, r, ρ', e, k⟩
  | _ => cases e
@[simp] theorem oS_asgTB {gs : Tgts} {m : ME τ D} {ρ : Rho} {t : τ} {P : Pt τ} : oS (sAsg (gTB gs) m ρ t) P = oE (m ρ t) (fun d t => ∃ ρ', gTB gs ρ d = some ρ' ∧ P.nx ρ' t) (fun n fs t => P.ex n fs ρ t) := oS_asgG
end
end MM

noncomputable section
namespace MM
open PySem PySem.Spec PyProof.Rows L2
def b_is_whole : MS Unit :=
  (sRet (eAnd2 (e1 fIsi (aCons (eVarW 0) (aCons (eC (.ty "int")) aNil))) (eNot1 (e1 fIsi (aCons (eVarW 0) (aCons (eC (.ty "bool")) aNil))))))
def m_is_whole : List D → Unit → Res Unit D := runB 1 b_is_whole
def b_look_corner : MS Unit :=
  (sSeq (sIf (tOr2 (tNot1 (e1 truth (e1 (fun d => (isi2 d "list" "tuple").map .bl) (eVarW 0)))) (e1 asB (e2 dNe (e1 fLen (aCons (eVarW 0) aNil)) (eC (.int 2))))) (sRaise "BadShape") sSkip)
  (sSeq (sFor (e1 itD (eVar 0)) (gN 1) (sIf (tOr2 (tNot1 (e1 truth (eCall (noEx1 m_is_whole) [] (aCons (eVar 1) aNil)))) (tNot1 (e1 asB (eChain dLe dLe (e1 dNeg (eC (.int 1000000))) (eVarW 1) (eC (.int 1000000)))))) (sRaise "BadShape") sSkip))
  (sRet (e1 fTup (aCons (eVarW 0) aNil)))))
def m_look_corner : List D → Unit → Res Unit D := runB 2 b_look_corner
def b_is_left : MS Unit :=
  (sSeq (sAsg (gT (gCons (gT (gCons (gN 3) (gCons (gN 4) gNil))) (gCons (gT (gCons (gN 5) (gCons (gN 6) gNil))) (gCons (gT (gCons (gN 7) (gCons (gN 8) gNil))) gNil)))) (eTup (aCons (eVar 0) (aCons (eVar 1) (aCons (eVar 2) aNil)))))
  (sRet (e2 dGt (e2 dSub (e2 dMulI (e2 dSub (eVarW 5) (eVarW 3)) (e2 dSub (eVarW 8) (eVarW 4))) (e2 dMulI (e2 dSub (eVarW 6) (eVarW 4)) (e2 dSub (eVarW 7) (eVarW 3)))) (eC (.int 0)))))
def m_is_left : List D → Unit → Res Unit D := runB 9 b_is_left
def b_look_shape : MS Unit :=
  (sSeq (sIf (tOr2 (tNot1 (e1 truth (e1 (fun d => (isi2 d "list" "tuple").map .bl) (eVarW 0)))) (tNot1 (e1 asB (eChain dLe dLe (eC (.int 3)) (e1 fLen (aCons (eVarW 0) aNil)) (eC (.int 8)))))) (sRaise "BadShape") sSkip)
  (sSeq (sAsg (gN 1) (eLst (eCompX (e1 itD (eVar 0)) [8] (gN 8) (fun _ t => .ok true t) (eCall m_look_corner [] (aCons (eVar 8) aNil)))))
  (sSeq (sAsg (gN 2) (e1 fLen (aCons (eVarW 1) aNil)))
  (sSeq (sFor (e1 fEnum2 (aCons (eVar 1) aNil)) (gT (gCons (gN 3) (gCons (gN 4) gNil))) (sSeq (sAsg (gN 5) (e2 dMod (e2 dAdd (eVarW 3) (eC (.int 1))) (eVarW 2)))
  (sSeq (sAsg (gN 6) (eLst (eComp (e1 fEnum2 (aCons (eVar 1) aNil)) [9, 10] (gT (gCons (gN 9) (gCons (gN 10) gNil))) (tAnd2 (e1 asB (e2 dNe (eVarW 9) (eVarW 3))) (e1 asB (e2 dNe (eVarW 9) (eVarW 5)))) (eVar 10))))
  (sIf (tNot1 (e1 truth (e1 fAll (aCons (eLst (eComp (e1 itD (eVar 6)) [10] (gN 10) (fun _ t => .ok true t) (eCall (noEx1 m_is_left) [] (aCons (eVar 4) (aCons (e2 dIx (eVarW 1) (eVarW 5)) (aCons (eVar 10) aNil)))))) aNil)))) (sRaise "BadShape") sSkip))))
  (sSeq (sAsg (gN 7) (eIdx (eVarW 1) (e1 fMinD (aCons (eVarW 1) aNil))))
  (sRet (e1 fTup (aCons (e2 dAdd (eLst (e3 dCutL (eVarW 1) (oSome (eVar 7)) oNone)) (eLst (e3 dCutL (eVarW 1) oNone (oSome (eVar 7))))) aNil))))))))
def m_look_shape : List D → Unit → Res Unit D := runB 11 b_look_shape
def b__law_cell : MS Unit :=
  (sSeq (sIf (e1 asB (e2 dEq (e1 fLen (aCons (eVarW 0) aNil)) (eC (.int 0)))) (sRet (e2 dAdd (e2 dMulI (eC (.int 7)) (eVarW 1)) (eC (.int 3)))) sSkip)
  (sRet (e1 fAbs (aCons (e2 dIx (eVarW 0) (e2 dMod (eVarW 1) (e1 fLen (aCons (eVarW 0) aNil)))) aNil))))
def m__law_cell : List D → Unit → Res Unit D := runB 2 b__law_cell
def b__law_mixed : MS Unit :=
  (sSeq (sAsg (gN 3) (e2 dMod (e2 dPow (e2 dAdd (e2 dMulI (e2 dAdd (e2 dMod (eCall m__law_cell [] (aCons (eVar 0) (aCons (eVar 1) aNil))) (eC (.int 1000003))) (eC (.int 5))) (e2 dAdd (eVarW 1) (eC (.int 2)))) (e2 dMulI (eC (.int 7919)) (eVarW 1))) (eC (.int 5))) (eC (.int 2147483647))))
  (sRet (e2 dMod (e2 dDiv (eVarW 3) (eC (.int 13))) (eVarW 2))))
def m__law_mixed : List D → Unit → Res Unit D := runB 4 b__law_mixed
def b__law_deck : MSd :=
  (retD 0 (eComp (e1 itD (eVar 0)) [1] (gN 1) (e1 asB (e2 dGe (e1 fAbs (aCons (eVarW 1) aNil)) (e2 dPow (eC (.int 10)) (eC (.int 18))))) (e1 fAbs (aCons (eVarW 1) aNil))))
def m__law_deck : List D → Option (D × List Int) := runD 2 b__law_deck
def b__law_take : MS Dk :=
  (sSeq (sWhile (e1 asB (e2 dLt (eDk 0 2) (eDkLen 0))) (sSeq (sAsg (gN 2) (eDkAt 0))
  (sSeq (sIf (e1 asB (e2 dGt (eVarW 2) (eC (.int 0)))) (sSeq (sDkBig 0 (e2 dDiv (eVarW 2) (eVarW 1)))
  (sRet (e2 dMod (eVarW 2) (eVarW 1)))) sSkip)
  (sDkSet 0 2 (e2 dAdd (eDk 0 2) (eC (.int 1)))))))
  (sSeq (sDkSet 0 3 (e2 dAdd (eDk 0 3) (eC (.int 1))))
  (sRet (eCall m__law_mixed [] (aCons (eDk 0 0) (aCons (eDk 0 3) (aCons (eVar 1) aNil)))))))
def m__law_take : List D → Dk → Res Dk D := runB 3 b__law_take
def b__law_left : MS Unit :=
  (sRet (e2 dSub (e2 dMulI (e2 dSub (e2 dIx (eVarW 1) (eC (.int 0))) (e2 dIx (eVarW 0) (eC (.int 0)))) (e2 dSub (e2 dIx (eVarW 2) (eC (.int 1))) (e2 dIx (eVarW 0) (eC (.int 1))))) (e2 dMulI (e2 dSub (e2 dIx (eVarW 1) (eC (.int 1))) (e2 dIx (eVarW 0) (eC (.int 1)))) (e2 dSub (e2 dIx (eVarW 2) (eC (.int 0))) (e2 dIx (eVarW 0) (eC (.int 0)))))))
def m__law_left : List D → Unit → Res Unit D := runB 3 b__law_left
def b__law_half : MS Unit :=
  (sSeq (sAsg (gN 1) (eLst (e1 lim aNil)))
  (sSeq (sFor (e1 itD (eVar 0)) (gN 2) (sSeq (sWhile (tAnd2 (e1 asB (e2 dGt (e1 fLen (aCons (eVarW 1) aNil)) (eC (.int 1)))) (e1 asB (e2 dLe (eCall m__law_left [] (aCons (e2 dIx (eVarW 1) (e1 dNeg (eC (.int 2)))) (aCons (e2 dIx (eVarW 1) (e1 dNeg (eC (.int 1)))) (aCons (eVar 2) aNil)))) (eC (.int 0))))) (sAsg (gN 1) (eLst (e3 dCutL (eVarW 1) oNone (oSome (e1 dNeg (eC (.int 1))))))))
  (sAsg (gN 1) (e2 dAdd (eVarW 1) (eLst (e1 lim (aCons (eVar 2) aNil)))))))
  (sRet (eLst (e3 dCutL (eVarW 1) oNone (oSome (e1 dNeg (eC (.int 1)))))))))
def m__law_half : List D → Unit → Res Unit D := runB 3 b__law_half
def b__law_hull : MS Unit :=
  (sSeq (sAsg (gN 1) (eLst (e1 fSortD (aCons (eVarW 0) aNil))))
  (sSeq (sAsg (gN 2) (e1 fTup (aCons (e2 dAdd (eCall m__law_half [] (aCons (eVar 1) aNil)) (eCall m__law_half [] (aCons (eLst (e1 dRev (eVarW 1))) aNil))) aNil)))
  (sSeq (sIf (e1 asB (e2 dLt (e1 fLen (aCons (eVarW 2) aNil)) (eC (.int 3)))) (sRet (eTup (aCons (eTup (aCons (eC (.int 0)) (aCons (eC (.int 0)) aNil))) (aCons (eTup (aCons (eC (.int 2)) (aCons (eC (.int 0)) aNil))) (aCons (eTup (aCons (eC (.int 0)) (aCons (eC (.int 2)) aNil))) aNil))))) sSkip)
  (sRet (eVar 2)))))
def m__law_hull : List D → Unit → Res Unit D := runB 3 b__law_hull
def b__law_shape : MS Dk :=
  (sSeq (sAsg (gN 1) (eCallS m__law_take [] (aCons (eVar 0) (aCons (eC (.int 4)) aNil))))
  (sSeq (sAsg (gN 2) (e2 dIx (eLst (e1 lim (aCons (eC (.int 4)) (aCons (eC (.int 30)) (aCons (eC (.int 1000000)) aNil))))) (eCallS m__law_take [] (aCons (eVar 0) (aCons (eC (.int 3)) aNil)))))
  (sSeq (sIf (e1 asB (e2 dEq (eVarW 1) (eC (.int 0)))) (sSeq (sAsg (gN 3) (e2 dAdd (eC (.int 1)) (eCallS m__law_take [] (aCons (eVar 0) (aCons (eVar 2) aNil)))))
  (sSeq (sAsg (gN 4) (e2 dAdd (eC (.int 1)) (eCallS m__law_take [] (aCons (eVar 0) (aCons (eVar 2) aNil)))))
  (sRet (eTup (aCons (eTup (aCons (eC (.int 0)) (aCons (eC (.int 0)) aNil))) (aCons (eTup (aCons (eVar 3) (aCons (eC (.int 0)) aNil))) (aCons (eTup (aCons (eVar 3) (aCons (eVar 4) aNil))) (aCons (eTup (aCons (eC (.int 0)) (aCons (eVar 4) aNil))) aNil)))))))) sSkip)
  (sSeq (sIf (e1 asB (e2 dEq (eVarW 1) (eC (.int 1)))) (sSeq (sAsg (gN 3) (e2 dAdd (eC (.int 1)) (eCallS m__law_take [] (aCons (eVar 0) (aCons (eC (.int 9)) aNil)))))
  (sSeq (sAsg (gN 4) (e2 dAdd (eC (.int 1)) (eCallS m__law_take [] (aCons (eVar 0) (aCons (eC (.int 99)) aNil)))))
  (sRet (eCall m__law_hull [] (aCons (eLst (eComp (e1 fRng2 (aCons (e1 dNeg (eC (.int 4))) (aCons (eC (.int 4)) aNil))) [7] (gN 7) (fun _ t => .ok true t) (eTup (aCons (e2 dMulI (e2 dMulI (eVarW 3) (eVarW 7)) (eVarW 7)) (aCons (e2 dMulI (eVarW 4) (eVarW 7)) aNil))))) aNil))))) sSkip)
  (sSeq (sOwn 5 (e1 lim (aCons (eTup (aCons (eVar 2) (aCons (eC (.int 0)) aNil))) (aCons (eTup (aCons (eC (.int 0)) (aCons (eVar 2) aNil))) (aCons (eTup (aCons (e1 dNeg (eVarW 2)) (aCons (eC (.int 0)) aNil))) (aCons (eTup (aCons (eC (.int 0)) (aCons (e1 dNeg (eVarW 2)) aNil))) aNil))))))
  (sSeq (sFor (e1 fRng1 (aCons (e2 dIx (eLst (e1 lim (aCons (eC (.int 4)) (aCons (eC (.int 8)) aNil)))) (e2 dSub (eVarW 1) (eC (.int 2)))) aNil)) (gN 6) (sApp 5 (eTup (aCons (e2 dSub (eCallS m__law_take [] (aCons (eVar 0) (aCons (e2 dAdd (e2 dMulI (eC (.int 2)) (eVarW 2)) (eC (.int 1))) aNil))) (eVarW 2)) (aCons (e2 dSub (eCallS m__law_take [] (aCons (eVar 0) (aCons (e2 dAdd (e2 dMulI (eC (.int 2)) (eVarW 2)) (eC (.int 1))) aNil))) (eVarW 2)) aNil)))))
  (sFrz 5 (sRet (eCall m__law_hull [] (aCons (eLst (e3 dCutL (eVarW 5) (oSome (e1 dNeg (eC (.int 8)))) oNone)) aNil))))))))))
def m__law_shape : List D → Dk → Res Dk D := runB 8 b__law_shape
def b__law_form : MS Unit :=
  (sSeq (sIf (tOr2 (tNot1 (e1 truth (e1 (fun d => (isi2 d "list" "tuple").map .bl) (eVarW 0)))) (tOr2 (e1 asB (e2 dLt (e1 fLen (aCons (eVarW 0) aNil)) (eC (.int 3)))) (e1 asB (e2 dGt (e1 fLen (aCons (eVarW 0) aNil)) (eC (.int 8)))))) (sRet (eC .non)) sSkip)
  (sSeq (sFor (e1 itD (eVar 0)) (gN 1) (sSeq (sIf (tOr2 (tNot1 (e1 truth (e1 (fun d => (isi2 d "list" "tuple").map .bl) (eVarW 1)))) (e1 asB (e2 dNe (e1 fLen (aCons (eVarW 1) aNil)) (eC (.int 2))))) (sRet (eC .non)) sSkip)
  (sFor (e1 itD (eVar 1)) (gN 2) (sIf (tOr2 (tNot1 (e1 truth (e1 fIsi (aCons (eVarW 2) (aCons (eC (.ty "int")) aNil))))) (tOr2 (e1 truth (e1 fIsi (aCons (eVarW 2) (aCons (eC (.ty "bool")) aNil)))) (e1 asB (e2 dGt (e1 fAbs (aCons (eVarW 2) aNil)) (eC (.int 1000000)))))) (sRet (eC .non)) sSkip))))
  (sSeq (sAsg (gN 3) (eLst (eComp (e1 itD (eVar 0)) [1] (gN 1) (fun _ t => .ok true t) (e1 fTup (aCons (eVarW 1) aNil)))))
  (sSeq (sAsg (gN 4) (e1 fLen (aCons (eVarW 3) aNil)))
  (sSeq (sFor (e1 fEnum2 (aCons (eVar 3) aNil)) (gT (gCons (gN 5) (gCons (gN 6) gNil))) (sSeq (sAsg (gN 7) (e2 dIx (eVarW 3) (e2 dMod (e2 dAdd (eVarW 5) (eC (.int 1))) (eVarW 4))))
  (sFor (e1 fEnum2 (aCons (eVar 3) aNil)) (gT (gCons (gN 8) (gCons (gN 9) gNil))) (sIf (tAnd2 (e1 asB (e2 dNe (eVarW 8) (eVarW 5))) (tAnd2 (e1 asB (e2 dNe (eVarW 8) (e2 dMod (e2 dAdd (eVarW 5) (eC (.int 1))) (eVarW 4)))) (e1 asB (e2 dLe (eCall m__law_left [] (aCons (eVar 6) (aCons (eVar 7) (aCons (eVar 9) aNil)))) (eC (.int 0)))))) (sRet (eC .non)) sSkip))))
  (sSeq (sAsg (gN 5) (eIdx (eVarW 3) (e1 fMinD (aCons (eVarW 3) aNil))))
  (sRet (e1 fTup (aCons (e2 dAdd (eLst (e3 dCutL (eVarW 3) (oSome (eVar 5)) oNone)) (eLst (e3 dCutL (eVarW 3) oNone (oSome (eVar 5))))) aNil)))))))))
def m__law_form : List D → Unit → Res Unit D := runB 10 b__law_form
def b__law_no_corner : MS Dk :=
  (sSeq (sAsg (gN 3) (eLst (e1 lim (aCons (eTup (aCons (eVar 1) aNil)) (aCons (eTup (aCons (eVar 1) (aCons (eVar 2) (aCons (eC (.int 0)) aNil)))) (aCons (eC .non) (aCons (eVar 1) (aCons (eC (.str "00")) (aCons (eTup (aCons (eC (.bl true)) (aCons (eVar 2) aNil))) (aCons (eTup (aCons (eVar 1) (aCons (eC (.str "0")) aNil))) (aCons eDct0 (aCons (eLst (e1 lim aNil)) (aCons (eTup (aCons (eTup (aCons (eVar 1) aNil)) (aCons (eVar 2) aNil))) (aCons (eTup (aCons (eC (.int 1000001)) (aCons (eVar 2) aNil))) (aCons (eTup (aCons (eVar 1) (aCons (e1 dNeg (eC (.int 1000001))) aNil))) aNil)))))))))))))))
  (sRet (e2 dIx (e2 dAdd (eVarW 3) (eLst (e1 lim (aCons (eTup (aCons (eVar 1) (aCons (e2 dPow (eC (.int 10)) (eC (.int 60))) aNil))) (aCons (eLst (e1 lim (aCons (e1 dNeg (e2 dPow (eC (.int 10)) (eC (.int 60)))) (aCons (eVar 2) aNil)))) (aCons (eTup (aCons (eVar 1) (aCons (eC (.bl false)) aNil))) (aCons (eDct1 (aVar 1) (aVar 2)) aNil))))))) (eCallS m__law_take [] (aCons (eVar 0) (aCons (eC (.int 16)) aNil))))))
def m__law_no_corner : List D → Dk → Res Dk D := runB 4 b__law_no_corner
def b__law_other : MS Dk :=
  (sSeq (sAsg (gN 2) (eLst (eComp (e1 fRng2 (aCons (e1 dNeg (eC (.int 4))) (aCons (eC (.int 5)) aNil))) [4] (gN 4) (fun _ t => .ok true t) (eTup (aCons (e2 dMulI (eVarW 4) (eVarW 4)) (aCons (e2 dMulI (e1 dNeg (eC (.int 5))) (eVarW 4)) aNil))))))
  (sSeq (sAsg (gN 3) (eLst (e1 lim (aCons (eVar 2) (aCons (eLst (e3 dCutL (eVarW 2) (oSome (eC (.int 1))) oNone)) (aCons (eLst (e3 dCutL (eVarW 2) oNone (oSome (eC (.int 8))))) (aCons (e1 fTup (aCons (eLst (e3 dCutL (eVarW 2) (oSome (eC (.int 1))) oNone)) aNil)) (aCons (eC .non) (aCons (eC (.int 7)) (aCons (eC (.str "abc")) (aCons (eC (.str "")) (aCons eDct0 (aCons (eTup aNil) (aCons (eLst (e1 lim aNil)) (aCons (eC (.bl true)) (aCons (e3 dCutT (eVarW 1) oNone (oSome (eC (.int 2)))) (aCons (eTup (aCons (eVar 1) (aCons (eVar 1) aNil))) aNil)))))))))))))))))
  (sRet (e2 dIx (e2 dAdd (eVarW 3) (eLst (e1 lim (aCons (e1 fDEnum (aCons (eVar 1) aNil)) (aCons (eLst (e1 lim (aCons (eVar 1) aNil))) (aCons (e2 dIx (eVarW 1) (eC (.int 0))) aNil)))))) (eCallS m__law_take [] (aCons (eVar 0) (aCons (eC (.int 17)) aNil)))))))
def m__law_other : List D → Dk → Res Dk D := runB 5 b__law_other
def b__law_bent : MS Dk :=
  (sSeq (sAsg (gN 3) (eCallS m__law_take [] (aCons (eVar 0) (aCons (e1 fLen (aCons (eVarW 2) aNil)) aNil))))
  (sSeq (sAsg (gTB (gCons (gN 4) (gCons (gN 5) gNil))) (e2 dIx (eVarW 2) (eVarW 3)))
  (sSeq (sAsg (gTB (gCons (gN 6) (gCons (gN 7) gNil))) (e2 dIx (eVarW 2) (e2 dSub (eVarW 3) (eC (.int 1)))))
  (sSeq (sIf (e1 asB (e2 dEq (eVarW 1) (eC (.int 0)))) (sRet (eLst (e1 dRev (eVarW 2)))) sSkip)
  (sSeq (sIf (e1 asB (e2 dEq (eVarW 1) (eC (.int 1)))) (sRet (e2 dAdd (e2 dAdd (eLst (e3 dCutL (eVarW 2) oNone (oSome (eVar 3)))) (eLst (e1 lim (aCons (eTup (aCons (e2 dSub (e2 dAdd (eVarW 4) (eCallS m__law_take [] (aCons (eVar 0) (aCons (eC (.int 3)) aNil)))) (eC (.int 1))) (aCons (e2 dSub (e2 dAdd (eVarW 5) (eCallS m__law_take [] (aCons (eVar 0) (aCons (eC (.int 3)) aNil)))) (eC (.int 1))) aNil))) aNil)))) (eLst (e3 dCutL (eVarW 2) (oSome (e2 dAdd (eVarW 3) (eC (.int 1)))) oNone)))) sSkip)
  (sSeq (sIf (e1 asB (e2 dEq (eVarW 1) (eC (.int 2)))) (sRet (e2 dAdd (e2 dAdd (eLst (e3 dCutL (eVarW 2) oNone (oSome (eVar 3)))) (eLst (e1 lim (aCons (eTup (aCons (e2 dDiv (e2 dAdd (eVarW 4) (eVarW 6)) (eC (.int 2))) (aCons (e2 dDiv (e2 dAdd (eVarW 5) (eVarW 7)) (eC (.int 2))) aNil))) aNil)))) (eLst (e3 dCutL (eVarW 2) (oSome (eVar 3)) oNone)))) sSkip)
  (sSeq (sIf (e1 asB (e2 dEq (eVarW 1) (eC (.int 3)))) (sRet (e2 dAdd (e2 dAdd (eLst (e3 dCutL (eVarW 2) oNone (oSome (eVar 3)))) (eLst (e1 lim (aCons (eTup (aCons (eVar 4) (aCons (eVar 5) aNil))) aNil)))) (eLst (e3 dCutL (eVarW 2) (oSome (eVar 3)) oNone)))) sSkip)
  (sSeq (sIf (e1 asB (e2 dEq (eVarW 1) (eC (.int 4)))) (sRet (e2 dAdd (eLst (e3 dCutL (eVarW 2) oNone (oSome (eVar 3)))) (eLst (e3 dCutL (eVarW 2) (oSome (e2 dAdd (eVarW 3) (eC (.int 1)))) oNone)))) sSkip)
  (sSeq (sIf (e1 asB (e2 dEq (eVarW 1) (eC (.int 5)))) (sRet (e2 dAdd (e2 dAdd (eLst (e3 dCutL (eVarW 2) oNone (oSome (eVar 3)))) (eLst (e1 lim (aCons (eCallS m__law_no_corner [] (aCons (eVar 0) (aCons (eVar 4) (aCons (eVar 5) aNil)))) aNil)))) (eLst (e3 dCutL (eVarW 2) (oSome (e2 dAdd (eVarW 3) (eC (.int 1)))) oNone)))) sSkip)
  (sSeq (sIf (e1 asB (e2 dEq (eVarW 1) (eC (.int 6)))) (sRet (e2 dAdd (eLst (e2 (dStep ((1 + 1 : Nat) : Int)) (eVarW 2) oNone)) (eLst (e2 (dStep ((1 + 1 : Nat) : Int)) (eVarW 2) (oSome (eC (.int 1))))))) sSkip)
  (sRet (e2 dAdd (e2 dAdd (e2 dAdd (eLst (e3 dCutL (eVarW 2) oNone (oSome (eVar 3)))) (eLst (e3 dCutL (eVarW 2) (oSome (e2 dAdd (eVarW 3) (eC (.int 1)))) (oSome (e2 dAdd (eVarW 3) (eC (.int 2))))))) (eLst (e1 lim (aCons (eTup (aCons (eVar 4) (aCons (eVar 5) aNil))) aNil)))) (eLst (e3 dCutL (eVarW 2) (oSome (e2 dAdd (eVarW 3) (eC (.int 2)))) oNone))))))))))))))
def m__law_bent : List D → Dk → Res Dk D := runB 8 b__law_bent
def b__law_thing : MS Dk :=
  (sSeq (sAsg (gN 1) (eCallS m__law_take [] (aCons (eVar 0) (aCons (eC (.int 14)) aNil))))
  (sSeq (sAsg (gN 2) (eCallS m__law_shape [] (aCons (eVar 0) aNil)))
  (sSeq (sAsg (gN 3) (eCallS m__law_take [] (aCons (eVar 0) (aCons (e1 fLen (aCons (eVarW 2) aNil)) aNil))))
  (sSeq (sAsg (gN 4) (eLst (eComp (e1 itD (e2 dAdd (e3 dCutT (eVarW 2) (oSome (eVar 3)) oNone) (e3 dCutT (eVarW 2) oNone (oSome (eVar 3))))) [5] (gN 5) (fun _ t => .ok true t) (e2 dIx (eLst (e1 lim (aCons (eVar 5) (aCons (eLst (e1 fLst (aCons (eVarW 5) aNil))) aNil)))) (eCallS m__law_take [] (aCons (eVar 0) (aCons (eC (.int 2)) aNil)))))))
  (sSeq (sIf (e1 asB (e2 dLt (eVarW 1) (eC (.int 3)))) (sRet (e2 dIx (eLst (e1 lim (aCons (eVar 4) (aCons (e1 fTup (aCons (eVarW 4) aNil)) (aCons (e2 dAdd (e3 dCutT (eVarW 2) (oSome (eVar 3)) oNone) (e3 dCutT (eVarW 2) oNone (oSome (eVar 3)))) aNil))))) (eVarW 1))) sSkip)
  (sSeq (sIf (e1 asB (e2 dEq (eVarW 1) (eC (.int 3)))) (sRet (eCallS m__law_other [] (aCons (eVar 0) (aCons (eVar 2) aNil)))) sSkip)
  (sSeq (sIf (e1 asB (e2 dLt (eVarW 1) (eC (.int 12)))) (sRet (eCallS m__law_bent [] (aCons (eVar 0) (aCons (e2 dSub (eVarW 1) (eC (.int 4))) (aCons (eVar 4) aNil))))) sSkip)
  (sRet (e1 fTup (aCons (eCallS m__law_bent [] (aCons (eVar 0) (aCons (e2 dAdd (eC (.int 1)) (e2 dMulI (eC (.int 4)) (e2 dSub (eVarW 1) (eC (.int 12))))) (aCons (eVar 4) aNil)))) aNil))))))))))
def m__law_thing : List D → Dk → Res Dk D := runB 6 b__law_thing
def b__law_right : MS Unit :=
  (sSeq (sAsg (gN 1) (e1 fRepr2 (aCons (eVarW 0) aNil)))
  (sSeq (sAsg (gN 2) (eCall m__law_form [] (aCons (eVar 0) aNil)))
  (sSeq (sAsg (gN 3) (eC .non))
  (sSeq (sAsg (gN 4) (eLst (e1 lim aNil)))
  (sSeq (sTryL (sAsg (gN 3) (eCall m_look_shape [] (aCons (eVar 0) aNil))) "BadShape" 5 4 [true, true, false, false])
  (sSeq (sIf (e1 asB (e2 dNeSS (e1 fRepr2 (aCons (eVarW 0) aNil)) (eVarW 1))) (sRet (eC (.bl false))) sSkip)
  (sSeq (sIf (e1 asB (e2 dIs (eVarW 2) (eC .non))) (sRet (e2 dEq (eVarW 4) (eLst (e1 lim (aCons (eC (.bl true)) (aCons (eC (.bl true)) (aCons (eC (.bl false)) (aCons (eC (.bl false)) aNil)))))))) sSkip)
  (sRet (eAnd2 (e2 dEq (eVarW 4) (eLst (e1 lim aNil))) (eAnd2 (e1 fIsi (aCons (eVarW 3) (aCons (eC (.ty "tuple")) aNil))) (e2 dEqSS (e1 fRepr2 (aCons (eVarW 3) aNil)) (e1 fRepr2 (aCons (eVarW 2) aNil)))))))))))))
def m__law_right : List D → Unit → Res Unit D := runB 6 b__law_right
def b_law : MS Dk :=
  (sSeq (sFor (e1 fRng1 (aCons (eC (.int 6)) aNil)) (gN 2) (sIf (tNot1 (e1 truth (eCall m__law_right [] (aCons (eCallS m__law_thing [] (aCons (eVar 1) aNil)) aNil)))) (sRet (eC (.bl false))) sSkip))
  (sRet (eC (.bl true))))
end MM
end
namespace MM
open PySem PySem.Spec PyProof.Rows L2
theorem fmod_nat (x y : Nat) : Int.fmod (x : Int) (y : Int) = ((x % y : Nat) : Int) := by
  rw [Int.fmod_eq_emod_of_nonneg _ (by omega)]; rfl
def isWh : D → Bool
  | .int _ => true
  | _ => false
theorem tyN_dct {ks vs : List D} (h : (tyN (.dct ks vs)).isSome = true) : tyN (.dct ks vs) = some "dict" := by
  have e : tyN (.dct ks vs) = if (ks.all fun k => (keyOf k).isSome) = true then some "dict" else none := rfl
  rw [e] at h ⊢
  split
  · rfl
  · rename_i q
    rw [if_neg q] at h
    cases h
theorem isi_int {d : D} (h : (tyN d).isSome = true) : ∃ a b : Bool, isi d "int" = some a ∧ isi d "bool" = some b ∧ (a && !b) = isWh d := by
  cases d <;> first
    | (cases h; done)
    | exact ⟨_, _, rfl, rfl, rfl⟩
    | exact ⟨false, false, by unfold isi; rw [tyN_dct h]; rfl, by unfold isi; rw [tyN_dct h]; rfl, rfl⟩
def sh : D → Bool
  | .tup [.int a, .int b] => decide (1 ≤ b) && decide (Int.gcd a b = 1)
  | _ => false
theorem gcd_parts (a b : Int) (hb : b ≠ 0) : ∃ a' b' : Int, a = (Int.gcd a b : Int) * a' ∧ b = (Int.gcd a b : Int) * b' ∧ Int.gcd a' b' = 1 ∧ (0 : Int) < Int.gcd a b := by
  have hg : 0 < Int.gcd a b := Int.gcd_pos_of_ne_zero_right _ hb
  refine ⟨a / (Int.gcd a b : Int), b / (Int.gcd a b : Int), ?_, ?_, ?_, by omega⟩
  · rw [Int.mul_ediv_cancel' (Int.gcd_dvd_left ..)]
  · rw [Int.mul_ediv_cancel' (Int.gcd_dvd_right ..)]
  · exact Int.gcd_ediv_gcd_ediv_gcd hg
theorem fmod_pos {a b : Int} (hb : 1 ≤ b) : 0 ≤ a.fmod b ∧ a.fmod b < b := by
  rw [Int.fmod_eq_emod_of_nonneg _ (by omega)]
  exact ⟨Int.emod_nonneg _ (by omega), Int.emod_lt_of_pos _ (by omega)⟩
def manyOk (m : Int) : Prop := 1 ≤ m ∧ m.natAbs < 2 ^ 8000
theorem many_of {m : Int} (h1 : 1 ≤ m) (h2 : m ≤ 1000000000000) : manyOk m := ⟨h1, Nat.lt_of_lt_of_le (show m.natAbs < 2 ^ 50 by omega) (Nat.pow_le_pow_right (by decide) (by decide))⟩
theorem is_whole_ok {d : D} (h : (tyN d).isSome = true) : m_is_whole [d] () = .ok (.bl (isWh d)) () := by
  obtain ⟨a, b, h1, h2, h3⟩ := isi_int h
  apply oE_eq
  unfold m_is_whole b_is_whole
  simp [Nxt, fIsi, h1, h2]
  cases a <;> cases b <;> simp_all
def R (r : Rat) : D := .tup [.int r.num, .int (r.den : Int)]
structure Sz (n : Nat) (r : Rat) : Prop where
  nu : r.num.natAbs < 2 ^ n
  de : r.den < 2 ^ n
theorem Sz.le {n m : Nat} {r : Rat} (h : Sz n r) (hm : n ≤ m) : Sz m r := ⟨Nat.lt_of_lt_of_le h.nu (Nat.pow_le_pow_right (by decide) hm), Nat.lt_of_lt_of_le h.de (Nat.pow_le_pow_right (by decide) hm)⟩
@[simp] theorem R_ix0 {r : Rat} : dIx (R r) (.int 0) = some (.int r.num) := rfl
@[simp] theorem R_ix1 {r : Rat} : dIx (R r) (.int 1) = some (.int (r.den : Int)) := rfl
@[simp] theorem R_gT {r : Rat} {gs : Tgts} {ρ : Rho} : gT gs ρ (R r) = gs ρ [.int r.num, .int (r.den : Int)] := rfl
@[simp] theorem R_len {r : Rat} : fLen [R r] = some (.int 2) := rfl
@[simp] theorem R_it {r : Rat} : itD (R r) = some [.int r.num, .int (r.den : Int)] := rfl
@[simp] theorem R_isT {r : Rat} : fIsi [R r, .ty "tuple"] = some (.bl true) := rfl
@[simp] theorem isi_int_int {i : Int} : fIsi [.int i, .ty "int"] = some (.bl true) := rfl
@[simp] theorem isi_int_bool {i : Int} : fIsi [.int i, .ty "bool"] = some (.bl false) := rfl
@[simp] theorem R_eq {r s : Rat} : dEq (R r) (R s) = some (.bl (decide (r = s))) := by
  unfold R
  rw [dEq_pair]
  congr 2
  by_cases h : r = s
  · subst h; simp
  · rw [decide_eq_false h]
    by_cases h1 : r.num = s.num
    · by_cases h2 : (r.den : Int) = s.den
      · exact absurd (Rat.ext h1 (by omega)) h
      · rw [decide_eq_false h2, Bool.and_false]
    · rw [decide_eq_false h1, Bool.false_and]
@[simp] theorem R_ne {r s : Rat} : dNe (R r) (R s) = some (.bl (!decide (r = s))) := by
  have h : dEq (R r) (R s) = some (.bl (decide (r = s))) := R_eq
  unfold dEq at h
  unfold dNe
  cases e : eqD (R r) (R s) with
  | none => rw [e] at h; cases h
  | some b =>
    rw [e] at h
    have : b = decide (r = s) := by
      have h' : some (D.bl b) = some (.bl (decide (r = s))) := h
      injection h' with h'
      injection h'
    rw [this]; rfl
theorem den_pos (r : Rat) : (1 : Int) ≤ r.den := by have := r.den_pos; omega
theorem rat_of {a b p q : Int} (hb : b ≠ 0) (hq : 1 ≤ q) (hg : Int.gcd p q = 1) (he : p * b = q * a) : (Rat.divInt a b).num = p ∧ ((Rat.divInt a b).den : Int) = q := by
  have nz : q.natAbs ≠ 0 := by omega
  have e : (Rat.mk' p q.natAbs nz hg) = Rat.divInt a b := by
    rw [← Rat.num_divInt_den (Rat.mk' p q.natAbs nz hg)]
    show Rat.divInt p (q.natAbs : Int) = Rat.divInt a b
    rw [show ((q.natAbs : Nat) : Int) = q by omega, Rat.divInt_eq_divInt_iff (by omega) hb, he, Int.mul_comm]
  rw [← e]
  exact ⟨rfl, by show ((q.natAbs : Nat) : Int) = q; omega⟩
theorem divInt_sz {a b : Int} {n : Nat} (hb : b ≠ 0) (h1 : a.natAbs < 2 ^ n) (h2 : b.natAbs < 2 ^ n) : Sz n (Rat.divInt a b) := by
  obtain ⟨a', b', e1, e2, e3, e4⟩ := gcd_parts a b hb
  have la : a'.natAbs ≤ a.natAbs := by
    conv => rhs; rw [e1]
    rw [Int.natAbs_mul]; exact Nat.le_mul_of_pos_left _ (by omega)
  have lb : b'.natAbs ≤ b.natAbs := by
    conv => rhs; rw [e2]
    rw [Int.natAbs_mul]; exact Nat.le_mul_of_pos_left _ (by omega)
  have b0 : b' ≠ 0 := fun z => hb (by rw [e2, z, Int.mul_zero])
  have cross : a' * b = b' * a := by
    conv => lhs; rw [e2]
    conv => rhs; rw [e1]
    rw [← Int.mul_assoc, ← Int.mul_assoc, Int.mul_comm a', Int.mul_comm b', Int.mul_assoc, Int.mul_assoc, Int.mul_comm a' b']
  rcases Int.lt_or_gt_of_ne b0 with h | h
  · obtain ⟨q1, q2⟩ := rat_of (a := a) (b := b) (p := -a') (q := -b') hb (by omega) (by rw [Int.gcd_neg, Int.neg_gcd]; exact e3) (by rw [Int.neg_mul, Int.neg_mul, cross])
    exact ⟨by rw [q1]; omega, by omega⟩
  · obtain ⟨q1, q2⟩ := rat_of (a := a) (b := b) (p := a') (q := b') hb (by omega) e3 cross
    exact ⟨by rw [q1]; omega, by omega⟩
theorem sz_mul {a b : Int} {n m : Nat} (h1 : a.natAbs < 2 ^ n) (h2 : b.natAbs < 2 ^ m) : (a * b).natAbs < 2 ^ (n + m) := by
  rw [Int.natAbs_mul, Nat.pow_add]
  exact Nat.mul_lt_mul'' h1 h2
theorem sz_sub {a b : Int} {n : Nat} (h1 : a.natAbs < 2 ^ n) (h2 : b.natAbs < 2 ^ n) : (a - b).natAbs < 2 ^ (n + 1) := by
  rw [Nat.pow_succ]; omega
theorem Sz.den {n : Nat} {r : Rat} (h : Sz n r) : (r.den : Int).natAbs < 2 ^ n := h.de
@[simp] theorem R_plain {r : Rat} {i : Int} : atI [D.int r.num, D.int (r.den : Int)] 0 = some (.int r.num) := rfl
theorem den_mul_ne (r s : Rat) : (r.den : Int) * s.den ≠ 0 := by
  have := r.den_pos; have := s.den_pos
  intro z
  rcases Int.mul_eq_zero.mp z with h | h <;> omega
theorem sub_divInt (r s : Rat) : r - s = Rat.divInt (r.num * s.den - s.num * r.den) (r.den * s.den) := by
  conv => lhs; rw [← Rat.num_divInt_den r, ← Rat.num_divInt_den s]
  rw [Rat.divInt_sub_divInt _ _ (by have := r.den_pos; omega) (by have := s.den_pos; omega)]
theorem Sz.sub {n m : Nat} {r s : Rat} (h1 : Sz n r) (h2 : Sz m s) : Sz (n + m + 1) (r - s) := by
  rw [sub_divInt]
  refine divInt_sz (den_mul_ne r s) (sz_sub (sz_mul h1.nu h2.den) ?_) (Nat.lt_of_lt_of_le (sz_mul h1.den h2.den) (Nat.pow_le_pow_right (by decide) (by omega)))
  rw [Nat.add_comm n m]; exact sz_mul h2.nu h1.den
inductive Pw {α β : Type} (p : α → β → Prop) : List α → List β → Prop
  | nil : Pw p [] []
  | cons {x : α} {y : β} {xs : List α} {ys : List β} : p x y → Pw p xs ys → Pw p (x :: xs) (y :: ys)
theorem Pw.len {α β : Type} {p : α → β → Prop} : ∀ {xs : List α} {ys : List β}, Pw p xs ys → xs.length = ys.length
  | _, _, .nil => rfl
  | _, _, .cons _ t => congrArg (· + 1) t.len
theorem Pw.right {α β : Type} {p : α → β → Prop} : ∀ {xs : List α} {ys : List β}, Pw p xs ys → ∀ y ∈ ys, ∃ x ∈ xs, p x y
  | _, _, .cons h t, y, hy => by
    rcases List.mem_cons.mp hy with rfl | hy
    · exact ⟨_, List.mem_cons_self, h⟩
    · obtain ⟨x, hx, hp⟩ := t.right y hy
      exact ⟨x, List.mem_cons_of_mem _ hx, hp⟩
theorem Pw.mono {α β : Type} {p q : α → β → Prop} (h : ∀ x y, p x y → q x y) : ∀ {xs : List α} {ys : List β}, Pw p xs ys → Pw q xs ys
  | _, _, .nil => .nil
  | _, _, .cons a t => .cons (h _ _ a) (t.mono h)
structure Nm (n : Nat) (x : Str) : Prop where
  lt : ∀ c ∈ x.cps.toList, 97 ≤ c ∧ c ≤ 122
  le : x.length ≤ n
theorem str_len (x : Str) : x.length = x.cps.toList.length := by show x.cps.size = _; simp
theorem Nm.mono {n m : Nat} {x : Str} (h : Nm n x) (hm : n ≤ m) : Nm m x := ⟨h.lt, Nat.le_trans h.le hm⟩
theorem Nm.ok {n : Nat} {x : Str} (h : Nm n x) : PyData.canLay0 (.str x) = true := by
  show (x.cps.all fun c => decide (c < 1114112)) = true
  rw [← Array.all_toList, List.all_eq_true]
  intro c hc
  have := h.lt c hc
  exact decide_eq_true (by omega)
theorem Nm.app {n m : Nat} {x y : Str} (h : Nm n x) (h2 : Nm m y) : Nm (n + m) (x ++ y) := by
  have e : (x ++ y).cps.toList = x.cps.toList ++ y.cps.toList := TL.tl_append x y
  refine ⟨fun c hc => ?_, ?_⟩
  · rw [e] at hc
    rcases List.mem_append.mp hc with q | q
    · exact h.lt c q
    · exact h2.lt c q
  · have a := h.le; have b := h2.le
    rw [str_len] at *
    rw [e, List.length_append]; omega
theorem Nm.cut {n : Nat} {x : Str} (h : Nm n x) (lo hi : Option Int) : Nm n (cutS x lo hi) := by
  have e : (cutS x lo hi).cps.toList = ((x.cps.toList.drop (HT.sIx x.length 0 lo)).take (HT.sIx x.length x.length hi - HT.sIx x.length 0 lo)) := by unfold cutS; simp
  refine ⟨fun c hc => ?_, ?_⟩
  · rw [e] at hc; exact h.lt c (List.mem_of_mem_drop (List.mem_of_mem_take hc))
  · have a := h.le
    rw [str_len] at *
    rw [e, List.length_take, List.length_drop]; omega
theorem Nm.nil : Nm 0 ⟨#[]⟩ := ⟨fun c hc => (nomatch hc), Nat.le_refl _⟩
theorem cell_ok (ns : List Int) (k : Nat) (hk : k ≤ 1000000000000) : ∃ c : Nat, m__law_cell [.scr ns, .int (k : Nat)] () = .ok (.int c) () := by
  by_cases h : ns.length = 0
  · refine ⟨7 * k + 3, oE_eq ?_⟩
    unfold m__law_cell b__law_cell
    simp [Nxt, h]
    exact small_mul (i := 7) (j := k) (a := 8) (b := 50) (by decide) (by omega) (by decide) (by decide) (by decide)
  · have hl : k % ns.length < ns.length := Nat.mod_lt _ (by omega)
    refine ⟨(ns[k % ns.length]).natAbs, oE_eq ?_⟩
    have e : atI ns ((k : Int) % (ns.length : Int)) = some ns[k % ns.length] := by rw [← Int.natCast_emod]; exact atI_nat (by rw [List.getElem?_eq_getElem hl])
    have h' : ((ns.length : Nat) : Int) ≠ 0 := by omega
    unfold m__law_cell b__law_cell
    simp [Nxt, h, h', fmod_nat, e]
theorem mixed_ok (ns : List Int) (k : Nat) (hk : k ≤ 1000000000000) (m : Int) (hm : manyOk m) : ∃ r : Int, m__law_mixed [.scr ns, .int (k : Nat), .int m] () = .ok (.int r) () ∧ 0 ≤ r ∧ r < m := by
  obtain ⟨c, hc⟩ := cell_ok ns k hk
  have c1 := fmod_pos (a := (c : Int)) (b := 1000003) (by decide)
  have key : oE (m__law_mixed [.scr ns, .int (k : Nat), .int m] ()) (fun d _ => ∃ r : Int, d = .int r ∧ 0 ≤ r ∧ r < m) (fun _ _ _ => False) := by
    unfold m__law_mixed b__law_mixed
    simp [Nxt, hc]
    generalize (c : Int).fmod 1000003 = x at c1 ⊢
    have m1 : (x + 5) * (k + 2) ≤ 1000008 * (k + 2) := Int.mul_le_mul_of_nonneg_right (by omega) (by omega)
    have m0 : 0 ≤ (x + 5) * (k + 2) := Int.mul_nonneg (by omega) (by omega)
    refine ⟨small_mul (i := x + 5) (j := k + 2) (a := 50) (b := 50) (by omega) (by omega) (by decide) (by decide) (by decide), small_mul (i := 7919) (j := k) (a := 50) (b := 50) (by decide) (by omega) (by decide) (by decide) (by decide), decide_eq_true ⟨by decide, by decide, ?_⟩, ?_, ?_, fmod_pos hm.1⟩
    · generalize (x + 5) * (k + 2) = y at m1 m0 ⊢
      omega
    · exact small_div (b := 4) (by decide) (by decide) (by decide) (by decide)
    · have := hm.1; omega
  obtain ⟨d, u, e, r, rfl, h⟩ := oE_ex' key
  exact ⟨r, e, h⟩
structure TkOk (ns : List Int) (t t' : Dk) : Prop where
  a : t'.a = t.a
  scr : t'.scr = .scr ns
  cnt : t'.cnt ≤ t.cnt + 1
theorem take_ok {ns : List Int} {t : Dk} (hs : t.scr = .scr ns) (hc : t.cnt < 1000000000000) {m : Int} (hm : manyOk m) : ∃ (r : Int) (t' : Dk), m__law_take [.at t.a, .int m] t = .ok (.int r) t' ∧ 0 ≤ r ∧ r < m ∧ TkOk ns t t' := by
  have key : oE (m__law_take [.at t.a, .int m] t) (fun d t' => ∃ r : Int, d = .int r ∧ 0 ≤ r ∧ r < m ∧ TkOk ns t t') (fun _ _ _ => False) := by
    unfold m__law_take b__law_take
    simp [Nxt, Nxt]
    refine oS_while (fun n ρ u => ∃ (z : Slot), ρ = [.val (.at t.a), .val (.int m), z] ∧ u.a = t.a ∧ u.scr = .scr ns ∧ u.cnt = t.cnt ∧ n = u.big.length - u.pos) ?_ _ _ _ ⟨_, rfl, rfl, hs, rfl, rfl⟩
    rintro n ρ u ⟨z, rfl, ha, hsc, hcn, rfl⟩
    simp [Nxt, ha, hsc, hcn]
    by_cases hp : u.pos < u.big.length
    · right
      refine ⟨hp, u.big[u.pos], List.getElem?_eq_getElem hp, ?_⟩
      by_cases hc0 : u.big[u.pos] ≤ 0
      · left; exact ⟨hc0, by omega, by omega⟩
      · right
        have f := fmod_pos (a := u.big[u.pos]) hm.1
        exact ⟨by omega, small_div (by have := hm.1; omega) hm.2 (by decide) (by decide), hp, by have := hm.1; omega, f.1, f.2, rfl, rfl, Nat.le_succ _⟩
    · left
      refine ⟨by omega, by omega, ?_⟩
      have e : max ((t.cnt : Int) + 1) 0 = ((t.cnt + 1 : Nat) : Int) := by omega
      obtain ⟨r, e2, h0, h1⟩ := mixed_ok ns (t.cnt + 1) (by omega) m hm
      rw [e, e2]
      exact ⟨r, rfl, h0, h1, rfl, rfl, Nat.le_refl _⟩
  obtain ⟨d, u, e, r, rfl, h⟩ := oE_ex' key
  exact ⟨r, u, e, h⟩
structure Gd (ns : List Int) (a : Addr) (n : Nat) (t : Dk) : Prop where
  scr : t.scr = .scr ns
  ad : t.a = a
  cnt : t.cnt ≤ n
theorem Gd.le {ns : List Int} {a : Addr} {n m : Nat} {t : Dk} (g : Gd ns a n t) (h : n ≤ m) : Gd ns a m t := ⟨g.scr, g.ad, Nat.le_trans g.cnt h⟩
theorem take_wp {ns : List Int} {a : Addr} {n : Nat} {t : Dk} {m : Int} {Q : D → Dk → Prop} {X : Str → Fds → Dk → Prop} (g : Gd ns a n t) (hc : n < 1000000000000) (hm : manyOk m) (h : ∀ (r : Int) (t' : Dk), 0 ≤ r → r < m → Gd ns a (n + 1) t' → Q (.int r) t') :
    oE (m__law_take [.at a, .int m] t) Q X := by
  obtain ⟨r, t', e, h0, h1, h2⟩ := take_ok g.scr (Nat.lt_of_le_of_lt g.cnt hc) hm
  rw [g.ad] at e
  rw [e]
  exact h r t' h0 h1 ⟨h2.scr, h2.a.trans g.ad, Nat.le_trans h2.cnt (Nat.succ_le_succ g.cnt)⟩
theorem deck_ok (ns : List Int) (hl : ns.length ≤ 63) : ∃ big, m__law_deck [.scr ns] = some (.scr ns, big) := by
  obtain ⟨ys, e, hy⟩ := compL_ok (g := gN 1) (tt := e1 asB (e2 dGe (e1 fAbs (aCons (eVarW 1) aNil)) (e2 dPow (eC (.int 10)) (eC (.int 18))))) (te := e1 fAbs (aCons (eVarW 1) aNil)) (ρ := [.val (.scr ns), .no]) (p := fun y => ∃ i, y = .int i) (ns.map .int) (fun d hd => by
    obtain ⟨i, _, rfl⟩ := List.mem_map.mp hd
    refine ⟨_, rfl, decide ((10 : Int) ^ 18 ≤ (i.natAbs : Int)), oE_eq ?_, fun _ => ⟨.int (i.natAbs : Int), oE_eq ?_, _, rfl⟩⟩
    · simp
      decide
    · simp)
  obtain ⟨big, eb⟩ := intsD_all ys hy
  have ec : eComp (e1 itD (eVar 0)) [1] (gN 1) (e1 asB (e2 dGe (e1 fAbs (aCons (eVarW 1) aNil)) (e2 dPow (eC (.int 10)) (eC (.int 18))))) (e1 fAbs (aCons (eVarW 1) aNil)) [.val (.scr ns), .no] () = .ok ys () := by
    show (if (ns.map D.int).length ≤ 16777216 ∧ noOwn [.val (.scr ns), .no] [1] = true then compL _ _ _ (wipeR [.val (.scr ns), .no] [1]) (ns.map D.int) () else .bad) = _
    rw [if_pos ⟨by rw [List.length_map]; omega, rfl⟩]
    exact e
  refine ⟨big, ?_⟩
  show (match aVar 0 [.val (.scr ns), .no], eComp (e1 itD (eVar 0)) [1] (gN 1) (e1 asB (e2 dGe (e1 fAbs (aCons (eVarW 1) aNil)) (e2 dPow (eC (.int 10)) (eC (.int 18))))) (e1 fAbs (aCons (eVarW 1) aNil)) [.val (.scr ns), .no] () with
    | some d, .ok ds _ => (intsD ds).map fun l => (d, l)
    | _, _ => none) = some (.scr ns, big)
  rw [ec]
  show (intsD ys).map _ = _
  rw [eb]
  rfl
theorem comp_wp {ns : List Int} {a : Addr} {g : Tgt} {te : ME Dk D} {ρ : Rho} {p : D → D → Prop} {k B : Nat} {Q : List D → Dk → Prop} {X : Str → Fds → Dk → Prop} : ∀ (ds : List D)
    (hg : ∀ d ∈ ds, ∀ n t, Gd ns a n t → n ≤ B → ∃ ρ1, g ρ d = some ρ1 ∧ oE (te ρ1 t) (fun y t' => p d y ∧ Gd ns a (n + k) t') (fun _ _ _ => False)) (n : Nat) (t : Dk), Gd ns a n t → n + k * ds.length ≤ B →
    (∀ ys t', Pw p ds ys → Gd ns a (n + k * ds.length) t' → Q ys t') → oE (compL g (fun _ t => .ok true t) te ρ ds t) Q X
  | [], hg, n, t, h, hB, hQ => hQ [] t .nil (by simpa using h)
  | d :: ds, hg, n, t, h, hB, hQ => by
    rw [List.length_cons, Nat.mul_add] at hB
    obtain ⟨ρ1, e1, e2⟩ := hg d List.mem_cons_self n t h (by omega)
    rw [oE_compCons]
    refine ⟨ρ1, e1, ?_⟩
    simp only [oE_ok, not_true_eq_false, false_implies, and_true, forall_const]
    refine oE_imp e2 (fun y t1 ⟨py, h1⟩ => ?_) fun _ _ _ z => z
    refine comp_wp ds (fun d hd => hg d (List.mem_cons_of_mem _ hd)) (n + k) t1 h1 (by omega) fun ys t' hys h' => hQ _ _ (.cons py hys) ?_
    rw [List.length_cons, Nat.mul_add]
    exact h'.le (by omega)
theorem str_ok {x : Str} (h : PyData.canLay0 (.str x) = true) : ∀ c ∈ x.cps.toList, c < 16 ^ 8 := fun c hc => by
  have h' : PyData.strOk x = true := h
  unfold PyData.strOk at h'
  rw [← Array.all_toList, List.all_eq_true] at h'
  have := of_decide_eq_true (h' c hc)
  exact Nat.lt_of_lt_of_le this (by decide)
theorem sum_len {ts : List Str} {L : Nat} (h : ∀ t ∈ ts, t.length ≤ L) : (ts.map (·.length)).sum ≤ ts.length * L := by
  induction ts with
  | nil => simp
  | cons t ts ih =>
    have h1 := h t List.mem_cons_self
    have h2 := ih fun s hs => h s (List.mem_cons_of_mem _ hs)
    rw [List.map_cons, List.sum_cons, List.length_cons, Nat.add_mul]
    omega
theorem all_len (ps : List PyData) : (PyData.shownAll ps).length = ps.length := by
  induction ps with
  | nil => rfl
  | cons p ps ih => simp [PyData.shownAll, ih]
def kb2 (B : Nat) : D → Bool
  | .int i => decide (i.natAbs.log2 < B)
  | .str x => PyData.canLay0 (.str x) && decide (10 * x.length ≤ B)
  | _ => false
mutual
def rp2 (B : Nat) : List Nat → D → Bool
  | _, .non => true
  | _, .bl _ => true
  | _, .int i => decide (i.natAbs.log2 < B)
  | _, .str x => PyData.canLay0 (.str x) && decide (10 * x.length ≤ B)
  | m :: ms, .tup ds => decide (ds.length ≤ m) && rps2 B ms ds
  | m :: ms, .lst ds => decide (ds.length ≤ m) && rps2 B ms ds
  | m :: ms, .dct ks ds => (decide (ks.length ≤ m) && ks.all (kb2 B)) && rps2 B ms ds
  | _, _ => false
def rps2 (B : Nat) : List Nat → List D → Bool
  | _, [] => true
  | ms, d :: ds => rp2 B ms d && rps2 B ms ds
end
def rlen2 (B : Nat) : List Nat → Nat
  | [] => B + 2
  | m :: ms => m * (rlen2 B ms + (B + 6)) + 3 + (B + 2)
theorem rlen2_ge (B : Nat) (ms : List Nat) : B + 2 ≤ rlen2 B ms := by
  cases ms with
  | nil => exact Nat.le_refl _
  | cons m ms => unfold rlen2; omega
theorem pys2_len : ∀ {ds : List D} {ps : List PyData}, pys2 ds = some ps → ps.length = ds.length
  | [], _, e => by unfold pys2 at e; cases e; rfl
  | d :: ds, _, e => by
    unfold pys2 at e
    cases q : py2 d with
    | none => rw [q] at e; cases e
    | some p =>
      rw [q] at e
      cases q2 : pys2 ds with
      | none =>
        have e' : (pys2 ds).map (p :: ·) = some _ := e
        rw [q2] at e'
        cases e'
      | some ps =>
        have e' : (pys2 ds).map (p :: ·) = some _ := e
        rw [q2] at e'
        cases e'
        simp [pys2_len q2]
theorem kb2_ok {B : Nat} (hB2 : B ≤ 1920) {d : D} (h : kb2 B d = true) : ∃ p, pk d = some p ∧ p.depth = 0 ∧ p.showable = true ∧ p.shown.length ≤ B + 2 := by
  cases d with
  | int i =>
    have h := of_decide_eq_true h
    refine ⟨_, rfl, rfl, decide_eq_true (by omega), ?_⟩
    have := int_text_length_le (k := B) (by omega) h
    show (Str.ofString (toString i)).length ≤ _
    rw [PySem.ofString_length]
    omega
  | str x =>
    obtain ⟨h1, h2⟩ := Bool.and_eq_true_iff.mp h
    have h2 := of_decide_eq_true h2
    refine ⟨_, rfl, rfl, rfl, ?_⟩
    have := StrLaws.reprText_len x (str_ok h1)
    show (reprText x).length ≤ _
    omega
  | _ => cases h
theorem kbs2_ok {B : Nat} (hB2 : B ≤ 1920) : ∀ {ks : List D}, ks.all (kb2 B) = true → ∃ kp, pks ks = some kp ∧ kp.length = ks.length ∧ ∀ p ∈ kp, p.depth = 0 ∧ p.showable = true ∧ p.shown.length ≤ B + 2
  | [], _ => ⟨[], rfl, rfl, fun p hp => nomatch hp⟩
  | d :: ds, h => by
    rw [List.all_cons] at h
    obtain ⟨h1, h2⟩ := Bool.and_eq_true_iff.mp h
    obtain ⟨p, e, z⟩ := kb2_ok hB2 h1
    obtain ⟨ps, e2, l, z2⟩ := kbs2_ok hB2 h2
    refine ⟨p :: ps, by simp [pks, e, e2], by simp [l], fun q hq => ?_⟩
    rcases List.mem_cons.mp hq with rfl | hq
    · exact z
    · exact z2 q hq
theorem kv2_ok {B L N : Nat} : ∀ {kp ps : List PyData}, (∀ p ∈ kp, p.depth = 0 ∧ p.showable = true ∧ p.shown.length ≤ B + 2) → PyData.depthAll ps ≤ N → PyData.showableAll ps = true → (∀ t ∈ PyData.shownAll ps, t.length ≤ L) →
    PyData.depthKv (kp.zip ps) ≤ N ∧ PyData.showableKv (kp.zip ps) = true ∧ (PyData.shownKv (kp.zip ps)).length ≤ kp.length ∧ ∀ t ∈ PyData.shownKv (kp.zip ps), t.length ≤ L + (B + 4)
  | [], _, _, _, _, _ => ⟨Nat.zero_le _, rfl, Nat.zero_le _, fun t ht => nomatch ht⟩
  | _ :: _, [], _, _, _, _ => ⟨Nat.zero_le _, rfl, Nat.zero_le _, fun t ht => nomatch ht⟩
  | k :: kp, p :: ps, hk, hd, hs, ht => by
    obtain ⟨k1, k2, k3⟩ := hk k List.mem_cons_self
    simp only [PyData.depthAll] at hd
    simp only [PyData.showableAll] at hs
    obtain ⟨s1, s2⟩ := Bool.and_eq_true_iff.mp hs
    obtain ⟨r1, r2, r3, r4⟩ := kv2_ok (kp := kp) (ps := ps) (B := B) (L := L) (N := N) (fun q hq => hk q (List.mem_cons_of_mem _ hq)) (by omega) s2 (fun t q => ht t (by simp only [PyData.shownAll]; exact List.mem_cons_of_mem _ q))
    refine ⟨by simp only [List.zip_cons_cons, PyData.depthKv]; omega, by simp only [List.zip_cons_cons, PyData.showableKv, k2, s1, r2]; rfl, by simp only [List.zip_cons_cons, PyData.shownKv, List.length_cons]; omega, fun t q => ?_⟩
    simp only [List.zip_cons_cons, PyData.shownKv] at q
    rcases List.mem_cons.mp q with rfl | q
    · have := ht p.shown (by simp only [PyData.shownAll]; exact List.mem_cons_self)
      rw [strLen_append, strLen_append]
      show (PyData.shown k).length + 2 + _ ≤ _
      omega
    · exact r4 t q
mutual
theorem rp2_ok {B : Nat} (hB : 4 ≤ B) (hB2 : B ≤ 1920) : ∀ (ms : List Nat) (d : D), rp2 B ms d = true → ∃ p, py2 d = some p ∧ p.depth ≤ ms.length ∧ p.showable = true ∧ p.shown.length ≤ rlen2 B ms
  | ms, .non, h => ⟨_, rfl, Nat.zero_le _, rfl, Nat.le_trans (show (PyData.shown .none).length ≤ B + 2 by show ("None" : Str).length ≤ _; have : ("None" : Str).length = 4 := rfl; omega) (rlen2_ge B ms)⟩
  | ms, .bl b, h => ⟨_, rfl, Nat.zero_le _, rfl, Nat.le_trans (show (PyData.shown (.bool b)).length ≤ B + 2 by
      cases b
      · have : (PyData.shown (.bool false)).length = 5 := rfl
        omega
      · have : (PyData.shown (.bool true)).length = 4 := rfl
        omega) (rlen2_ge B ms)⟩
  | ms, .int i, h => by
    unfold rp2 at h
    have h := of_decide_eq_true h
    refine ⟨_, rfl, Nat.zero_le _, decide_eq_true (by omega), Nat.le_trans ?_ (rlen2_ge B ms)⟩
    have := int_text_length_le (k := B) (by omega) h
    show (Str.ofString (toString i)).length ≤ _
    rw [PySem.ofString_length]
    omega
  | ms, .str x, h => by
    unfold rp2 at h
    rw [Bool.and_eq_true] at h
    have h2 := of_decide_eq_true h.2
    refine ⟨_, rfl, Nat.zero_le _, rfl, Nat.le_trans ?_ (rlen2_ge B ms)⟩
    have := StrLaws.reprText_len x (str_ok h.1)
    show (reprText x).length ≤ _
    omega
  | m :: ms, .tup ds, h => by
    unfold rp2 at h
    rw [Bool.and_eq_true] at h
    obtain ⟨ps, e, c2, c3, c4⟩ := rps2_ok hB hB2 ms ds h.2
    have hm := of_decide_eq_true h.1
    have pl := pys2_len e
    refine ⟨.tuple ps, by simp only [py2, e]; rfl, by simp [PyData.depth]; omega, by simpa [PyData.showable] using c3, ?_⟩
    have l1 := tupleText_len_le (PyData.shownAll ps)
    have l2 := sum_len c4
    rw [all_len] at l1 l2
    have l3 := Nat.mul_le_mul_right (rlen2 B ms) (show ps.length ≤ m by omega)
    show (tupleText (PyData.shownAll ps)).length ≤ m * (rlen2 B ms + (B + 6)) + 3 + (B + 2)
    rw [Nat.mul_add, Nat.mul_add]
    omega
  | m :: ms, .lst ds, h => by
    unfold rp2 at h
    rw [Bool.and_eq_true] at h
    obtain ⟨ps, e, c2, c3, c4⟩ := rps2_ok hB hB2 ms ds h.2
    have hm := of_decide_eq_true h.1
    have pl := pys2_len e
    refine ⟨.list ps, by simp only [py2, e]; rfl, by simp [PyData.depth]; omega, by simpa [PyData.showable] using c3, ?_⟩
    have l1 := listText_len_le (PyData.shownAll ps)
    have l2 := sum_len c4
    rw [all_len] at l1 l2
    have l3 := Nat.mul_le_mul_right (rlen2 B ms) (show ps.length ≤ m by omega)
    show (listText (PyData.shownAll ps)).length ≤ m * (rlen2 B ms + (B + 6)) + 3 + (B + 2)
    rw [Nat.mul_add, Nat.mul_add]
    omega
  | m :: ms, .dct ks ds, h => by
    unfold rp2 at h
    rw [Bool.and_eq_true, Bool.and_eq_true] at h
    obtain ⟨⟨h1, h2⟩, h3⟩ := h
    obtain ⟨ps, e, c2, c3, c4⟩ := rps2_ok hB hB2 ms ds h3
    obtain ⟨kp, e2, kl, kk⟩ := kbs2_ok hB2 h2
    have hm := of_decide_eq_true h1
    obtain ⟨r1, r2, r3, r4⟩ := kv2_ok (B := B) kk c2 c3 c4
    refine ⟨.dict (kp.zip ps), by simp only [py2, e, e2]; rfl, by simp [PyData.depth]; omega, by simpa [PyData.showable] using r2, ?_⟩
    have l1 := dictText_len_le (PyData.shownKv (kp.zip ps))
    have l2 := sum_len r4
    have l3 := Nat.mul_le_mul_right (rlen2 B ms + (B + 4)) (show (PyData.shownKv (kp.zip ps)).length ≤ m by omega)
    show (dictText (PyData.shownKv (kp.zip ps))).length ≤ m * (rlen2 B ms + (B + 6)) + 3 + (B + 2)
    rw [show rlen2 B ms + (B + 6) = (rlen2 B ms + (B + 4)) + 2 by omega, Nat.mul_add]
    omega
theorem rps2_ok {B : Nat} (hB : 4 ≤ B) (hB2 : B ≤ 1920) : ∀ (ms : List Nat) (ds : List D), rps2 B ms ds = true → ∃ ps, pys2 ds = some ps ∧ PyData.depthAll ps ≤ ms.length ∧ PyData.showableAll ps = true ∧ ∀ t ∈ PyData.shownAll ps, t.length ≤ rlen2 B ms
  | ms, [], _ => ⟨[], rfl, Nat.zero_le _, rfl, fun t z => nomatch z⟩
  | ms, d :: ds, h => by
    unfold rps2 at h
    rw [Bool.and_eq_true] at h
    obtain ⟨p, h1, h3, h4, h5⟩ := rp2_ok hB hB2 ms d h.1
    obtain ⟨ps, k1, k3, k4, k5⟩ := rps2_ok hB hB2 ms ds h.2
    refine ⟨p :: ps, by simp [pys2, h1, k1], by simp [PyData.depthAll]; omega, by simp [PyData.showableAll, h4, k4], fun t ht => ?_⟩
    simp only [PyData.shownAll] at ht
    rcases List.mem_cons.mp ht with rfl | ht
    · exact h5
    · exact k5 t ht
end
theorem rps2_all {B : Nat} {ms : List Nat} : ∀ {ds : List D}, (∀ d ∈ ds, rp2 B ms d = true) → rps2 B ms ds = true
  | [], _ => by unfold rps2; rfl
  | d :: ds, h => by
    unfold rps2
    rw [h d List.mem_cons_self, rps2_all fun x hx => h x (List.mem_cons_of_mem _ hx)]
    rfl
theorem repr2_ok {B : Nat} {ms : List Nat} {d : D} (h : rp2 B ms d = true) (hB : 4 ≤ B := by decide) (hB2 : B ≤ 1920 := by decide) (hl : ms.length ≤ 16 := by decide) (hs : rlen2 B ms ≤ 16777216 := by decide) : ∃ z, fRepr2 [d] = some (.str z) := by
  obtain ⟨p, h1, h3, h4, h5⟩ := rp2_ok hB hB2 ms d h
  refine ⟨p.shown, ?_⟩
  have c : p.depth ≤ 16 ∧ p.showable = true ∧ p.shown.length ≤ sizeLine := ⟨by omega, h4, Nat.le_trans h5 (by rw [sizeLine_eq]; exact hs)⟩
  simp [fRepr2, h1, c]
def pt (p : Int × Int) : D := .tup [.int p.1, .int p.2]
def pyP (p : Int × Int) : PyData := .tuple [.int p.1, .int p.2]
theorem pys_pts : ∀ ps : List (Int × Int), pys (ps.map pt) = some (ps.map pyP)
  | [] => rfl
  | p :: ps => by
    have e : py (pt p) = some (pyP p) := rfl
    simp [pys, e, pys_pts ps]
theorem sort_pts (ps : List (Int × Int)) : ∃ qs : List (Int × Int), fSortD [.lst (ps.map pt)] = some (qs.map pt) ∧ qs.Perm ps := by
  have e := pys_pts ps
  have c : SrtC (ps.map pyP) := by
    refine ⟨.inl ⟨fun d hd d' hd' => ?_, .inl fun d hd => ?_⟩, fun d hd => ?_⟩
    · obtain ⟨x, _, rfl⟩ := List.mem_map.mp hd
      obtain ⟨y, _, rfl⟩ := List.mem_map.mp hd'
      rfl
    · obtain ⟨x, _, rfl⟩ := List.mem_map.mp hd
      exact ⟨_, _, rfl⟩
    · obtain ⟨x, _, rfl⟩ := List.mem_map.mp hd
      show PyData.depth (.tuple [.int x.1, .int x.2]) ≤ 50
      simp [PyData.depth, PyData.depthAll]
  refine ⟨ps.mergeSort (PySem.W.dataLe false pyP), ?_, List.mergeSort_perm ..⟩
  show (pys (ps.map pt)).bind _ = _
  rw [e, Option.bind_some, if_pos c, sortV_of (le := PySem.W.dataLe false pyP) ps fun _ _ _ _ => rfl]
def lx (a b : Int × Int) : Prop := a.1 < b.1 ∨ (a.1 = b.1 ∧ a.2 < b.2)
def lf (a b c : Int × Int) : Int := (b.1 - a.1) * (c.2 - a.2) - (b.2 - a.2) * (c.1 - a.1)
theorem cr_trans {a1 a2 b1 b2 c1 c2 : Int} (ha : 0 < a1 ∨ (a1 = 0 ∧ 0 < a2)) (hb : 0 < b1 ∨ (b1 = 0 ∧ 0 < b2)) (hc : 0 < c1 ∨ (c1 = 0 ∧ 0 < c2)) (h1 : 0 ≤ a1 * b2 - a2 * b1) (h2 : 0 < b1 * c2 - b2 * c1) : 0 < a1 * c2 - a2 * c1 := by
  rcases hb with hb | ⟨rfl, hb⟩
  · have id : b1 * (a1 * c2 - a2 * c1) = a1 * (b1 * c2 - b2 * c1) + c1 * (a1 * b2 - a2 * b1) := by grind
    have hc0 : 0 ≤ c1 := by omega
    rcases ha with ha | ⟨rfl, ha⟩
    · have p1 := Int.mul_pos ha h2
      have p2 := Int.mul_nonneg hc0 h1
      have p3 : 0 < b1 * (a1 * c2 - a2 * c1) := by omega
      exact Int.pos_of_mul_pos_right p3 hb |> fun h => h
    · have := Int.mul_pos ha hb
      omega
  · rcases hc with hc | ⟨rfl, hc⟩
    · have := Int.mul_pos hb hc
      omega
    · omega
theorem bump {g : Nat → Int} {A B : Nat} (hA : 0 ≤ g A) (hB : 0 ≤ g B) (hs : ∀ k, A ≤ k → k + 1 < B → g (k + 1) - g k ≤ 0 → g (k + 2) - g (k + 1) < 0) (k : Nat) (h1 : A < k) (h2 : k < B) : 0 < g k := by
  apply Classical.byContradiction
  intro hk
  have s1 : ∃ j, A ≤ j ∧ j < k ∧ g (j + 1) - g j ≤ 0 := by
    apply Classical.byContradiction
    intro h
    have up : ∀ n, A + n ≤ k → g A + n ≤ g (A + n) := by
      intro n
      induction n with
      | zero => intro _; simp
      | succ n ih =>
        intro hn
        have := ih (by omega)
        have q : ¬ g (A + n + 1) - g (A + n) ≤ 0 := fun z => h ⟨A + n, by omega, by omega, z⟩
        show g A + ((n + 1 : Nat) : Int) ≤ g (A + n + 1)
        omega
    have := up (k - A) (by omega)
    rw [show A + (k - A) = k by omega] at this
    omega
  obtain ⟨j, j1, j2, j3⟩ := s1
  have dn : ∀ n, j + n + 1 < B → g (j + n + 2) - g (j + n + 1) < 0 := by
    intro n
    induction n with
    | zero => intro hn; exact hs j j1 hn j3
    | succ n ih =>
      intro hn
      have := ih (by omega)
      exact hs (j + n + 1) (by omega) hn (Int.le_of_lt this)
  have fin : ∀ n, k + n < B → g (k + n + 1) < g k := by
    intro n
    induction n with
    | zero =>
      intro hn
      have := dn (k - j - 1) (by omega)
      rw [show j + (k - j - 1) + 2 = k + 1 by omega, show j + (k - j - 1) + 1 = k by omega] at this
      show g (k + 1) < g k
      omega
    | succ n ih =>
      intro hn
      have h := ih (by omega)
      have := dn (k + n - j) (by omega)
      rw [show j + (k + n - j) + 2 = k + (n + 1) + 1 by omega, show j + (k + n - j) + 1 = k + n + 1 by omega] at this
      omega
  have := fin (B - k - 1) (by omega)
  rw [show k + (B - k - 1) + 1 = B by omega] at this
  omega
structure Cyc (q : Nat → Int × Int) (a m : Nat) : Prop where
  lo : ∀ j, j < a → lx (q j) (q (j + 1))
  hi : ∀ j, a ≤ j → j < m → lx (q (j + 1)) (q j)
  tlo : ∀ j, j + 1 < a → 0 < lf (q j) (q (j + 1)) (q (j + 2))
  thi : ∀ j, a ≤ j → j + 1 < m → 0 < lf (q j) (q (j + 1)) (q (j + 2))
  ends : q m = q 0
  am : a ≤ m
section
variable {q : Nat → Int × Int} {a m : Nat}
def dxq (q : Nat → Int × Int) (j : Nat) : Int := (q (j + 1)).1 - (q j).1
def dyq (q : Nat → Int × Int) (j : Nat) : Int := (q (j + 1)).2 - (q j).2
def crq (q : Nat → Int × Int) (i j : Nat) : Int := dxq q i * dyq q j - dyq q i * dxq q j
theorem crq_anti (i j : Nat) : crq q i j = - crq q j i := by unfold crq; grind
theorem lf_next (i k : Nat) : lf (q i) (q (i + 1)) (q (k + 1)) - lf (q i) (q (i + 1)) (q k) = crq q i k := by unfold lf crq dxq dyq; grind
theorem lf_at (i : Nat) : lf (q i) (q (i + 1)) (q i) = 0 := by unfold lf; grind
theorem lf_at1 (i : Nat) : lf (q i) (q (i + 1)) (q (i + 1)) = 0 := by unfold lf; grind
theorem crq_turn (j : Nat) : crq q j (j + 1) = lf (q j) (q (j + 1)) (q (j + 2)) := by
  have h := lf_next (q := q) j (j + 1)
  rw [lf_at1] at h
  rw [← h]; exact Int.sub_zero _
theorem lo_pos (h : lx (q i) (q (i + 1))) : 0 < dxq q i ∨ (dxq q i = 0 ∧ 0 < dyq q i) := by unfold dxq dyq; rcases h with h | ⟨h1, h2⟩ <;> omega
theorem hi_pos (h : lx (q (i + 1)) (q i)) : 0 < -dxq q i ∨ (-dxq q i = 0 ∧ 0 < -dyq q i) := by unfold dxq dyq; rcases h with h | ⟨h1, h2⟩ <;> omega
theorem Cyc.cross_lo (C : Cyc q a m) {i : Nat} : ∀ n, i + n + 1 < a → 0 < crq q i (i + n + 1) := by
  intro n
  induction n with
  | zero => intro h; rw [crq_turn]; exact C.tlo i h
  | succ n ih =>
    intro h
    have h1 := ih (by omega)
    have h2 := C.tlo (i + n + 1) (by omega)
    rw [← crq_turn] at h2
    exact cr_trans (lo_pos (C.lo i (by omega))) (lo_pos (C.lo (i + n + 1) (by omega))) (lo_pos (C.lo (i + n + 2) (by omega))) (Int.le_of_lt h1) h2
theorem Cyc.cross_hi (C : Cyc q a m) {i : Nat} (hi : a ≤ i) : ∀ n, i + n + 1 < m → 0 < crq q i (i + n + 1) := by
  intro n
  induction n with
  | zero => intro h; rw [crq_turn]; exact C.thi i hi h
  | succ n ih =>
    intro h
    have h1 := ih (by omega)
    have h2 := C.thi (i + n + 1) (by omega) (by omega)
    rw [← crq_turn] at h2
    have := cr_trans (hi_pos (C.hi i hi (by omega))) (hi_pos (C.hi (i + n + 1) (by omega) (by omega))) (hi_pos (C.hi (i + n + 2) (by omega) (by omega))) (by unfold crq at h1; grind) (by unfold crq at h2; grind)
    show 0 < crq q i (i + n + 2)
    unfold crq
    grind
theorem Cyc.up_same {i b : Nat} (hc : ∀ n, i + n + 1 < b → 0 < crq q i (i + n + 1)) : ∀ n, i + n + 2 ≤ b → 0 < lf (q i) (q (i + 1)) (q (i + n + 2)) := by
  intro n
  induction n with
  | zero =>
    intro h
    have := lf_next (q := q) i (i + 1)
    rw [lf_at1] at this
    have := hc 0 (by omega)
    show 0 < lf (q i) (q (i + 1)) (q (i + 1 + 1))
    simp only [Nat.add_zero] at *
    omega
  | succ n ih =>
    intro h
    have h1 := ih (by omega)
    have h2 := lf_next (q := q) i (i + n + 2)
    have h3 := hc (n + 1) (by omega)
    show 0 < lf (q i) (q (i + 1)) (q (i + n + 2 + 1))
    rw [show i + (n + 1) + 1 = i + n + 2 by omega] at h3
    omega
theorem Cyc.dn_same {i b : Nat} (hc : ∀ k, b ≤ k → k < i → 0 < crq q k i) : ∀ n, b + n + 1 ≤ i → 0 < lf (q i) (q (i + 1)) (q (i - n - 1)) := by
  intro n
  induction n with
  | zero =>
    intro h
    have h2 := lf_next (q := q) i (i - 1)
    rw [show i - 1 + 1 = i by omega, lf_at, crq_anti] at h2
    have := hc (i - 1) (by omega) (by omega)
    show 0 < lf (q i) (q (i + 1)) (q (i - 1))
    omega
  | succ n ih =>
    intro h
    have h1 := ih (by omega)
    have h2 := lf_next (q := q) i (i - (n + 1) - 1)
    rw [show i - (n + 1) - 1 + 1 = i - n - 1 by omega, crq_anti] at h2
    have := hc (i - (n + 1) - 1) (by omega) (by omega)
    omega
theorem Cyc.left (C : Cyc q a m) (i k : Nat) (hi : i < m) (hk : k < m) (h1 : k ≠ i) (h2 : k ≠ i + 1) (h3 : i + 1 = m → k ≠ 0) : 0 < lf (q i) (q (i + 1)) (q k) := by
  by_cases ha : i < a
  · have up : ∀ k, i + 1 < k → k ≤ a → 0 < lf (q i) (q (i + 1)) (q k) := fun k x y => by
      have := Cyc.up_same (q := q) (i := i) (b := a) C.cross_lo (k - i - 2) (by omega)
      rwa [show i + (k - i - 2) + 2 = k by omega] at this
    have dn : ∀ k, k < i → 0 < lf (q i) (q (i + 1)) (q k) := fun k x => by
      have := Cyc.dn_same (q := q) (i := i) (b := 0) (fun k _ y => by
        have := C.cross_lo (i := k) (i - k - 1) (by omega)
        rwa [show k + (i - k - 1) + 1 = i by omega] at this) (i - k - 1) (by omega)
      rwa [show i - (i - k - 1) - 1 = k by omega] at this
    by_cases hka : k ≤ a
    · rcases Nat.lt_or_gt_of_ne h1 with h | h
      · exact dn k h
      · exact up k (by omega) hka
    · refine bump (g := fun k => lf (q i) (q (i + 1)) (q k)) (A := a) (B := m) ?_ ?_ ?_ k (by omega) hk
      · by_cases e : a = i + 1
        · rw [e]; rw [lf_at1]; exact Int.le_refl _
        · exact Int.le_of_lt (up a (by omega) (Nat.le_refl _))
      · rw [C.ends]
        by_cases e : i = 0
        · rw [e, lf_at]; exact Int.le_refl _
        · exact Int.le_of_lt (dn 0 (by omega))
      · intro k x y z
        rw [lf_next] at z
        rw [show k + 2 = k + 1 + 1 from rfl, lf_next]
        have h2 := C.thi k x y
        rw [← crq_turn] at h2
        have := cr_trans (lo_pos (C.lo i ha)) (hi_pos (C.hi k x (by omega))) (hi_pos (C.hi (k + 1) (by omega) y)) (by unfold crq at z; grind) (by unfold crq at h2; grind)
        unfold crq
        grind
  · have up : ∀ k, i + 1 < k → k ≤ m → 0 < lf (q i) (q (i + 1)) (q k) := fun k x y => by
      have := Cyc.up_same (q := q) (i := i) (b := m) (C.cross_hi (by omega)) (k - i - 2) (by omega)
      rwa [show i + (k - i - 2) + 2 = k by omega] at this
    have dn : ∀ k, a ≤ k → k < i → 0 < lf (q i) (q (i + 1)) (q k) := fun k w x => by
      have := Cyc.dn_same (q := q) (i := i) (b := a) (fun k z y => by
        have := C.cross_hi (i := k) z (i - k - 1) (by omega)
        rwa [show k + (i - k - 1) + 1 = i by omega] at this) (i - k - 1) (by omega)
      rwa [show i - (i - k - 1) - 1 = k by omega] at this
    have zero : i + 1 ≠ m → 0 < lf (q i) (q (i + 1)) (q 0) := fun h => by
      rw [← C.ends]; exact up m (by omega) (Nat.le_refl _)
    by_cases hka : a ≤ k
    · rcases Nat.lt_or_gt_of_ne h1 with h | h
      · exact dn k hka h
      · exact up k (by omega) (by omega)
    · by_cases k0 : k = 0
      · rw [k0]; exact zero fun e => h3 e k0
      refine bump (g := fun k => lf (q i) (q (i + 1)) (q k)) (A := 0) (B := a) ?_ ?_ ?_ k (by omega) (by omega)
      · by_cases e : i + 1 = m
        · rw [← C.ends, ← e, lf_at1]; exact Int.le_refl _
        · exact Int.le_of_lt (zero e)
      · by_cases e : a = i
        · rw [e, lf_at]; exact Int.le_refl _
        · exact Int.le_of_lt (dn a (Nat.le_refl _) (by omega))
      · intro k x y z
        rw [lf_next] at z
        rw [show k + 2 = k + 1 + 1 from rfl, lf_next]
        have h2 := C.tlo k y
        rw [← crq_turn] at h2
        have := cr_trans (hi_pos (C.hi i (by omega) hi)) (lo_pos (C.lo k (by omega))) (lo_pos (C.lo (k + 1) y)) (by unfold crq at z; grind) (by unfold crq at h2; grind)
        unfold crq
        grind
end
theorem eqv_pt (x y : Int × Int) : PyData.eqv (pyP y) (pyP x) = decide (x = y) := by
  obtain ⟨a, b⟩ := x
  obtain ⟨c, d⟩ := y
  simp [pyP, PyData.eqv, PyData.eqvAll]
  rw [Bool.eq_iff_iff]
  simp
  constructor
  · rintro ⟨rfl, rfl⟩; exact ⟨rfl, rfl⟩
  · rintro ⟨rfl, rfl⟩; exact ⟨rfl, rfl⟩
theorem shaped_pts (l : List (Int × Int)) : SeqAt.shaped (.list (l.map pyP)) = true := by
  unfold SeqAt.shaped
  refine Bool.and_eq_true_iff.mpr ⟨?_, decide_eq_true ?_⟩
  · show PyData.canLayAll0 (l.map pyP) = true
    induction l with
    | nil => rfl
    | cons x l ih => simp [PyData.canLayAll0, ih, pyP, PyData.canLay0]
  · have : PyData.depthAll (l.map pyP) ≤ 2 := by
      induction l with
      | nil => simp [PyData.depthAll]
      | cons x l ih => simp [PyData.depthAll, pyP, PyData.depth] at ih ⊢; omega
    simp [PyData.depth]
    omega
def minP (p : Int × Int) (ps : List (Int × Int)) : Int × Int := ps.foldl (fun a y => if y.1 < a.1 ∨ (y.1 = a.1 ∧ y.2 < a.2) then y else a) p
theorem minD_pts (ps : List (Int × Int)) : ∀ p : Int × Int, PySem.W.minD (pyP p) (ps.map pyP) = pyP (minP p ps) := by
  induction ps with
  | nil => intro p; rfl
  | cons y ps ih =>
    intro p
    have e : (if PySem.W.dataLt (pyP y) (pyP p) then pyP y else pyP p) = pyP (if y.1 < p.1 ∨ (y.1 = p.1 ∧ y.2 < p.2) then y else p) := by
      rw [show PySem.W.dataLt (pyP y) (pyP p) = decide (y.1 < p.1 ∨ (y.1 = p.1 ∧ y.2 < p.2)) from PySem.W.dataLt_ii ..]
      by_cases h : y.1 < p.1 ∨ (y.1 = p.1 ∧ y.2 < p.2)
      · rw [if_pos h, if_pos (decide_eq_true h)]
      · rw [if_neg h, if_neg (by simpa using h)]
    show PySem.W.minD (if PySem.W.dataLt (pyP y) (pyP p) then pyP y else pyP p) (ps.map pyP) = _
    rw [e, ih]
    rfl
open Classical in
theorem min_pts (p : Int × Int) (ps : List (Int × Int)) : fMinD [.lst ((p :: ps).map pt)] = some (pt (minP p ps)) := by
  have e := pys_pts (p :: ps)
  have c : MinC (pyP p) (ps.map pyP) := by
    refine ⟨⟨fun x hx y hy => ?_, fun x hx => ?_⟩, ?_⟩
    · rw [← List.map_cons] at hx hy
      obtain ⟨a, _, rfl⟩ := List.mem_map.mp hx
      obtain ⟨b, _, rfl⟩ := List.mem_map.mp hy
      rfl
    · rw [← List.map_cons] at hx
      obtain ⟨a, _, rfl⟩ := List.mem_map.mp hx
      exact fun z => by cases z
    · have : ∀ l : List (Int × Int), PyData.depthAll (l.map pyP) ≤ 60 := fun l => by
        induction l with
        | nil => simp [PyData.depthAll]
        | cons x l ih => simp [PyData.depthAll, pyP, PyData.depth] at ih ⊢; omega
      exact this (p :: ps)
  show (pys ((p :: ps).map pt)).bind _ = _
  rw [e, Option.bind_some]
  show (if MinC (pyP p) (ps.map pyP) then some (qd (PySem.W.minD (pyP p) (ps.map pyP))) else none) = _
  rw [if_pos c, minD_pts]
  simp [qd, qds, pyP, pt]
theorem idx_pts {l : List (Int × Int)} {x : Int × Int} {j : Nat} (h : l[j]? = some x) (hno : ∀ m, m < j → l[m]? ≠ some x) : dIdx (l.map pt) (pt x) = some (.int (j : Nat)) := by
  have e1 : py (pt x) = some (pyP x) := rfl
  have sh : SeqAt.shaped (pyP x) = true := by simp [pyP, SeqAt.shaped, PyData.canLay0, PyData.canLayAll0, PyData.depth, PyData.depthAll]
  unfold dIdx
  rw [e1, pys_pts]
  dsimp only
  rw [if_pos ⟨shaped_pts l, sh⟩]
  have hj : j < l.length := by
    apply Classical.byContradiction
    intro z
    rw [List.getElem?_eq_none (by omega)] at h
    cases h
  have f : (l.map pyP).findIdx? (fun z => PyData.eqv z (pyP x)) = some j := by
    rw [List.findIdx?_eq_some_iff_getElem]
    refine ⟨by rw [List.length_map]; exact hj, ?_, fun m hm => ?_⟩
    · rw [List.getElem?_eq_getElem hj] at h
      rw [List.getElem_map, eqv_pt]
      simp [Option.some.inj h]
    · have hml : m < l.length := Nat.lt_trans hm hj
      have := hno m hm
      rw [List.getElem?_eq_getElem hml] at this
      rw [List.getElem_map, eqv_pt]
      simp
      exact fun z => this (by rw [z])
  rw [f]
  rfl
def Ptb (p : Int × Int) : Prop := p.1.natAbs < 2 ^ 21 ∧ p.2.natAbs < 2 ^ 21
theorem cut_last (ds : List D) : cutD ds none (some (-1)) = ds.dropLast := by
  unfold cutD
  have e0 : HT.sIx ds.length 0 none = 0 := rfl
  have e1 : HT.sIx ds.length ds.length (some (-1)) = ds.length - 1 := by
    unfold HT.sIx
    dsimp only
    rw [if_pos (by decide)]
    omega
  rw [e0, e1, List.drop_zero, Nat.sub_zero, List.dropLast_eq_take]
theorem left_ok {a b c : Int × Int} (ha : Ptb a) (hb : Ptb b) (hc : Ptb c) : m__law_left [pt a, pt b, pt c] () = .ok (.int ((b.1 - a.1) * (c.2 - a.2) - (b.2 - a.2) * (c.1 - a.1))) () := by
  have ix0 : ∀ p : Int × Int, dIx (pt p) (.int 0) = some (.int p.1) := fun _ => rfl
  have ix1 : ∀ p : Int × Int, dIx (pt p) (.int 1) = some (.int p.2) := fun _ => rfl
  have m : ∀ u v w z : Int, u.natAbs < 2 ^ 21 → v.natAbs < 2 ^ 21 → w.natAbs < 2 ^ 21 → z.natAbs < 2 ^ 21 → mulOk (u - v) (w - z) = true := fun u v w z h1 h2 h3 h4 => small_mul (a := 22) (b := 22) (by omega) (by omega) (by decide) (by decide) (by decide)
  apply oE_eq
  unfold m__law_left b__law_left
  simp [ix0, ix1, m _ _ _ _ hb.1 ha.1 hc.2 ha.2, m _ _ _ _ hb.2 ha.2 hc.1 ha.1]
theorem at_last2 {qs : List (Int × Int)} (h : 2 ≤ qs.length) : ∃ a ∈ qs, ∃ b ∈ qs, atI (qs.map pt) (-2) = some (pt a) ∧ atI (qs.map pt) (-1) = some (pt b) := by
  refine ⟨qs[qs.length - 2], List.getElem_mem _, qs[qs.length - 1], List.getElem_mem _, ?_, ?_⟩
  · unfold atI ixN
    rw [List.length_map, if_neg (by decide), if_pos (by omega)]
    show (qs.map pt)[((-2 : Int) + qs.length).toNat]? = _
    rw [show ((-2 : Int) + qs.length).toNat = qs.length - 2 by omega, List.getElem?_eq_getElem (by rw [List.length_map]; omega), List.getElem_map]
  · unfold atI ixN
    rw [List.length_map, if_neg (by decide), if_pos (by omega)]
    show (qs.map pt)[((-1 : Int) + qs.length).toNat]? = _
    rw [show ((-1 : Int) + qs.length).toNat = qs.length - 1 by omega, List.getElem?_eq_getElem (by rw [List.length_map]; omega), List.getElem_map]
theorem half_ok {ps : List (Int × Int)} (hp : ∀ p ∈ ps, Ptb p) (hl : ps.length ≤ 1000) : ∃ qs : List (Int × Int), m__law_half [.lst (ps.map pt)] () = .ok (.lst (qs.map pt)) () ∧ (∀ q ∈ qs, Ptb q) ∧ qs.length ≤ ps.length := by
  have key : oE (m__law_half [.lst (ps.map pt)] ()) (fun d _ => ∃ qs : List (Int × Int), d = .lst (qs.map pt) ∧ (∀ q ∈ qs, Ptb q) ∧ qs.length ≤ ps.length) (fun _ _ _ => False) := by
    unfold m__law_half b__law_half
    simp
    unfold Nxt
    simp
    obtain ⟨I, hI⟩ : ∃ I : List D → Rho → Unit → Prop, I = fun ds ρ t => (∀ d ∈ ds, ∃ p, d = pt p ∧ Ptb p) ∧ ∃ (qs : List (Int × Int)) (s2 : Slot), ρ = [.val (.lst (ps.map pt)), .val (.lst (qs.map pt)), s2] ∧ (∀ q ∈ qs, Ptb q) ∧ qs.length + ds.length ≤ ps.length := ⟨_, rfl⟩
    refine oS_loop I _ _ _ (by
      rw [hI]
      refine ⟨fun d hd => ?_, [], _, rfl, fun q hq => (nomatch hq), by simp⟩
      obtain ⟨p, h, rfl⟩ := List.mem_map.mp hd
      exact ⟨p, rfl, hp p h⟩) ?_ ?_
    · intro d ds ρ t h2
      rw [hI] at h2
      obtain ⟨hd, qs, s2, rfl, hq, hql⟩ := h2
      rw [List.length_cons] at hql
      obtain ⟨p, rfl, hb⟩ := hd d List.mem_cons_self
      refine ⟨_, rfl, ?_⟩
      rw [oS_seq]
      refine oS_while (fun n ρ t => ∃ qs : List (Int × Int), n = qs.length ∧ ρ = [.val (.lst (ps.map pt)), .val (.lst (qs.map pt)), .val (pt p)] ∧ (∀ q ∈ qs, Ptb q) ∧ qs.length + (ds.length + 1) ≤ ps.length) ?_ qs.length _ _ ⟨qs, rfl, rfl, hq, hql⟩
      rintro n ρ t ⟨qs, rfl, rfl, hq, hql⟩
      have fin : ∀ P : Pt Unit, P.nx = I ds → Nxt (sAsg (gN 1) (e2 dAdd (eVarW 1) (eLst (e1 lim (aCons (eVar 2) aNil))))) [.val (.lst (ps.map pt)), .val (.lst (qs.map pt)), .val (pt p)] t P := fun P hP => by
        unfold Nxt
        simp
        rw [hP, hI]
        refine ⟨by omega, fun d h => hd d (List.mem_cons_of_mem _ h), qs ++ [p], .val (pt p), by simp, fun q h => ?_, by simp; omega⟩
        rcases List.mem_append.mp h with h | h
        · exact hq q h
        · rw [List.mem_singleton.mp h]; exact hb
      by_cases h2 : 2 ≤ qs.length
      · obtain ⟨a, ha, b, hb', ea, eb⟩ := at_last2 h2
        simp [ea, eb, left_ok (hq a ha) (hq b hb') hb]
        right
        refine ⟨by omega, ?_⟩
        by_cases hs : (b.1 - a.1) * (p.2 - a.2) - (b.2 - a.2) * (p.1 - a.1) ≤ 0
        · right
          refine ⟨hs, qs.length - 1, by omega, qs.dropLast, by simp, by rw [cut_last, List.map_dropLast], fun a b h => hq _ (List.dropLast_subset _ h), by simp; omega⟩
        · left
          exact ⟨by omega, fin _ rfl⟩
      · simp
        left
        exact ⟨by omega, fin _ rfl⟩
    · intro ρ t h2
      rw [hI] at h2
      obtain ⟨hd, qs, s2, rfl, hq, hql⟩ := h2
      unfold Nxt
      simp [cut_last]
      refine ⟨qs.dropLast, by rw [List.map_dropLast], fun a b h => hq _ (List.dropLast_subset _ h), by simp at hql ⊢; omega⟩
  cases e : m__law_half [.lst (ps.map pt)] () with
  | ok d u =>
    rw [e] at key
    obtain ⟨qs, rfl, h1, h2⟩ := key
    exact ⟨qs, rfl, h1, h2⟩
  | ex n fs u => rw [e] at key; exact key.elim
  | bad => rw [e] at key; exact key.elim
def sc (d : D) : Bool := (tyN d).isSome
theorem sc_ty {d : D} (h : sc d = true) : (tyN d).isSome = true := h
def okT (d : D) : Bool := (tyN d).isSome && (match itD d with
  | some xs => xs.length != 2 || xs.all sc
  | none => true)
theorem okT_ty {d : D} (h : okT d = true) : (tyN d).isSome = true := (Bool.and_eq_true_iff.mp h).1
theorem okT_sc {d : D} {x y : D} (h : okT d = true) (e : itD d = some [x, y]) : ∀ z ∈ [x, y], sc z = true := by
  have z := (Bool.and_eq_true_iff.mp h).2
  rw [e] at z
  have z : [x, y].all sc = true := z
  exact fun x hx => List.all_eq_true.mp z x hx
theorem okT_parts {d : D} {x y : D} (h : okT d = true) (e : itD d = some [x, y]) : ∀ z ∈ [x, y], (tyN z).isSome = true := fun x hx => sc_ty (okT_sc h e x hx)
theorem isi2_seq {d : D} (h : (tyN d).isSome = true) : isi2 d "list" "tuple" = some (itD d).isSome := by
  cases d <;> first
    | (cases h; done)
    | rfl
    | (unfold isi2 isi; rw [tyN_dct h]; rfl)
theorem itD_cases {d : D} {xs : List D} (h : (tyN d).isSome = true) (e : itD d = some xs) : d = .lst xs ∨ d = .tup xs := by
  cases d <;> first
    | (cases e; done)
    | (cases e; exact .inl rfl)
    | (cases e; exact .inr rfl)
    | (cases h; done)
def cN : D → Bool
  | .int i => decide (-1000000 ≤ i) && decide (i ≤ 1000000)
  | _ => false
def crn (d : D) : Bool := match itD d with
  | some [x, y] => cN x && cN y
  | _ => false
theorem fLen_seq {d : D} {xs : List D} (h : (tyN d).isSome = true) (e : itD d = some xs) : fLen [d] = some (.int xs.length) := by
  rcases itD_cases h e with z | z <;> rw [z] <;> rfl
theorem fTup_seq {d : D} {xs : List D} (h : (tyN d).isSome = true) (e : itD d = some xs) : fTup [d] = some (.tup xs) := by
  rcases itD_cases h e with z | z <;> rw [z] <;> rfl
theorem look_corner_ok {d : D} (h : okT d = true) (c : crn d = true) : ∃ xs, itD d = some xs ∧ m_look_corner [d] () = .ok (.tup xs) () := by
  have hi := isi2_seq (okT_ty h)
  cases e : itD d with
  | none => unfold crn at c; rw [e] at c; cases c
  | some xs =>
    unfold crn at c
    rw [e] at c hi
    match xs, e, c with
    | [x, y], e, c =>
      obtain ⟨cx, cy⟩ := Bool.and_eq_true_iff.mp c
      have wx := is_whole_ok (okT_parts h e x (by simp))
      have wy := is_whole_ok (okT_parts h e y (by simp))
      have ln := fLen_seq (okT_ty h) e
      have ft := fTup_seq (okT_ty h) e
      refine ⟨[x, y], rfl, ?_⟩
      cases x with
      | int i =>
        cases y with
        | int j =>
          obtain ⟨c1, c2⟩ := Bool.and_eq_true_iff.mp cx
          obtain ⟨c3, c4⟩ := Bool.and_eq_true_iff.mp cy
          have c1 := of_decide_eq_true c1
          have c2 := of_decide_eq_true c2
          have c3 := of_decide_eq_true c3
          have c4 := of_decide_eq_true c4
          apply oE_eq
          unfold m_look_corner b_look_corner
          simp [hi, ln]
          unfold Nxt
          simp [e, oS_loop_cons, wx, wy, isWh, oE_eChain]
          refine ⟨by omega, by omega, by omega, by omega, ?_⟩
          rw [oS_loop_nil]
          unfold Nxt
          simp [ft]
        | _ => cases cy
      | _ => cases cx
theorem look_corner_ex {d : D} (h : okT d = true) (c : crn d = false) : m_look_corner [d] () = .ex "BadShape" none () := by
  have hi := isi2_seq (okT_ty h)
  apply oE_eqx
  unfold m_look_corner b_look_corner
  cases e : itD d with
  | none => rw [e] at hi; simp [hi]
  | some xs =>
    rw [e] at hi
    have ln := fLen_seq (okT_ty h) e
    by_cases hl : xs.length = 2
    · match xs, e, hl with
      | [x, y], e, _ =>
        have wx := is_whole_ok (okT_parts h e x (by simp))
        have wy := is_whole_ok (okT_parts h e y (by simp))
        have c' : (cN x && cN y) = false := by unfold crn at c; rw [e] at c; exact c
        simp [hi, ln]
        unfold Nxt
        simp [e, oS_loop_cons, wx, wy, oE_eChain]
        cases x with
        | int i =>
          refine .inr ⟨rfl, ?_⟩
          by_cases h1 : -1000000 ≤ i
          · refine .inl ⟨by simp [h1], _, rfl, ?_⟩
            by_cases h2 : i ≤ 1000000
            · refine .inr ⟨by simp [h2], ?_⟩
              have cx : cN (.int i) = true := by unfold cN; simp [h1, h2]
              rw [cx, Bool.true_and] at c'
              cases y with
              | int j =>
                refine .inr ⟨rfl, ?_⟩
                by_cases h3 : -1000000 ≤ j
                · refine .inl ⟨by simp [h3], _, rfl, .inl ?_⟩
                  have h4 : ¬ j ≤ 1000000 := fun h4 => by
                    unfold cN at c'
                    simp [h3, h4] at c'
                  simp [h4]
                · exact .inr (by simp [h3])
              | _ => exact .inl rfl
            · exact .inl (by simp [h2])
          · exact .inr (by simp [h1])
        | _ => exact .inl rfl
    · have hl' : ((xs.length : Nat) : Int) ≠ 2 := by omega
      simp [hi, ln, hl']
def cpt (d : D) : Int × Int := match itD d with
  | some [.int x, .int y] => (x, y)
  | _ => (0, 0)
theorem crn_form {d : D} (h : (tyN d).isSome = true) (c : crn d = true) : ∃ x y : Int, itD d = some [.int x, .int y] ∧ cpt d = (x, y) ∧ x.natAbs ≤ 1000000 ∧ y.natAbs ≤ 1000000 ∧ (d = .lst [.int x, .int y] ∨ d = .tup [.int x, .int y]) := by
  unfold crn at c
  split at c
  · rename_i x y e
    obtain ⟨cx, cy⟩ := Bool.and_eq_true_iff.mp c
    cases x with
    | int i =>
      cases y with
      | int j =>
        obtain ⟨c1, c2⟩ := Bool.and_eq_true_iff.mp cx
        obtain ⟨c3, c4⟩ := Bool.and_eq_true_iff.mp cy
        have c1 := of_decide_eq_true c1
        have c2 := of_decide_eq_true c2
        have c3 := of_decide_eq_true c3
        have c4 := of_decide_eq_true c4
        exact ⟨i, j, e, by unfold cpt; rw [e], by omega, by omega, itD_cases h e⟩
      | _ => cases cy
    | _ => cases cx
  · cases c
def okC (d : D) : Bool := (tyN d).isSome && (match itD d with
  | some xs => xs.all okT
  | none => true)
theorem okC_ty {d : D} (h : okC d = true) : (tyN d).isSome = true := (Bool.and_eq_true_iff.mp h).1
theorem okC_parts {d : D} {xs : List D} (h : okC d = true) (e : itD d = some xs) : ∀ x ∈ xs, okT x = true := by
  have z := (Bool.and_eq_true_iff.mp h).2
  rw [e] at z
  exact fun x hx => List.all_eq_true.mp z x hx
def lfAt (ps : List (Int × Int)) (k j : Nat) : Bool := decide (j = k) || (decide (j = (k + 1) % ps.length) || decide (0 < lf (ps.getD k (0, 0)) (ps.getD ((k + 1) % ps.length) (0, 0)) (ps.getD j (0, 0))))
def sqv (ps : List (Int × Int)) : Bool := (List.range ps.length).all fun k => (List.range ps.length).all fun j => lfAt ps k j
def shpB (d : D) : Bool := match itD d with
  | some xs => (decide (3 ≤ xs.length) && decide (xs.length ≤ 8)) && (xs.all crn && sqv (xs.map cpt))
  | none => false
def mnP : List (Int × Int) → Int × Int
  | [] => (0, 0)
  | p :: ps => minP p ps
def mi (ps : List (Int × Int)) : Nat := ps.findIdx fun q => decide (q = mnP ps)
def rotP (ps : List (Int × Int)) : List (Int × Int) := ps.drop (mi ps) ++ ps.take (mi ps)
theorem minP_mem9 (ps : List (Int × Int)) : ∀ p, minP p ps ∈ p :: ps := by
  induction ps with
  | nil => intro p; simp [minP]
  | cons y ps ih =>
    intro p
    show minP (if y.1 < p.1 ∨ (y.1 = p.1 ∧ y.2 < p.2) then y else p) ps ∈ _
    rcases List.mem_cons.mp (ih (if y.1 < p.1 ∨ (y.1 = p.1 ∧ y.2 < p.2) then y else p)) with h | h
    · rw [h]
      split <;> simp
    · exact List.mem_cons_of_mem _ (List.mem_cons_of_mem _ h)
theorem mnP_mem {ps : List (Int × Int)} (h : 0 < ps.length) : mnP ps ∈ ps := by
  cases ps with
  | nil => simp at h
  | cons p ps => exact minP_mem9 ps p
theorem mi_lt {ps : List (Int × Int)} (h : 0 < ps.length) : mi ps < ps.length := List.findIdx_lt_length_of_exists ⟨_, mnP_mem h, by simp⟩
theorem mi_at {ps : List (Int × Int)} (h : 0 < ps.length) : ps[mi ps]? = some (mnP ps) := by
  have hl := mi_lt h
  rw [List.getElem?_eq_getElem hl]
  have := List.findIdx_getElem (w := hl) (p := fun q => decide (q = mnP ps))
  exact congrArg some (of_decide_eq_true this)
theorem mi_no {ps : List (Int × Int)} {m : Nat} (h : m < mi ps) : ps[m]? ≠ some (mnP ps) := by
  have hl : m < ps.length := Nat.lt_of_lt_of_le h List.findIdx_le_length
  rw [List.getElem?_eq_getElem hl]
  have := List.not_of_lt_findIdx h
  intro z
  simp at this z
  exact this z
theorem mn_idx {ps : List (Int × Int)} (h : 0 < ps.length) : fMinD [.lst (ps.map pt)] = some (pt (mnP ps)) ∧ dIdx (ps.map pt) (pt (mnP ps)) = some (.int (mi ps : Nat)) := by
  refine ⟨?_, idx_pts (mi_at h) fun m hm => mi_no hm⟩
  cases ps with
  | nil => simp at h
  | cons p ps => exact min_pts p ps
theorem cut9_lo {α : List D} {j : Nat} (h : j ≤ α.length) : cutD α (some (j : Nat)) none = α.drop j := by
  unfold cutD
  rw [HT.sIx_nat, HT.sIx_none, Nat.min_eq_left h]
  rw [List.take_of_length_le]
  rw [List.length_drop]; omega
theorem cut9_hi {α : List D} {j : Nat} (h : j ≤ α.length) : cutD α none (some (j : Nat)) = α.take j := by
  unfold cutD
  rw [HT.sIx_nat, HT.sIx_none, Nat.min_eq_left h, List.drop_zero, Nat.sub_zero]
theorem bls_all9 {α : Type} (xs : List α) (p : α → Bool) : blsD (xs.map fun x => .bl (p x)) = some (xs.map p) := by
  induction xs with
  | nil => rfl
  | cons x xs ih => show (blsD (xs.map fun x => .bl (p x))).map (p x :: ·) = _; rw [ih]; rfl
def Pb9 (p : Int × Int) : Prop := p.1.natAbs ≤ 1000000 ∧ p.2.natAbs ≤ 1000000
theorem mul9 {a b c d : Int} (h1 : a.natAbs ≤ 1000000) (h2 : b.natAbs ≤ 1000000) (h3 : c.natAbs ≤ 1000000) (h4 : d.natAbs ≤ 1000000) : mulOk (a - b) (c - d) = true := small_mul (a := 22) (b := 22) (by omega) (by omega) (by decide) (by decide) (by decide)
theorem is_left9 {a b c : Int × Int} (ha : Pb9 a) (hb : Pb9 b) (hc : Pb9 c) : m_is_left [pt a, pt b, pt c] () = .ok (.bl (decide (0 < lf a b c))) () := by
  apply oE_eq
  unfold m_is_left b_is_left
  simp [pt]
  unfold Nxt
  simp
  refine ⟨mul9 hb.1 ha.1 hc.2 ha.2, mul9 hb.2 ha.2 hc.1 ha.1, ?_⟩
  unfold lf
  omega
theorem look_all {ρ : Rho} (hρ : 8 < ρ.length) {X : Str → Fds → Unit → Prop} : ∀ {xs : List D} {Q : List D → Unit → Prop}, (∀ x ∈ xs, okT x = true) → (xs.all crn = true → Q ((xs.map cpt).map pt) ()) → (xs.all crn = false → X "BadShape" none ()) →
    oE (compLX (gN 8) (fun _ t => .ok true t) (eCall m_look_corner [] (aCons (eVar 8) aNil)) ρ xs ()) Q X
  | [], _, _, h, _ => h rfl
  | x :: xs, Q, hx, h1, h2 => by
    have tx := hx x List.mem_cons_self
    have ev : (ρ.set 8 (Slot.val x))[8]? = some (.val x) := List.getElem?_set_self hρ
    rw [compLX_cons (ρ1 := ρ.set 8 (.val x)) rfl rfl]
    simp only [oE_call, oE_cons, oE_var, oE_nil, ev, List.append_nil]
    by_cases c : crn x = true
    · obtain ⟨a, b, e, ec, _, _, _⟩ := crn_form (okT_ty tx) c
      obtain ⟨ys, ey, el⟩ := look_corner_ok tx c
      rw [e] at ey
      cases ey
      rw [el]
      simp only [oE_ok]
      refine look_all hρ (Q := fun ys t => Q (.tup [.int a, .int b] :: ys) t) (fun z hz => hx z (List.mem_cons_of_mem _ hz)) (fun h => ?_) fun h => h2 ?_
      · have := h1 (by rw [List.all_cons, c, h]; rfl)
        rw [List.map_cons, List.map_cons, ec] at this
        exact this
      · rw [List.all_cons, h, Bool.and_false]
    · have c : crn x = false := by cases e : crn x with | true => exact absurd e c | false => rfl
      rw [look_corner_ex tx c]
      exact h2 (by rw [List.all_cons, c]; rfl)
theorem enum_pts (ps : List (Int × Int)) : enumD (ps.map pt) = (ps.zipIdx).map fun e => .tup [.int (e.2 : Nat), pt e.1] := by
  unfold enumD
  apply List.ext_getElem?
  intro i
  rw [List.getElem?_mapIdx, List.getElem?_map, List.getElem?_map, List.getElem?_zipIdx]
  cases ps[i]? <;> simp
theorem getD9 {ps : List (Int × Int)} {k : Nat} {p : Int × Int} (h : ps[k]? = some p) : ps.getD k (0, 0) = p := by rw [List.getD_eq_getElem?_getD, h]; rfl
theorem all_lf (ps : List (Int × Int)) (k : Nat) : ((ps.zipIdx.filter fun e => !decide (e.2 = k) && !decide (e.2 = (k + 1) % ps.length)).map fun e => decide (0 < lf (ps.getD k (0, 0)) (ps.getD ((k + 1) % ps.length) (0, 0)) e.1)).all id = (List.range ps.length).all fun j => lfAt ps k j := by
  rw [Bool.eq_iff_iff, List.all_eq_true, List.all_eq_true]
  constructor
  · intro h j hj
    have hj := List.mem_range.mp hj
    unfold lfAt
    by_cases q1 : j = k
    · simp [q1]
    by_cases q2 : j = (k + 1) % ps.length
    · simp [q2]
    have := h (decide (0 < lf (ps.getD k (0, 0)) (ps.getD ((k + 1) % ps.length) (0, 0)) ps[j])) (List.mem_map.mpr ⟨(ps[j], j), List.mem_filter.mpr ⟨by
      rw [List.mem_zipIdx_iff_getElem?, List.getElem?_eq_getElem hj], by simp [q1, q2]⟩, rfl⟩)
    rw [getD9 (k := j) (List.getElem?_eq_getElem hj)]
    simp at this
    simp [q1, q2, this]
  · intro h b hb
    obtain ⟨e, he, rfl⟩ := List.mem_map.mp hb
    obtain ⟨h1, h2⟩ := List.mem_filter.mp he
    rw [List.mem_zipIdx_iff_getElem?] at h1
    have hl : e.2 < ps.length := by
      apply Classical.byContradiction
      intro z
      rw [List.getElem?_eq_none (by omega)] at h1
      cases h1
    have := h e.2 (List.mem_range.mpr hl)
    unfold lfAt at this
    rw [getD9 h1] at this
    simp at h2
    simp [h2.1, h2.2] at this
    simp [this]
theorem look_shape9 {d : D} (h : okC d = true) {Q : D → Unit → Prop} {X : Str → Fds → Unit → Prop} (h1 : shpB d = true → ∀ xs, itD d = some xs → Q (.tup ((rotP (xs.map cpt)).map pt)) ()) (h2 : shpB d = false → X "BadShape" none ()) : oE (m_look_shape [d] ()) Q X := by
  have ty := okC_ty h
  have hi := isi2_seq ty
  unfold m_look_shape b_look_shape
  cases e : itD d with
  | none =>
    rw [e] at hi
    have es : shpB d = false := by unfold shpB; rw [e]
    simp [hi]
    exact h2 es
  | some xs =>
    rw [e] at hi
    have hx := okC_parts h e
    have ln := fLen_seq ty e
    have es : shpB d = ((decide (3 ≤ xs.length) && decide (xs.length ≤ 8)) && (xs.all crn && sqv (xs.map cpt))) := by unfold shpB; rw [e]
    by_cases hl : 3 ≤ xs.length ∧ xs.length ≤ 8
    · have g1 : (3 : Int) ≤ (xs.length : Nat) := by omega
      have g2 : ((xs.length : Nat) : Int) ≤ 8 := by omega
      simp only [decide_eq_true hl.1, decide_eq_true hl.2, Bool.true_and] at es
      simp [hi, ln, oE_eChain, g1, g2]
      unfold Nxt
      simp [e]
      refine ⟨by omega, look_all (by simp [wipeR]) hx (fun ha => ?_) fun ha => h2 (by rw [es, ha, Bool.false_and])⟩
      rw [ha, Bool.true_and] at es
      have hP : ∀ p ∈ xs.map cpt, Pb9 p := fun p hp => by
        obtain ⟨x, hx', rfl⟩ := List.mem_map.mp hp
        obtain ⟨a, b, _, ec, q1, q2, _⟩ := crn_form (okT_ty (hx x hx')) (List.all_eq_true.mp ha x hx')
        rw [ec]
        exact ⟨q1, q2⟩
      have h1 := fun q => h1 q xs e
      have hn : (xs.map cpt).length = xs.length := List.length_map ..
      generalize xs.map cpt = ps at es hP h1 hn ⊢
      have hl : 3 ≤ ps.length ∧ ps.length ≤ 8 := by omega
      clear hx ln e hi hn g1 g2 ha
      unfold Nxt
      simp
      unfold Nxt
      simp [enum_pts]
      obtain ⟨I, hI⟩ : ∃ I : List ((Int × Int) × Nat) → List ((Int × Int) × Nat) → Rho → Unit → Prop, I = fun dn _ ρ _ => (∃ s3 s4 s5 s6, ρ = [.val d, .val (.lst (ps.map pt)), .val (.int (ps.length : Nat)), s3, s4, s5, s6, .no, .no, .no, .no]) ∧ ∀ k, k < dn.length → ((List.range ps.length).all fun j => lfAt ps k j) = true := ⟨_, rfl⟩
      refine oS_loopE I ps.zipIdx (by rw [hI]; exact ⟨⟨_, _, _, _, rfl⟩, fun k hk => absurd hk (Nat.not_lt_zero _)⟩) ?_ ?_
      · intro dn e td ρ t eq hh
        rw [hI] at hh
        obtain ⟨⟨s3, s4, s5, s6, rfl⟩, hd⟩ := hh
        have hdl : dn.length < ps.length := by
          have := congrArg List.length eq
          simp at this
          omega
        have ee : e = (ps[dn.length], dn.length) := by
          have h1 : ps.zipIdx[dn.length]? = some e := by rw [eq]; simp
          rw [List.getElem?_zipIdx, List.getElem?_eq_getElem hdl] at h1
          simp at h1
          exact h1.symm
        subst ee
        generalize hkd : dn.length = k at hdl hd ⊢
        have eb : (k + 1) % ps.length < ps.length := Nat.mod_lt _ (by omega)
        have em : ((k : Int) + 1).fmod (ps.length : Nat) = (((k + 1) % ps.length : Nat) : Int) := by
          rw [show ((k : Int) + 1) = ((k + 1 : Nat) : Int) by omega, fmod_nat]
        have nz : ((ps.length : Nat) : Int) ≠ 0 := by omega
        refine ⟨_, rfl, ?_⟩
        have em2 : ((k : Int) + 1) % (ps.length : Nat) = (((k + 1) % ps.length : Nat) : Int) := by rw [Int.natCast_emod, Int.natCast_add]; rfl
        simp [enum_pts, nz]
        have ne : ¬ ps = [] := fun z => by rw [z] at hdl; exact absurd hdl (Nat.not_lt_zero _)
        refine ⟨ne, ?_⟩
        have lfe := all_lf ps k
        first | rw [em] | rw [em2]
        clear em em2
        generalize hb : (k + 1) % ps.length = b at eb lfe ⊢
        unfold Nxt
        simp [enum_pts]
        refine ⟨by omega, comp_filt (enc := fun e : (Int × Int) × Nat => .tup [.int (e.2 : Nat), pt e.1]) (f := fun e => pt e.1) (p := fun e => !decide (e.2 = k) && !decide (e.2 = b)) (fun e he => ⟨_, rfl, ?_, fun _ => ?_⟩) ?_⟩
        · simp [wipeR]
          by_cases q : e.2 = k <;> simp [q]
          omega
        · simp [wipeR]
        unfold Nxt
        simp
        have hk0 : ps.getD k (0, 0) = ps[k] := getD9 (List.getElem?_eq_getElem hdl)
        have hb0 : ps.getD b (0, 0) = ps[b] := getD9 (List.getElem?_eq_getElem eb)
        rw [hk0, hb0] at lfe
        have mz : ∀ e ∈ ps.zipIdx.filter (fun e => !decide (e.2 = k) && !decide (e.2 = b)), Pb9 e.1 := fun e he => by
          have := (List.mem_filter.mp he).1
          rw [List.mem_zipIdx_iff_getElem?] at this
          exact hP _ (List.mem_of_getElem? this)
        have mlen : (ps.zipIdx.filter (fun e => !decide (e.2 = k) && !decide (e.2 = b))).length ≤ ps.length := by
          refine Nat.le_trans (List.length_filter_le ..) ?_
          rw [List.length_zipIdx]; exact Nat.le_refl _
        generalize ps.zipIdx.filter (fun e => !decide (e.2 = k) && !decide (e.2 = b)) = fs at lfe mz mlen ⊢
        refine ⟨by omega, comp_map (enc := fun e : (Int × Int) × Nat => pt e.1) (f := fun e => .bl (decide (0 < lf ps[k] ps[b] e.1))) (fun e he => ⟨_, rfl, ?_⟩) ?_⟩
        · have ab : atI (ps.map pt) (b : Int) = some (pt ps[b]) := atI_nat (by rw [List.getElem?_map, List.getElem?_eq_getElem eb]; rfl)
          simp [wipeR, ab, is_left9 (hP _ (List.getElem_mem hdl)) (hP _ (List.getElem_mem eb)) (mz e he)]
        · refine ⟨_, ⟨_, bls_all9 fs fun e => decide (0 < lf ps[k] ps[b] e.1), rfl⟩, ?_⟩
          rw [lfe]
          cases hv : (List.range ps.length).all fun j => lfAt ps k j with
          | false =>
            refine .inl ⟨rfl, h2 ?_⟩
            rw [es]
            cases hs : sqv ps with
            | false => rfl
            | true => exact absurd (List.all_eq_true.mp hs k (List.mem_range.mpr hdl)) (by rw [hv]; exact Bool.false_ne_true)
          | true =>
            refine .inr ⟨rfl, ?_⟩
            rw [hI]
            refine ⟨⟨_, _, _, _, rfl⟩, fun m hm => ?_⟩
            rw [List.length_append, hkd] at hm
            have hm : m < k + 1 := hm
            by_cases q : m = k
            · rw [q]; exact hv
            · exact hd m (by omega)
      · intro ρ t hh
        rw [hI] at hh
        obtain ⟨⟨s3, s4, s5, s6, rfl⟩, hd⟩ := hh
        have sq : sqv ps = true := List.all_eq_true.mpr fun k hk => hd k (by rw [List.length_zipIdx]; exact List.mem_range.mp hk)
        obtain ⟨m1, m2⟩ := mn_idx (ps := ps) (by omega)
        have ml := mi_lt (ps := ps) (by omega)
        have h1 := h1 (by rw [es, sq])
        have c1 := cut9_lo (α := ps.map pt) (j := mi ps) (by rw [List.length_map]; omega)
        have c2 := cut9_hi (α := ps.map pt) (j := mi ps) (by rw [List.length_map]; omega)
        unfold Nxt
        simp [m1, m2]
        unfold Nxt
        simp [c1, c2]
        refine ⟨by omega, ?_⟩
        rw [rotP, List.map_append, List.map_drop, List.map_take] at h1
        exact h1
    · have g : ¬ ((3 : Int) ≤ (xs.length : Nat) ∧ ((xs.length : Nat) : Int) ≤ 8) := by omega
      have es : shpB d = false := by
        rw [es]
        by_cases q1 : 3 ≤ xs.length <;> by_cases q2 : xs.length ≤ 8 <;> simp [q1, q2]
        exact absurd ⟨q1, q2⟩ hl
      have h2 := h2 es
      simp [hi, ln, oE_eChain]
      by_cases q : 3 ≤ xs.length
      · exact .inl ⟨by omega, .inl ⟨by omega, h2⟩⟩
      · exact .inr ⟨by omega, h2⟩
theorem hull6 {ps : List (Int × Int)} (hp : ∀ p ∈ ps, Ptb p) (hl : ps.length ≤ 12) : ∃ qs : List (Int × Int), m__law_hull [.lst (ps.map pt)] () = .ok (.tup (qs.map pt)) () ∧ (∀ q ∈ qs, Ptb q) ∧ qs.length ≤ 24 ∧ 3 ≤ qs.length := by
  obtain ⟨rs, e1, pm⟩ := sort_pts ps
  have hr : ∀ p ∈ rs, Ptb p := fun p h => hp p (pm.mem_iff.mp h)
  have rl := pm.length_eq
  obtain ⟨us, e2, h2, l2⟩ := half_ok hr (by omega)
  obtain ⟨vs, e3, h3, l3⟩ := half_ok (ps := rs.reverse) (fun p h => hr p (List.mem_reverse.mp h)) (by rw [List.length_reverse]; omega)
  rw [List.length_reverse] at l3
  rw [List.map_reverse] at e3
  have e4 : dRev (.lst (rs.map pt)) = some ((rs.map pt).reverse) := rfl
  by_cases h : us.length + vs.length < 3
  · refine ⟨[(0, 0), (2, 0), (0, 2)], ?_, fun q hq => ?_, by simp, by simp⟩
    · apply oE_eq
      unfold m__law_hull b__law_hull
      simp [e1]
      unfold Nxt
      simp [e2, e3, e4]
      refine ⟨by omega, ?_⟩
      unfold Nxt
      simp
      have h' : ¬ ((3 : Int) ≤ (us.length : Int) + (vs.length : Int)) := by omega
      simp [h']
      exact ⟨by omega, rfl, rfl, rfl⟩
    · rcases List.mem_cons.mp hq with rfl | hq
      · exact ⟨by decide, by decide⟩
      · rcases List.mem_cons.mp hq with rfl | hq
        · exact ⟨by decide, by decide⟩
        · rw [List.mem_singleton.mp hq]; exact ⟨by decide, by decide⟩
  · refine ⟨us ++ vs, ?_, fun q hq => ?_, by simp; omega, by simp; omega⟩
    · apply oE_eq
      unfold m__law_hull b__law_hull
      simp [e1]
      unfold Nxt
      simp [e2, e3, e4]
      refine ⟨by omega, ?_⟩
      unfold Nxt
      simp
      have h' : ((3 : Int) ≤ (us.length : Int) + (vs.length : Int)) := by omega
      simp [h']
      unfold Nxt
      simp
    · rcases List.mem_append.mp hq with h | h
      · exact h2 q h
      · exact h3 q h
theorem crn_two {d : D} {x y : D} (e : itD d = some [x, y]) : crn d = (cN x && cN y) := by unfold crn; rw [e]
theorem crn_not2 {d : D} {xs : List D} (e : itD d = some xs) (h : xs.length ≠ 2) : crn d = false := by
  unfold crn
  rw [e]
  match xs, h with
  | [], _ => rfl
  | [_], _ => rfl
  | [_, _], h => exact absurd rfl h
  | _ :: _ :: _ :: _, _ => rfl
theorem crn_none {d : D} (e : itD d = none) : crn d = false := by unfold crn; rw [e]
theorem num6q {z : D} (h : (tyN z).isSome = true) {ρ : Rho} (e : ρ[2]? = some (.val z)) {Q : Bool → Unit → Prop} {X : Str → Fds → Unit → Prop} (q : Q (!cN z) ()) :
    oE (tOr2 (tNot1 (e1 truth (e1 fIsi (aCons (eVarW 2) (aCons (eC (.ty "int")) aNil))))) (tOr2 (e1 truth (e1 fIsi (aCons (eVarW 2) (aCons (eC (.ty "bool")) aNil)))) (e1 asB (e2 dGt (e1 fAbs (aCons (eVarW 2) aNil)) (eC (.int 1000000))))) ρ ()) Q X := by
  obtain ⟨a, b, h1, h2, h3⟩ := isi_int h
  simp [fIsi, h1, h2, e]
  cases a with
  | false =>
    have c : cN z = false := by
      cases z with
      | int i => cases h1
      | _ => rfl
    rw [c] at q
    simp
    exact q
  | true =>
    simp
    cases b with
    | true =>
      have c : cN z = false := by
        cases z with
        | int i => cases h2
        | _ => rfl
      rw [c] at q
      simp
      exact q
    | false =>
      simp
      cases z with
      | int i =>
        simp [cN] at q ⊢
        by_cases h1 : -1000000 ≤ i <;> by_cases h2 : i ≤ 1000000 <;> simp [h1, h2] at q ⊢
        · exact .inl ⟨by omega, q⟩
        · exact .inr ⟨by omega, q⟩
        · exact .inr ⟨by omega, q⟩
        · exact .inr ⟨by omega, q⟩
      | _ => cases h3
theorem num6 {z : D} (h : (tyN z).isSome = true) {ρ : Rho} (e : ρ[2]? = some (.val z)) : (tOr2 (tNot1 (e1 truth (e1 fIsi (aCons (eVarW 2) (aCons (eC (.ty "int")) aNil))))) (tOr2 (e1 truth (e1 fIsi (aCons (eVarW 2) (aCons (eC (.ty "bool")) aNil)))) (e1 asB (e2 dGt (e1 fAbs (aCons (eVarW 2) aNil)) (eC (.int 1000000))))) ρ ()) = .ok (!cN z) () := oE_eq (num6q h e ⟨rfl, rfl⟩)
theorem left6 {a b c : Int × Int} (ha : Pb9 a) (hb : Pb9 b) (hc : Pb9 c) : m__law_left [pt a, pt b, pt c] () = .ok (.int (lf a b c)) () := by
  have ix0 : ∀ p : Int × Int, dIx (pt p) (.int 0) = some (.int p.1) := fun _ => rfl
  have ix1 : ∀ p : Int × Int, dIx (pt p) (.int 1) = some (.int p.2) := fun _ => rfl
  apply oE_eq
  unfold m__law_left b__law_left
  simp [ix0, ix1, mul9 hb.1 ha.1 hc.2 ha.2, mul9 hb.2 ha.2 hc.1 ha.1]
  unfold lf
  omega
theorem law_form6 {d : D} (h : okC d = true) : (shpB d = true ∧ ∃ xs, itD d = some xs ∧ m__law_form [d] () = .ok (.tup ((rotP (xs.map cpt)).map pt)) ()) ∨ (shpB d = false ∧ m__law_form [d] () = .ok .non ()) := by
  have key : oE (m__law_form [d] ()) (fun r _ => (shpB d = true ∧ ∃ xs, itD d = some xs ∧ r = .tup ((rotP (xs.map cpt)).map pt)) ∨ (shpB d = false ∧ r = .non)) (fun _ _ _ => False) := by
    have ty := okC_ty h
    have hi := isi2_seq ty
    unfold m__law_form b__law_form
    cases e : itD d with
    | none =>
      rw [e] at hi
      have es : shpB d = false := by unfold shpB; rw [e]
      simp [hi, es]
    | some xs =>
      rw [e] at hi
      have hx := okC_parts h e
      have ln := fLen_seq ty e
      have es : shpB d = ((decide (3 ≤ xs.length) && decide (xs.length ≤ 8)) && (xs.all crn && sqv (xs.map cpt))) := by unfold shpB; rw [e]
      by_cases hl : 3 ≤ xs.length ∧ xs.length ≤ 8
      · have g1 : ¬ ((xs.length : Nat) : Int) < 3 := by omega
        have g2 : ¬ (8 : Int) < ((xs.length : Nat) : Int) := by omega
        simp only [decide_eq_true hl.1, decide_eq_true hl.2, Bool.true_and] at es
        simp [hi, ln, g1, g2]
        obtain ⟨I, hI⟩ : ∃ I : List D → Rho → Unit → Prop, I = fun ds ρ _ => (∃ s1 s2 : Slot, s1.nown = true ∧ ρ = [.val d, s1, s2, .no, .no, .no, .no, .no, .no, .no]) ∧ (∀ x ∈ ds, okT x = true) ∧ ds.all crn = xs.all crn := ⟨_, rfl⟩
        unfold Nxt
        simp [e]
        refine oS_loop I _ _ _ (by rw [hI]; exact ⟨⟨_, _, rfl, rfl⟩, hx, rfl⟩) ?_ ?_
        · intro x ds ρ t hh
          rw [hI] at hh
          obtain ⟨⟨s1, s2, _, rfl⟩, ho, ha⟩ := hh
          refine ⟨_, rfl, ?_⟩
          have tx := ho x List.mem_cons_self
          have hix := isi2_seq (okT_ty tx)
          have bad : crn x = false → shpB d = false := fun c => by rw [es, ← ha, List.all_cons, c]; rfl
          have nxt : crn x = true → ∀ s2, I ds [.val d, .val x, s2, .no, .no, .no, .no, .no, .no, .no] () := fun c s2 => by
            rw [hI]
            refine ⟨⟨_, _, rfl, rfl⟩, fun y hy => ho y (List.mem_cons_of_mem _ hy), ?_⟩
            rw [← ha, List.all_cons, c, Bool.true_and]
          clear hI
          cases ex : itD x with
          | none =>
            rw [ex] at hix
            simp [hix, bad (crn_none ex)]
          | some ys =>
            rw [ex] at hix
            have lnx := fLen_seq (okT_ty tx) ex
            by_cases h2 : ys.length = 2
            · match ys, ex, h2 with
              | [u, v], ex, _ =>
                have c2 := crn_two ex
                have nu := num6 (z := u) (okT_parts tx ex u (by simp)) (ρ := [.val d, .val x, .val u, .no, .no, .no, .no, .no, .no, .no]) rfl
                have nv := num6 (z := v) (okT_parts tx ex v (by simp)) (ρ := [.val d, .val x, .val v, .no, .no, .no, .no, .no, .no, .no]) rfl
                simp [hix, lnx]
                unfold Nxt
                simp [ex]
                clear hix lnx
                rw [oS_loop_cons]
                refine ⟨[.val d, .val x, .val u, .no, .no, .no, .no, .no, .no, .no], rfl, ?_⟩
                rw [oS_if, nu]
                by_cases cu : cN u = true
                · rw [cu, Bool.true_and] at c2
                  rw [cu]
                  refine ⟨fun z => absurd z (by decide), fun _ => ?_⟩
                  show oS (loopF _ _ [v] _ _) _
                  rw [oS_loop_cons]
                  refine ⟨[.val d, .val x, .val v, .no, .no, .no, .no, .no, .no, .no], rfl, ?_⟩
                  rw [oS_if, nv]
                  by_cases cv : cN v = true
                  · rw [cv] at c2
                    rw [cv]
                    refine ⟨fun z => absurd z (by decide), fun _ => ?_⟩
                    exact nxt c2 _
                  · have cv : cN v = false := by cases q : cN v with | true => exact absurd q cv | false => rfl
                    rw [cv] at c2
                    rw [cv]
                    refine ⟨fun _ => ?_, fun z => absurd rfl z⟩
                    simp [bad c2]
                · have cu : cN u = false := by cases q : cN u with | true => exact absurd q cu | false => rfl
                  rw [cu, Bool.false_and] at c2
                  rw [cu]
                  refine ⟨fun _ => ?_, fun z => absurd rfl z⟩
                  simp [bad c2]
            · have h2' : ¬ ((ys.length : Nat) : Int) = 2 := by omega
              simp [hix, lnx, h2', bad (crn_not2 ex h2)]
        · intro ρ t hh
          rw [hI] at hh
          obtain ⟨⟨s1, s2, n1, rfl⟩, _, ha⟩ := hh
          have ha : xs.all crn = true := ha.symm
          rw [ha, Bool.true_and] at es
          have hP : ∀ p ∈ xs.map cpt, Pb9 p := fun p hp => by
            obtain ⟨x, hx', rfl⟩ := List.mem_map.mp hp
            obtain ⟨a, b, _, ec, q1, q2, _⟩ := crn_form (okT_ty (hx x hx')) (List.all_eq_true.mp ha x hx')
            rw [ec]
            exact ⟨q1, q2⟩
          have hF : ∀ x ∈ xs, fTup [x] = some (pt (cpt x)) := fun x hx' => by
            obtain ⟨a, b, ex, ec, _⟩ := crn_form (okT_ty (hx x hx')) (List.all_eq_true.mp ha x hx')
            rw [fTup_seq (okT_ty (hx x hx')) ex, ec]
            rfl
          clear hI hi ln g1 g2
          have hn : (xs.map cpt).length = xs.length := List.length_map ..
          show Nxt _ _ _ _
          unfold Nxt
          simp [e]
          refine ⟨⟨by omega, n1⟩, ?_⟩
          generalize hrr : D.tup (List.map pt (rotP (xs.map cpt))) = rr
          generalize hxx : xs.map (fun x => pt (cpt x)) = zs
          rw [show xs = xs.map id by simp]
          refine comp_map (α := D) (enc := id) (f := fun x => pt (cpt x)) (fun x hx' => ⟨_, rfl, by simp [hF x hx']⟩) ?_
          rw [hxx, ← hxx, show xs.map (fun x => pt (cpt x)) = (xs.map cpt).map pt by rw [List.map_map]; rfl]
          generalize xs.map cpt = ps at es hP hn hrr ⊢
          have hl : 3 ≤ ps.length ∧ ps.length ≤ 8 := by omega
          clear hx hF e ha hn hxx
          subst hrr
          have nz : ((ps.length : Nat) : Int) ≠ 0 := by omega
          unfold Nxt
          simp
          unfold Nxt
          simp [enum_pts]
          obtain ⟨I, hI⟩ : ∃ I : List ((Int × Int) × Nat) → List ((Int × Int) × Nat) → Rho → Unit → Prop, I = fun dn _ ρ _ => (∃ s1 s2 s5 s6 s7 s8 s9, ρ = [.val d, s1, s2, .val (.lst (ps.map pt)), .val (.int (ps.length : Nat)), s5, s6, s7, s8, s9]) ∧ ∀ k, k < dn.length → ((List.range ps.length).all fun j => lfAt ps k j) = true := ⟨_, rfl⟩
          refine oS_loopE I ps.zipIdx (by rw [hI]; exact ⟨⟨_, _, _, _, _, _, _, rfl⟩, fun k hk => absurd hk (Nat.not_lt_zero _)⟩) ?_ ?_
          · intro dn e td ρ t eq hh
            rw [hI] at hh
            obtain ⟨⟨s1, s2, s5, s6, s7, s8, s9, rfl⟩, hd⟩ := hh
            have hdl : dn.length < ps.length := by
              have := congrArg List.length eq
              simp at this
              omega
            have ee : e = (ps[dn.length], dn.length) := by
              have h1 : ps.zipIdx[dn.length]? = some e := by rw [eq]; simp
              rw [List.getElem?_zipIdx, List.getElem?_eq_getElem hdl] at h1
              simp at h1
              exact h1.symm
            subst ee
            have nxt : ((List.range ps.length).all fun j => lfAt ps dn.length j) = true → ∀ s1 s2 s5 s6 s7 s8 s9 t, I (dn ++ [(ps[dn.length], dn.length)]) td [.val d, s1, s2, .val (.lst (ps.map pt)), .val (.int (ps.length : Nat)), s5, s6, s7, s8, s9] t := fun c s1 s2 s5 s6 s7 s8 s9 t => by
              rw [hI]
              refine ⟨⟨_, _, _, _, _, _, _, rfl⟩, fun k hk => ?_⟩
              rw [List.length_append] at hk
              rcases Nat.lt_or_ge k dn.length with z | z
              · exact hd k z
              · rw [show k = dn.length by simp at hk; omega]; exact c
            have bad : ∀ j, j < ps.length → lfAt ps dn.length j = false → shpB d = false := fun j hj c => by
              rw [es]
              unfold sqv
              rw [List.all_eq_false]
              refine ⟨dn.length, List.mem_range.mpr hdl, ?_⟩
              rw [Bool.not_eq_true, List.all_eq_false]
              exact ⟨j, List.mem_range.mpr hj, by rw [c]; decide⟩
            clear hI
            generalize dn ++ [(ps[dn.length], dn.length)] = dm at nxt ⊢
            clear hd eq
            generalize hkd : dn.length = k at hdl nxt bad ⊢
            have eb : (k + 1) % ps.length < ps.length := Nat.mod_lt _ (by omega)
            have em : ((k : Int) + 1).fmod (ps.length : Nat) = (((k + 1) % ps.length : Nat) : Int) := by
              rw [show ((k : Int) + 1) = ((k + 1 : Nat) : Int) by omega, fmod_nat]
            have em2 : ((k : Int) + 1) % (ps.length : Nat) = (((k + 1) % ps.length : Nat) : Int) := by rw [Int.natCast_emod, Int.natCast_add]; rfl
            refine ⟨_, rfl, ?_⟩
            simp [nz]
            have ne : ¬ ps = [] := fun z => by rw [z] at hdl; exact absurd hdl (Nat.not_lt_zero _)
            have ab : atI (ps.map pt) (((k + 1) % ps.length : Nat) : Int) = some (pt ps[(k + 1) % ps.length]) := atI_nat (by rw [List.getElem?_map, List.getElem?_eq_getElem eb]; rfl)
            refine ⟨ne, _, (by rw [em]; exact ab), ?_⟩
            have hb0 : ps.getD ((k + 1) % ps.length) (0, 0) = ps[(k + 1) % ps.length] := getD9 (List.getElem?_eq_getElem eb)
            have hk0 : ps.getD k (0, 0) = ps[k] := getD9 (List.getElem?_eq_getElem hdl)
            have lfj : ∀ j (hj : j < ps.length), lfAt ps k j = (decide (j = k) || (decide (j = (k + 1) % ps.length) || decide (0 < lf ps[k] ps[(k + 1) % ps.length] ps[j]))) := fun j hj => by
              unfold lfAt
              rw [hb0, hk0, getD9 (List.getElem?_eq_getElem hj)]
            have hPb := hP _ (List.getElem_mem eb)
            have hPk := hP _ (List.getElem_mem hdl)
            generalize (k + 1) % ps.length = b at *
            unfold Nxt
            simp [enum_pts]
            obtain ⟨J, hJ⟩ : ∃ J : List ((Int × Int) × Nat) → List ((Int × Int) × Nat) → Rho → Unit → Prop, J = fun dn _ ρ _ => (∃ s8 s9, ρ = [.val d, s1, s2, .val (.lst (ps.map pt)), .val (.int (ps.length : Nat)), .val (.int (k : Nat)), .val (pt ps[k]), .val (pt ps[b]), s8, s9]) ∧ ∀ j, j < dn.length → lfAt ps k j = true := ⟨_, rfl⟩
            refine oS_loopE J ps.zipIdx (by rw [hJ]; exact ⟨⟨_, _, rfl⟩, fun k hk => absurd hk (Nat.not_lt_zero _)⟩) ?_ ?_
            · intro dn2 e td2 ρ t eq hh
              rw [hJ] at hh
              obtain ⟨⟨s8, s9, rfl⟩, hd2⟩ := hh
              have hjl : dn2.length < ps.length := by
                have := congrArg List.length eq
                simp at this
                omega
              have ee : e = (ps[dn2.length], dn2.length) := by
                have h1 : ps.zipIdx[dn2.length]? = some e := by rw [eq]; simp
                rw [List.getElem?_zipIdx, List.getElem?_eq_getElem hjl] at h1
                simp at h1
                exact h1.symm
              subst ee
              have nxt2 : lfAt ps k dn2.length = true → ∀ s8 s9 t, J (dn2 ++ [(ps[dn2.length], dn2.length)]) td2 [.val d, s1, s2, .val (.lst (ps.map pt)), .val (.int (ps.length : Nat)), .val (.int (k : Nat)), .val (pt ps[k]), .val (pt ps[b]), s8, s9] t := fun c s8 s9 t => by
                rw [hJ]
                refine ⟨⟨_, _, rfl⟩, fun j hj => ?_⟩
                rw [List.length_append] at hj
                rcases Nat.lt_or_ge j dn2.length with z | z
                · exact hd2 j z
                · rw [show j = dn2.length by simp at hj; omega]; exact c
              clear hJ
              generalize dn2 ++ [(ps[dn2.length], dn2.length)] = dm2 at nxt2 ⊢
              have lj := lfj _ hjl
              have bd := bad _ hjl
              have lw := left6 hPk hPb (hP _ (List.getElem_mem hjl))
              clear hd2 eq
              generalize hjd : dn2.length = j at hjl nxt2 lj bd lw ⊢
              refine ⟨_, rfl, ?_⟩
              by_cases q1 : j = k
              · have q1' : ((j : Nat) : Int) = (k : Nat) := by omega
                have c : lfAt ps k j = true := by rw [lj, decide_eq_true q1]; rfl
                simp [q1']
                exact nxt2 c _ _ _
              · have q1' : ¬ ((j : Nat) : Int) = (k : Nat) := by omega
                by_cases q2 : j = b
                · have q2' : ((j : Nat) : Int) = (b : Nat) := by omega
                  have c : lfAt ps k j = true := by rw [lj, decide_eq_true q2]; simp
                  simp [q1', nz, em]
                  exact ⟨ne, .inl ⟨q2', nxt2 c _ _ _⟩⟩
                · have q2' : ¬ ((j : Nat) : Int) = (b : Nat) := by omega
                  simp [q1', nz, em, q2', lw]
                  refine ⟨ne, ?_⟩
                  by_cases q3 : 0 < lf ps[k] ps[b] ps[j]
                  · exact .inl ⟨q3, nxt2 (by rw [lj, decide_eq_true q3]; simp) _ _ _⟩
                  · exact .inr ⟨by omega, bd (by rw [lj, decide_eq_false q1, decide_eq_false q2, decide_eq_false q3]; rfl)⟩
            · intro ρ t hh
              rw [hJ] at hh
              obtain ⟨⟨s8, s9, rfl⟩, hd2⟩ := hh
              refine nxt ?_ _ _ _ _ _ _ _ _
              rw [List.all_eq_true]
              intro j hj
              exact hd2 j (by rw [List.length_zipIdx]; exact List.mem_range.mp hj)
          · intro ρ t hh
            rw [hI] at hh
            obtain ⟨⟨s1, s2, s5, s6, s7, s8, s9, rfl⟩, hd⟩ := hh
            have sq : sqv ps = true := by
              unfold sqv
              rw [List.all_eq_true]
              intro k hk
              exact hd k (by rw [List.length_zipIdx]; exact List.mem_range.mp hk)
            obtain ⟨m1, m2⟩ := mn_idx (ps := ps) (by omega)
            have ml := mi_lt (ps := ps) (by omega)
            have c1 := cut9_lo (α := ps.map pt) (j := mi ps) (by rw [List.length_map]; omega)
            have c2 := cut9_hi (α := ps.map pt) (j := mi ps) (by rw [List.length_map]; omega)
            rw [es, sq]
            show Nxt _ _ _ _
            unfold Nxt
            simp [m1, m2]
            unfold Nxt
            simp [c1, c2]
            refine ⟨by omega, ?_⟩
            rw [rotP, List.map_append, List.map_drop, List.map_take]
      · have es : shpB d = false := by
          rw [es]
          by_cases h1 : 3 ≤ xs.length
          · have h2 : ¬ xs.length ≤ 8 := fun z => hl ⟨h1, z⟩
            simp [h2]
          · simp [h1]
        simp [hi, ln, es]
        by_cases h3 : xs.length < 3
        · exact .inr (by omega)
        · exact .inl ⟨by omega, .inr (by omega)⟩
  cases e : m__law_form [d] () with
  | ok r u =>
    rw [e] at key
    rcases key with ⟨k1, xs, k2, rfl⟩ | ⟨k1, rfl⟩
    · exact .inl ⟨k1, xs, k2, rfl⟩
    · exact .inr ⟨k1, rfl⟩
  | ex n fs u => rw [e] at key; exact key.elim
  | bad => rw [e] at key; exact key.elim
def Qs6 (qs : List (Int × Int)) : Prop := (∀ q ∈ qs, Ptb q) ∧ qs.length ≤ 24 ∧ 3 ≤ qs.length
theorem cutP6 (qs : List (Int × Int)) (lo hi : Option Int) : ∃ rs : List (Int × Int), cutD (qs.map pt) lo hi = rs.map pt ∧ (∀ q ∈ rs, q ∈ qs) ∧ rs.length ≤ qs.length := by
  refine ⟨(qs.drop (HT.sIx (qs.map pt).length 0 lo)).take (HT.sIx (qs.map pt).length (qs.map pt).length hi - HT.sIx (qs.map pt).length 0 lo), ?_, fun q hq => List.mem_of_mem_drop (List.mem_of_mem_take hq), ?_⟩
  · unfold cutD
    rw [List.map_take, List.map_drop]
  · rw [List.length_take, List.length_drop]; omega
theorem bow6 {w h : Int} (w0 : 0 ≤ w) (w1 : w ≤ 9) (h0 : 0 ≤ h) (h1 : h ≤ 99) : ∀ p ∈ (([-4, -3, -2, -1, 0, 1, 2, 3] : List Int).map fun k => (w * k * k, h * k)), Ptb p := by
  intro p hp
  obtain ⟨k, hk, rfl⟩ := List.mem_map.mp hp
  have a1 : k.natAbs ≤ 4 := by
    simp at hk
    omega
  refine ⟨?_, ?_⟩
  · rw [Int.natAbs_mul, Int.natAbs_mul]
    exact Nat.lt_of_le_of_lt (Nat.mul_le_mul (Nat.mul_le_mul (show w.natAbs ≤ 9 by omega) a1) a1) (by decide)
  · rw [Int.natAbs_mul]
    exact Nat.lt_of_le_of_lt (Nat.mul_le_mul (show h.natAbs ≤ 99 by omega) a1) (by decide)
theorem shape_wp6 {ns : List Int} {a : Addr} {n : Nat} {t : Dk} {Q : D → Dk → Prop} {X : Str → Fds → Dk → Prop} (g : Gd ns a n t) (hc : n < 10000000000) (h : ∀ (qs : List (Int × Int)) (t' : Dk), Qs6 qs → Gd ns a (n + 30) t' → Q (.tup (qs.map pt)) t') :
    oE (m__law_shape [.at a] t) Q X := by
  have ix : ∀ k : Int, 0 ≤ k → k < 3 → ∃ z : Int, atI [D.int 4, .int 30, .int 1000000] k = some (.int z) ∧ 0 ≤ z ∧ z ≤ 1000000 ∧ 4 ≤ z := fun k k0 k1 => by
    have : k = 0 ∨ k = 1 ∨ k = 2 := by omega
    rcases this with rfl | rfl | rfl
    · exact ⟨4, rfl, by decide, by decide, by decide⟩
    · exact ⟨30, rfl, by decide, by decide, by decide⟩
    · exact ⟨1000000, rfl, by decide, by decide, by decide⟩
  unfold m__law_shape b__law_shape
  simp
  refine take_wp g (by omega) (many_of (by decide) (by decide)) fun k t1 k0 k1 g1 => ?_
  unfold Nxt
  simp
  refine take_wp g1 (by omega) (many_of (by decide) (by decide)) fun s t2 s0 s1 g2 => ?_
  obtain ⟨z, e, z0, z1, z4⟩ := ix s s0 s1
  refine ⟨_, e, ?_⟩
  clear e ix s0 s1
  unfold Nxt
  simp
  by_cases q0 : k = 0
  · subst q0
    simp
    refine take_wp g2 (by omega) (many_of (by omega) (by omega)) fun w t3 w0 w1 g3 => ?_
    simp
    unfold Nxt
    simp
    refine take_wp g3 (by omega) (many_of (by omega) (by omega)) fun v t4 v0 v1 g4 => ?_
    simp
    unfold Nxt
    simp
    refine h [(0, 0), (1 + w, 0), (1 + w, 1 + v), (0, 1 + v)] _ ⟨fun q hq => ?_, by simp, by simp⟩ (g4.le (by omega))
    simp at hq
    rcases hq with rfl | rfl | rfl | rfl
    · exact ⟨by decide, by decide⟩
    · exact ⟨by simp; omega, by show (0 : Int).natAbs < _; decide⟩
    · exact ⟨by simp; omega, by simp; omega⟩
    · exact ⟨by show (0 : Int).natAbs < _; decide, by simp; omega⟩
  · simp [q0]
    unfold Nxt
    simp
    by_cases q1 : k = 1
    · subst q1
      simp
      refine take_wp g2 (by omega) (many_of (by omega) (by omega)) fun w t3 w0 w1 g3 => ?_
      simp
      unfold Nxt
      simp
      refine take_wp g3 (by omega) (many_of (by omega) (by omega)) fun v t4 v0 v1 g4 => ?_
      simp
      unfold Nxt
      simp
      refine ⟨([-4, -3, -2, -1, 0, 1, 2, 3] : List Int).map D.int, rfl, by decide, ?_⟩
      have bw := bow6 (w := 1 + w) (h := 1 + v) (by omega) (by omega) (by omega) (by omega)
      have ms : ∀ k ∈ ([-4, -3, -2, -1, 0, 1, 2, 3] : List Int), mulOk (1 + w) k = true ∧ mulOk ((1 + w) * k) k = true ∧ mulOk (1 + v) k = true := fun k hk => by
        have a1 : k.natAbs ≤ 4 := by
          simp at hk
          omega
        have a2 : ((1 + w) * k).natAbs < 2 ^ 10 := by
          rw [Int.natAbs_mul]
          exact Nat.lt_of_le_of_lt (Nat.mul_le_mul (show (1 + w).natAbs ≤ 9 by omega) a1) (by decide)
        exact ⟨small_mul (a := 10) (b := 10) (by omega) (by omega) (by decide) (by decide) (by decide), small_mul (a := 10) (b := 10) (by omega) (by omega) (by decide) (by decide) (by decide), small_mul (a := 10) (b := 10) (by omega) (by omega) (by decide) (by decide) (by decide)⟩
      refine comp_map (α := Int) (enc := D.int) (f := fun k => pt ((1 + w) * k * k, (1 + v) * k)) (fun x hx => ⟨_, rfl, by simp [ms x hx, pt]⟩) ?_
      rw [show (([-4, -3, -2, -1, 0, 1, 2, 3] : List Int).map fun k => pt ((1 + w) * k * k, (1 + v) * k)) = (([-4, -3, -2, -1, 0, 1, 2, 3] : List Int).map fun k => ((1 + w) * k * k, (1 + v) * k)).map pt by rw [List.map_map]; rfl]
      obtain ⟨qs, eq, hq⟩ := hull6 bw (by simp)
      rw [eq]
      exact h qs _ hq (g4.le (by omega))
    · simp [q1]
      unfold Nxt
      simp
      obtain ⟨m, em, m8⟩ : ∃ m : Int, atI [D.int 4, .int 8] (k - 2) = some (.int m) ∧ (m = 4 ∨ m = 8) := by
        have : k = 2 ∨ k = 3 := by omega
        rcases this with rfl | rfl
        · exact ⟨4, rfl, .inl rfl⟩
        · exact ⟨8, rfl, .inr rfl⟩
      obtain ⟨I, hI⟩ : ∃ I : List D → Rho → Dk → Prop, I = fun ds ρ t => (∃ (ps : List (Int × Int)) (s6 : Slot), ρ = [.val (.at a), .val (.int k), .val (.int z), .no, .no, .own (ps.map pt), s6, .no] ∧ (∀ p ∈ ps, Ptb p) ∧ ps.length + ds.length ≤ 12) ∧ ds.length ≤ 8 ∧ Gd ns a (n + 20 - 2 * ds.length) t := ⟨_, rfl⟩
      obtain ⟨ms, er, lr⟩ : ∃ ms : List D, fRng1 [.int m] = some ms ∧ ms.length ≤ 8 := by
        rcases m8 with rfl | rfl
        · exact ⟨[.int 0, .int 1, .int 2, .int 3], rfl, by decide⟩
        · exact ⟨[.int 0, .int 1, .int 2, .int 3, .int 4, .int 5, .int 6, .int 7], rfl, by decide⟩
      unfold Nxt
      simp [em, er]
      refine oS_loop I _ _ _ (by
        rw [hI]
        refine ⟨⟨[(z, 0), (0, z), (-z, 0), (0, -z)], _, rfl, fun q hq => ?_, by simp; omega⟩, lr, g2.le (by omega)⟩
        simp at hq
        rcases hq with rfl | rfl | rfl | rfl
        · exact ⟨by simp; omega, by show (0 : Int).natAbs < _; decide⟩
        · exact ⟨by show (0 : Int).natAbs < _; decide, by simp; omega⟩
        · exact ⟨by simp; omega, by show (0 : Int).natAbs < _; decide⟩
        · exact ⟨by show (0 : Int).natAbs < _; decide, by simp; omega⟩) ?_ ?_
      · intro d ds ρ t hh
        rw [hI] at hh
        obtain ⟨⟨ps, s6, rfl, hp, pl⟩, dl, g3⟩ := hh
        refine ⟨_, rfl, ?_⟩
        have m2 : mulOk 2 z = true := small_mul (a := 8) (b := 30) (by decide) (by omega) (by decide) (by decide) (by decide)
        have nx : ∀ (p : Int × Int) (s6 : Slot) t', Ptb p → Gd ns a (n + 20 - 2 * (d :: ds).length + 1 + 1) t' → I ds [.val (.at a), .val (.int k), .val (.int z), .no, .no, .own (ps.map pt ++ [pt p]), s6, .no] t' := fun p s6 t' hq g' => by
          rw [hI]
          refine ⟨⟨ps ++ [p], s6, by simp, fun q h => ?_, by simp at pl ⊢; omega⟩, by simp at dl; omega, g'.le (by simp at dl ⊢; omega)⟩
          rcases List.mem_append.mp h with h | h
          · exact hp q h
          · rw [List.mem_singleton.mp h]; exact hq
        have g3' : n + 20 - 2 * (d :: ds).length < 20000000000 := by omega
        generalize n + 20 - 2 * (d :: ds).length = n' at g3 nx g3'
        clear hI
        simp [m2]
        refine take_wp g3 (by omega) (many_of (by omega) (by omega)) fun x t4 x0 x1 g4 => ?_
        simp [m2]
        refine take_wp g4 (by omega) (many_of (by omega) (by omega)) fun y t5 y0 y1 g5 => ?_
        simp
        exact ⟨by omega, nx (x - z, y - z) _ _ ⟨by simp; omega, by simp; omega⟩ g5⟩
      · intro ρ t hh
        rw [hI] at hh
        obtain ⟨⟨ps, s6, rfl, hp, pl⟩, dl, g3⟩ := hh
        obtain ⟨rs, er, hr, rl⟩ := cutP6 ps (some (-8)) none
        show Nxt _ _ _ _
        unfold Nxt
        simp at pl
        simp [er]
        obtain ⟨qs, eq, hq⟩ := hull6 (fun q h => hp q (hr q h)) (ps := rs) (by omega)
        rw [eq]
        exact h qs _ hq (g3.le (by omega))
theorem lg6 {i : Int} (h : i.natAbs < 2 ^ 200) : decide (i.natAbs.log2 < 200) = true := by
  refine decide_eq_true ?_
  by_cases z : i.natAbs = 0
  · rw [z]; decide
  · exact (Nat.log2_lt z).mpr h
theorem rp_int {i : Int} {ms : List Nat} (h : i.natAbs < 2 ^ 200) : rp2 200 ms (.int i) = true := by
  cases ms <;> exact lg6 h
theorem rp_pair {a b : D} {m : Nat} {ms : List Nat} (hm : 2 ≤ m) (ha : rp2 200 ms a = true) (hb : rp2 200 ms b = true) : rp2 200 (m :: ms) (.tup [a, b]) = true ∧ rp2 200 (m :: ms) (.lst [a, b]) = true := by
  have : rps2 200 ms [a, b] = true := rps2_all fun x hx => by
    simp at hx
    rcases hx with rfl | rfl <;> assumption
  constructor
  · unfold rp2
    rw [this, Bool.and_true]
    exact decide_eq_true (by simpa using hm)
  · unfold rp2
    rw [this, Bool.and_true]
    exact decide_eq_true (by simpa using hm)
theorem rp_tup {xs : List D} {m : Nat} {ms : List Nat} (hm : xs.length ≤ m) (h : ∀ x ∈ xs, rp2 200 ms x = true) : rp2 200 (m :: ms) (.tup xs) = true := by
  unfold rp2
  rw [rps2_all h, Bool.and_true]
  exact decide_eq_true hm
theorem rp_lst {xs : List D} {m : Nat} {ms : List Nat} (hm : xs.length ≤ m) (h : ∀ x ∈ xs, rp2 200 ms x = true) : rp2 200 (m :: ms) (.lst xs) = true := by
  unfold rp2
  rw [rps2_all h, Bool.and_true]
  exact decide_eq_true hm
structure N6 (x : D) : Prop where
  o : okT x = true
  r : rp2 200 [24, 3, 1] x = true
structure W6 (d : D) : Prop where
  c : okC d = true
  r : rp2 200 [75, 24, 3, 1] d = true
theorem W6.lst {xs : List D} (h : ∀ x ∈ xs, N6 x) (hl : xs.length ≤ 75) : W6 (.lst xs) := ⟨by
  unfold okC
  rw [Bool.and_eq_true]
  exact ⟨rfl, List.all_eq_true.mpr fun x hx => (h x hx).o⟩, rp_lst hl fun x hx => (h x hx).r⟩
theorem W6.tup {xs : List D} (h : ∀ x ∈ xs, N6 x) (hl : xs.length ≤ 75) : W6 (.tup xs) := ⟨by
  unfold okC
  rw [Bool.and_eq_true]
  exact ⟨rfl, List.all_eq_true.mpr fun x hx => (h x hx).o⟩, rp_tup hl fun x hx => (h x hx).r⟩
def Co6 (c : D) : Prop := ∃ x y : Int, x.natAbs < 2 ^ 200 ∧ y.natAbs < 2 ^ 200 ∧ (c = .tup [.int x, .int y] ∨ c = .lst [.int x, .int y])
theorem Co6.n {c : D} (h : Co6 c) : N6 c := by
  obtain ⟨x, y, hx, hy, rfl | rfl⟩ := h
  · exact ⟨rfl, (rp_pair (by decide) (rp_int hx) (rp_int hy)).1⟩
  · exact ⟨rfl, (rp_pair (by decide) (rp_int hx) (rp_int hy)).2⟩
theorem co_tup {x y : Int} (hx : x.natAbs < 2 ^ 200) (hy : y.natAbs < 2 ^ 200) : Co6 (.tup [.int x, .int y]) := ⟨x, y, hx, hy, .inl rfl⟩
theorem pt6 {p : Int × Int} (h : Ptb p) : Co6 (pt p) := ⟨p.1, p.2, Nat.lt_trans h.1 (by decide), Nat.lt_trans h.2 (by decide), .inl rfl⟩
theorem cut6 (xs : List D) (lo hi : Option Int) : (∀ x ∈ cutD xs lo hi, x ∈ xs) ∧ (cutD xs lo hi).length ≤ xs.length := by
  unfold cutD
  exact ⟨fun x hx => List.mem_of_mem_drop (List.mem_of_mem_take hx), by rw [List.length_take, List.length_drop]; omega⟩
theorem stepD_len (xs : List D) (lo : Option Int) (k : Int) : (stepL xs lo k).length ≤ xs.length := by
  have h := stepL_len (xs.map fun _ => Value.none) lo k
  have e : stepL (xs.map fun _ => Value.none) lo k = (stepL xs lo k).map fun _ => Value.none := by
    unfold stepL
    rw [List.length_map, List.map_filterMap]
    congr 1
    funext i
    rw [List.getElem?_map]
  rw [e, List.length_map, List.length_map] at h
  exact h
theorem step6 (xs : List D) (lo : Option Int) (k : Int) : (∀ x ∈ stepL xs lo k, x ∈ xs) := fun x hx => stepL_mem hx
theorem at6 {xs : List D} {k : Int} (h0 : 0 ≤ k) (h1 : k < (xs.length : Nat)) : ∃ x ∈ xs, atI xs k = some x := by
  obtain ⟨j, rfl⟩ : ∃ j : Nat, k = (j : Int) := ⟨k.toNat, by omega⟩
  have hj : j < xs.length := by omega
  exact ⟨xs[j], List.getElem_mem _, atI_nat (by rw [List.getElem?_eq_getElem hj])⟩
theorem at6m {xs : List D} {k : Int} (h0 : -1 ≤ k) (h1 : k < (xs.length : Nat)) (hl : 0 < xs.length) : ∃ x ∈ xs, atI xs k = some x := by
  by_cases h : 0 ≤ k
  · exact at6 h h1
  · have : k = -1 := by omega
    subst this
    refine ⟨xs[xs.length - 1], List.getElem_mem _, ?_⟩
    unfold atI ixN
    rw [if_neg (by decide), if_pos (by omega)]
    show xs[((-1 : Int) + xs.length).toNat]? = _
    rw [show ((-1 : Int) + xs.length).toNat = xs.length - 1 by omega, List.getElem?_eq_getElem (by omega)]
theorem n6_menu {x y : Int} (hx : x.natAbs < 2 ^ 100) (hy : y.natAbs < 2 ^ 100) : ∀ d ∈ ([.tup [.int x], .tup [.int x, .int y, .int 0], .non, .int x, .str "00", .tup [.bl true, .int y], .tup [.int x, .str "0"], .dct [] [], .lst [], .tup [.tup [.int x], .int y], .tup [.int 1000001, .int y], .tup [.int x, .int (-1000001)],
    .tup [.int x, .int 1000000000000000000000000000000000000000000000000000000000000], .lst [.int (-1000000000000000000000000000000000000000000000000000000000000), .int y], .tup [.int x, .bl false], .dct [.int x] [.int y]] : List D), N6 d := by
  have hx : x.natAbs < 2 ^ 200 := Nat.lt_trans hx (by decide)
  have hy : y.natAbs < 2 ^ 200 := Nat.lt_trans hy (by decide)
  have rx : ∀ ms, rp2 200 ms (.int x) = true := fun ms => rp_int hx
  have ry : ∀ ms, rp2 200 ms (.int y) = true := fun ms => rp_int hy
  intro d hd
  simp only [List.mem_cons, List.not_mem_nil, or_false] at hd
  rcases hd with rfl | rfl | rfl | rfl | rfl | rfl | rfl | rfl | rfl | rfl | rfl | rfl | rfl | rfl | rfl | rfl
  · exact ⟨rfl, rp_tup (by simp) fun z hz => by simp at hz; subst hz; exact rx _⟩
  · exact ⟨rfl, rp_tup (by simp) fun z hz => by simp at hz; rcases hz with rfl | rfl | rfl; exact rx _; exact ry _; exact rp_int (by decide)⟩
  · exact ⟨rfl, rfl⟩
  · exact ⟨rfl, rx _⟩
  · exact ⟨rfl, by decide +kernel⟩
  · exact ⟨rfl, (rp_pair (by decide) rfl (ry _)).1⟩
  · exact ⟨rfl, (rp_pair (by decide) (rx _) (by decide +kernel)).1⟩
  · exact ⟨rfl, rfl⟩
  · exact ⟨rfl, rfl⟩
  · exact ⟨rfl, (rp_pair (by decide) (rp_tup (by simp) fun z hz => by simp at hz; subst hz; exact rx _) (ry _)).1⟩
  · exact ⟨rfl, (rp_pair (by decide) (rp_int (by decide)) (ry _)).1⟩
  · exact ⟨rfl, (rp_pair (by decide) (rx _) (rp_int (by decide))).1⟩
  · exact ⟨rfl, (rp_pair (by decide) (rx _) (rp_int (by decide))).1⟩
  · exact ⟨rfl, (rp_pair (by decide) (rp_int (by decide)) (ry _)).2⟩
  · exact ⟨rfl, (rp_pair (by decide) (rx _) rfl).1⟩
  · refine ⟨rfl, ?_⟩
    unfold rp2
    rw [rps2_all (ms := [3, 1]) (B := 200) fun z hz => by simp at hz; subst hz; exact ry _, Bool.and_true]
    have : kb2 200 (.int x) = true := lg6 hx
    simp [this]
theorem no_corner_wp {ns : List Int} {a : Addr} {n : Nat} {t : Dk} {x y : Int} {Q : D → Dk → Prop} {X : Str → Fds → Dk → Prop} (g : Gd ns a n t) (hc : n < 10000000000) (hx : x.natAbs < 2 ^ 100) (hy : y.natAbs < 2 ^ 100) (h : ∀ (d : D) (t' : Dk), N6 d → Gd ns a (n + 1) t' → Q d t') :
    oE (m__law_no_corner [.at a, .int x, .int y] t) Q X := by
  have me := n6_menu hx hy
  unfold m__law_no_corner b__law_no_corner
  simp
  unfold Nxt
  simp
  refine ⟨by decide, take_wp g (by omega) (many_of (by decide) (by decide)) fun k t1 k0 k1 g1 => ?_⟩
  obtain ⟨d, hd, e⟩ := at6 (k := k) (xs := [.tup [.int x], .tup [.int x, .int y, .int 0], .non, .int x, .str "00", .tup [.bl true, .int y], .tup [.int x, .str "0"], .dct [] [], .lst [], .tup [.tup [.int x], .int y], .tup [.int 1000001, .int y], .tup [.int x, .int (-1000001)],
    .tup [.int x, .int 1000000000000000000000000000000000000000000000000000000000000], .lst [.int (-1000000000000000000000000000000000000000000000000000000000000), .int y], .tup [.int x, .bl false], .dct [.int x] [.int y]]) k0 (by simpa using k1)
  exact ⟨d, e, h d _ (me d hd) g1⟩
theorem bent_wp {ns : List Int} {a : Addr} {n : Nat} {t : Dk} {k : Int} {xs : List D} {Q : D → Dk → Prop} {X : Str → Fds → Dk → Prop} (g : Gd ns a n t) (hc : n < 1000000000)
    (hx : ∀ x ∈ xs, ∃ p : Int × Int, Ptb p ∧ (x = .tup [.int p.1, .int p.2] ∨ x = .lst [.int p.1, .int p.2])) (l1 : 1 ≤ xs.length) (l2 : xs.length ≤ 24)
    (h : ∀ (ys : List D) (t' : Dk), (∀ y ∈ ys, N6 y) → ys.length ≤ 75 → Gd ns a (n + 10) t' → Q (.lst ys) t') :
    oE (m__law_bent [.at a, .int k, .lst xs] t) Q X := by
  have hn : ∀ x ∈ xs, N6 x := fun x hh => by
    obtain ⟨p, hp, e⟩ := hx x hh
    exact Co6.n ⟨p.1, p.2, Nat.lt_trans hp.1 (by decide), Nat.lt_trans hp.2 (by decide), e⟩
  have cn : ∀ lo hi, ∀ x ∈ cutD xs lo hi, N6 x := fun lo hi x hh => hn x ((cut6 xs lo hi).1 x hh)
  have cl : ∀ lo hi, (cutD xs lo hi).length ≤ 24 := fun lo hi => Nat.le_trans (cut6 xs lo hi).2 l2
  unfold m__law_bent b__law_bent
  simp
  refine take_wp g (by omega) (many_of (by omega) (by omega)) fun j t1 j0 j1 g1 => ?_
  obtain ⟨c, hc1, ea⟩ := at6 (xs := xs) j0 (by omega)
  obtain ⟨c', hc2, eb⟩ := at6m (xs := xs) (k := j - 1) (by omega) (by omega) (by omega)
  obtain ⟨p, hp, ep⟩ := hx c hc1
  obtain ⟨q, hq, eq⟩ := hx c' hc2
  clear hx hc1 hc2
  unfold Nxt
  simp [ea]
  refine ⟨[.val (.at a), .val (.int k), .val (.lst xs), .val (.int j), .val (.int p.1), .val (.int p.2), .no, .no], by rcases ep with rfl | rfl <;> rfl, ?_⟩
  unfold Nxt
  simp [eb]
  refine ⟨[.val (.at a), .val (.int k), .val (.lst xs), .val (.int j), .val (.int p.1), .val (.int p.2), .val (.int q.1), .val (.int q.2)], by rcases eq with rfl | rfl <;> rfl, ?_⟩
  clear ep eq ea eb c c'
  obtain ⟨x, y⟩ := p
  obtain ⟨u, v⟩ := q
  obtain ⟨x1, y1⟩ := hp
  obtain ⟨u1, v1⟩ := hq
  simp only at x1 y1 u1 v1
  unfold Nxt
  simp
  have fin : ∀ (ys : List D) t', (∀ y ∈ ys, N6 y) → ys.length ≤ 75 → Gd ns a (n + 10) t' → Q (.lst ys) t' := h
  clear h
  have app : ∀ {us vs : List D}, (∀ y ∈ us, N6 y) → (∀ y ∈ vs, N6 y) → ∀ y ∈ us ++ vs, N6 y := fun h1 h2 y hy => (List.mem_append.mp hy).elim (h1 y) (h2 y)
  have one : ∀ {c : D}, N6 c → ∀ y ∈ [c], N6 y := fun hc' y hy => by rw [List.mem_singleton.mp hy]; exact hc'
  have xy : N6 (.tup [.int x, .int y]) := (co_tup (Nat.lt_trans x1 (by decide)) (Nat.lt_trans y1 (by decide))).n
  by_cases q0 : k = 0
  · exact .inr ⟨q0, fin _ _ (fun z hz => hn z (List.mem_reverse.mp hz)) (by rw [List.length_reverse]; omega) (g1.le (by omega))⟩
  refine .inl ⟨q0, ?_⟩
  unfold Nxt
  simp
  by_cases q1 : k = 1
  · refine .inr ⟨q1, ?_⟩
    refine take_wp g1 (by omega) (many_of (by decide) (by decide)) fun e t2 e0 e1' g2 => ?_
    refine ⟨_, rfl, _, rfl, take_wp g2 (by omega) (many_of (by decide) (by decide)) fun f t3 f0 f1 g3 => ?_⟩
    have c1 := cl none (some j)
    have c3 := cl (some (j + 1)) none
    refine ⟨_, rfl, _, rfl, by omega, by omega, fin _ _ (app (cn _ _) (app (us := [_]) (one (Co6.n (co_tup (Nat.lt_trans (m := 2 ^ 30) (by omega) (by decide)) (Nat.lt_trans (m := 2 ^ 30) (by omega) (by decide))))) (cn _ _))) (by simp only [List.length_append, List.length_cons]; omega) (g3.le (by omega))⟩
  refine .inl ⟨q1, ?_⟩
  unfold Nxt
  simp
  by_cases q1 : k = 2
  · refine .inr ⟨q1, ?_⟩
    have c1 := cl none (some j)
    have c3 := cl (some j) none
    have hd : ∀ w : Int, w.natAbs < 2 ^ 30 → divOk w 2 = true ∧ (w.fdiv 2).natAbs < 2 ^ 30 := fun w hw => ⟨small_div (b := 60) (by decide) (by decide) (by decide) (by decide), by rw [Int.fdiv_eq_ediv_of_nonneg _ (by decide)]; omega⟩
    obtain ⟨d1, d2⟩ := hd (x + u) (by omega)
    obtain ⟨d3, d4⟩ := hd (y + v) (by omega)
    refine ⟨d1, d3, by omega, by omega, fin _ _ (app (cn _ _) (app (us := [_]) (one (Co6.n (co_tup (Nat.lt_trans d2 (by decide)) (Nat.lt_trans d4 (by decide))))) (cn _ _))) (by simp only [List.length_append, List.length_cons]; omega) (g1.le (by omega))⟩
  refine .inl ⟨q1, ?_⟩
  unfold Nxt
  simp
  by_cases q1 : k = 3
  · refine .inr ⟨q1, ?_⟩
    have c1 := cl none (some j)
    have c3 := cl (some j) none
    refine ⟨by omega, by omega, fin _ _ (app (cn _ _) (app (us := [_]) (one xy) (cn _ _))) (by simp only [List.length_append, List.length_cons]; omega) (g1.le (by omega))⟩
  refine .inl ⟨q1, ?_⟩
  unfold Nxt
  simp
  by_cases q1 : k = 4
  · refine .inr ⟨q1, ?_⟩
    have c1 := cl none (some j)
    have c3 := cl (some (j + 1)) none
    refine ⟨by omega, fin _ _ (app (cn _ _) (cn _ _)) (by simp only [List.length_append]; omega) (g1.le (by omega))⟩
  refine .inl ⟨q1, ?_⟩
  unfold Nxt
  simp
  by_cases q1 : k = 5
  · refine .inr ⟨q1, ?_⟩
    have c1 := cl none (some j)
    have c3 := cl (some (j + 1)) none
    refine no_corner_wp g1 (by omega) (Nat.lt_trans x1 (by decide)) (Nat.lt_trans y1 (by decide)) fun d t2 nd g2 => ?_
    refine ⟨by omega, by omega, fin _ _ (app (cn _ _) (app (us := [_]) (one nd) (cn _ _))) (by simp only [List.length_append, List.length_cons]; omega) (g2.le (by omega))⟩
  refine .inl ⟨q1, ?_⟩
  unfold Nxt
  simp [dStep]
  by_cases q1 : k = 6
  · refine .inr ⟨q1, ?_⟩
    have c1 := stepD_len xs none 2
    have c3 := stepD_len xs (some 1) 2
    refine ⟨by omega, fin _ _ (app (fun y hy => hn y (step6 _ _ _ y hy)) (fun y hy => hn y (step6 _ _ _ y hy))) (by simp only [List.length_append]; omega) (g1.le (by omega))⟩
  refine .inl ⟨q1, ?_⟩
  unfold Nxt
  simp
  have c1 := cl none (some j)
  have c2 := cl (some (j + 1)) (some (j + 2))
  have c3 := cl (some (j + 2)) none
  exact ⟨by omega, by omega, by omega, fin _ _ (app (cn _ _) (app (cn _ _) (app (us := [_]) (one xy) (cn _ _)))) (by simp only [List.length_append, List.length_cons]; omega) (g1.le (by omega))⟩
theorem qs_n6 {qs : List (Int × Int)} (h : Qs6 qs) : ∀ x ∈ qs.map pt, N6 x := fun x hx => by
  obtain ⟨p, hp, rfl⟩ := List.mem_map.mp hx
  exact (pt6 (h.1 p hp)).n
theorem n6_tup {xs : List D} (h : ∀ x ∈ xs, ∃ p : Int × Int, x = pt p ∧ Ptb p) (hl : xs.length ≤ 24) : N6 (.tup xs) := ⟨by
  unfold okT
  rw [Bool.and_eq_true]
  refine ⟨rfl, ?_⟩
  show (xs.length != 2 || xs.all sc) = true
  rw [Bool.or_eq_true]
  exact .inr (List.all_eq_true.mpr fun x hx => by obtain ⟨p, rfl, _⟩ := h x hx; rfl), rp_tup hl fun x hx => by
    obtain ⟨p, rfl, hp⟩ := h x hx
    exact (rp_pair (by decide) (rp_int (Nat.lt_trans hp.1 (by decide))) (rp_int (Nat.lt_trans hp.2 (by decide)))).1⟩
def nine6 : List (Int × Int) := [(16, 20), (9, 15), (4, 10), (1, 5), (0, 0), (1, -5), (4, -10), (9, -15), (16, -20)]
theorem nine_n6 (xs : List D) (h : ∀ x ∈ xs, x ∈ nine6.map pt) : ∀ x ∈ xs, N6 x := fun x hx => by
  obtain ⟨p, hp, rfl⟩ := List.mem_map.mp (h x hx)
  refine (pt6 ?_).n
  simp [nine6] at hp
  rcases hp with rfl | rfl | rfl | rfl | rfl | rfl | rfl | rfl | rfl <;> exact ⟨by decide, by decide⟩
theorem other_wp {ns : List Int} {a : Addr} {n : Nat} {t : Dk} {qs : List (Int × Int)} {Q : D → Dk → Prop} {X : Str → Fds → Dk → Prop} (g : Gd ns a n t) (hc : n < 1000000000) (hq : Qs6 qs)
    (h : ∀ (d : D) (t' : Dk), W6 d → Gd ns a (n + 1) t' → Q d t') :
    oE (m__law_other [.at a, .tup (qs.map pt)] t) Q X := by
  have nq := qs_n6 hq
  have ql : (qs.map pt).length ≤ 24 := by rw [List.length_map]; exact hq.2.1
  have q3 : 3 ≤ (qs.map pt).length := by rw [List.length_map]; exact hq.2.2
  have tq : N6 (.tup (qs.map pt)) := n6_tup (fun x hx => by
    obtain ⟨p, hp, rfl⟩ := List.mem_map.mp hx
    exact ⟨p, rfl, hq.1 p hp⟩) ql
  unfold m__law_other b__law_other
  simp
  refine ⟨([-4, -3, -2, -1, 0, 1, 2, 3, 4] : List Int).map D.int, rfl, by decide, ?_⟩
  refine comp_map (α := Int) (enc := D.int) (f := fun k => pt (k * k, -5 * k)) (fun x hx => ⟨_, rfl, ?_⟩) ?_
  · simp at hx
    rcases hx with rfl | rfl | rfl | rfl | rfl | rfl | rfl | rfl | rfl <;> simp [pt] <;> exact ⟨by decide, by decide⟩
  rw [show (([-4, -3, -2, -1, 0, 1, 2, 3, 4] : List Int).map fun k => pt (k * k, -5 * k)) = nine6.map pt by rfl]
  unfold Nxt
  simp
  refine ⟨.tup (cutD (qs.map pt) none (some 2)), rfl, ?_⟩
  obtain ⟨p0, hp0, e0⟩ := at6 (xs := qs.map pt) (k := 0) (by decide) (by omega)
  obtain ⟨p, hp, rfl⟩ := List.mem_map.mp hp0
  unfold Nxt
  simp
  refine ⟨.dct ((List.range (qs.map pt).length).map fun (i : Nat) => D.int (i : Int)) (qs.map pt), rfl, _, e0, ?_⟩
  have c5 : ∀ lo hi, W6 (.lst (cutD (nine6.map pt) lo hi)) ∧ W6 (.tup (cutD (nine6.map pt) lo hi)) := fun lo hi => by
    have h1 := cut6 (nine6.map pt) lo hi
    have h2 := nine_n6 _ h1.1
    have h3 : (cutD (nine6.map pt) lo hi).length ≤ 75 := Nat.le_trans h1.2 (by decide)
    exact ⟨W6.lst h2 h3, W6.tup h2 h3⟩
  have cq := cut6 (qs.map pt) none (some 2)
  have me : ∀ d ∈ ([.lst (nine6.map pt), .lst (cutD (nine6.map pt) (some 1) none), .lst (cutD (nine6.map pt) none (some 8)), .tup (cutD (nine6.map pt) (some 1) none), .non, .int 7, .str "abc", .str "", .dct [] [], .tup [], .lst [], .bl true, .tup (cutD (qs.map pt) none (some 2)), .tup [.tup (qs.map pt), .tup (qs.map pt)],
      .dct ((List.range (qs.map pt).length).map fun (i : Nat) => D.int (i : Int)) (qs.map pt), .lst [.tup (qs.map pt)], pt p] : List D), W6 d := by
    intro d hd
    simp only [List.mem_cons, List.not_mem_nil, or_false] at hd
    rcases hd with rfl | rfl | rfl | rfl | rfl | rfl | rfl | rfl | rfl | rfl | rfl | rfl | rfl | rfl | rfl | rfl | rfl
    · exact W6.lst (nine_n6 _ fun x hx => hx) (by decide)
    · exact (c5 _ _).1
    · exact (c5 _ _).1
    · exact (c5 _ _).2
    · exact ⟨rfl, rfl⟩
    · exact ⟨rfl, rp_int (by decide)⟩
    · exact ⟨rfl, by decide +kernel⟩
    · exact ⟨rfl, by decide +kernel⟩
    · exact ⟨rfl, rfl⟩
    · exact ⟨rfl, rfl⟩
    · exact ⟨rfl, rfl⟩
    · exact ⟨rfl, rfl⟩
    · exact W6.tup (fun x hx => nq x (cq.1 x hx)) (by omega)
    · exact W6.tup (fun x hx => by simp at hx; subst hx; exact tq) (by simp)
    · refine ⟨?_, ?_⟩
      · have hk : (((List.range (qs.map pt).length).map fun (i : Nat) => D.int (i : Int)).all fun k => (keyOf k).isSome) = true := List.all_eq_true.mpr fun x hx => by
          obtain ⟨i, _, rfl⟩ := List.mem_map.mp hx
          rfl
        show (((if _ = true then some "dict" else none) : Option String).isSome && true) = true
        rw [if_pos hk]
        rfl
      · unfold rp2
        rw [rps2_all fun x hx => (nq x hx).r, Bool.and_true, Bool.and_eq_true]
        refine ⟨decide_eq_true (by rw [List.length_map, List.length_range]; omega), List.all_eq_true.mpr fun x hx => ?_⟩
        obtain ⟨i, hi, rfl⟩ := List.mem_map.mp hx
        have hi := List.mem_range.mp hi
        exact lg6 (Nat.lt_trans (m := 2 ^ 30) (by omega) (by decide))
    · exact W6.lst (fun x hx => by simp at hx; subst hx; exact tq) (by simp)
    · have hpp := hq.1 p hp
      exact ⟨rfl, (rp_pair (by decide) (rp_int (Nat.lt_trans hpp.1 (by decide))) (rp_int (Nat.lt_trans hpp.2 (by decide)))).1⟩
  refine take_wp g (by omega) (many_of (by decide) (by decide)) fun k t1 k0 k1 g1 => ?_
  obtain ⟨d, hd, e⟩ := at6 (k := k) (xs := [.lst (nine6.map pt), .lst (cutD (nine6.map pt) (some 1) none), .lst (cutD (nine6.map pt) none (some 8)), .tup (cutD (nine6.map pt) (some 1) none), .non, .int 7, .str "abc", .str "", .dct [] [], .tup [], .lst [], .bl true, .tup (cutD (qs.map pt) none (some 2)), .tup [.tup (qs.map pt), .tup (qs.map pt)],
      .dct ((List.range (qs.map pt).length).map fun (i : Nat) => D.int (i : Int)) (qs.map pt), .lst [.tup (qs.map pt)], pt p]) k0 (by simpa using k1)
  exact ⟨d, e, h d _ (me d hd) g1⟩
theorem thing_wp {ns : List Int} {a : Addr} {n : Nat} {t : Dk} {Q : D → Dk → Prop} {X : Str → Fds → Dk → Prop} (g : Gd ns a n t) (hc : n < 1000000)
    (h : ∀ (d : D) (t' : Dk), W6 d → Gd ns a (n + 200) t' → Q d t') :
    oE (m__law_thing [.at a] t) Q X := by
  unfold m__law_thing b__law_thing
  simp
  refine take_wp g (by omega) (many_of (by decide) (by decide)) fun k t1 k0 k1 g1 => ?_
  unfold Nxt
  simp
  refine shape_wp6 g1 (by omega) fun qs t2 hq g2 => ?_
  have ql := hq.2.1
  have q3 := hq.2.2
  unfold Nxt
  simp
  refine take_wp g2 (by omega) (many_of (by omega) (by omega)) fun s t3 s0 s1 g3 => ?_
  obtain ⟨j, rfl⟩ : ∃ j : Nat, s = (j : Int) := ⟨s.toNat, by omega⟩
  unfold Nxt
  simp
  have c1 := cut9_lo (α := qs.map pt) (j := j) (by rw [List.length_map]; omega)
  have c2 := cut9_hi (α := qs.map pt) (j := j) (by rw [List.length_map]; omega)
  have er : (qs.map pt).drop j ++ (qs.map pt).take j = (qs.drop j ++ qs.take j).map pt := by rw [List.map_append, List.map_drop, List.map_take]
  have hr : Qs6 (qs.drop j ++ qs.take j) := ⟨fun q hq' => by
    rcases List.mem_append.mp hq' with z | z
    · exact hq.1 _ (List.mem_of_mem_drop z)
    · exact hq.1 _ (List.mem_of_mem_take z), by rw [List.length_append, List.length_drop, List.length_take]; omega, by rw [List.length_append, List.length_drop, List.length_take]; omega⟩
  have d1 : dCutT (.tup (qs.map pt)) (some (j : Int)) none = some (.tup ((qs.map pt).drop j)) := by rw [← c1]; rfl
  have d2 : dCutT (.tup (qs.map pt)) none (some (j : Int)) = some (.tup ((qs.map pt).take j)) := by rw [← c2]; rfl
  have d3 : dAdd (.tup ((qs.map pt).drop j)) (.tup ((qs.map pt).take j)) = some (.tup ((qs.drop j ++ qs.take j).map pt)) := by
    rw [← er]
    have hl : lim2 (((qs.map pt).drop j).length + ((qs.map pt).take j).length) = true := decide_eq_true (by
      rw [List.length_drop, List.length_take, List.length_map]; omega)
    unfold dAdd
    simp only [hl, if_true]
  generalize qs.drop j ++ qs.take j = rs at hr d3
  clear c1 c2 er
  refine ⟨_, d1, _, d2, _, d3, _, rfl, by rw [List.length_map]; have := hr.2.1; omega, ?_⟩
  have rl := hr.2.1
  have r3 := hr.2.2
  refine comp_wp (p := fun _ y => ∃ p : Int × Int, Ptb p ∧ (y = .tup [.int p.1, .int p.2] ∨ y = .lst [.int p.1, .int p.2])) (k := 1) (B := n + 100) _ (fun d hd m t1 g1 hm => ⟨_, rfl, ?_⟩) _ t3 g3 (by rw [List.length_map]; omega) fun ys t4 hys g4 => ?_
  · obtain ⟨p, hp, rfl⟩ := List.mem_map.mp hd
    simp [pt]
    refine take_wp g1 (by omega) (many_of (by decide) (by decide)) fun i t5 i0 i1 g5 => ?_
    have hpp := hr.1 p hp
    have : i = 0 ∨ i = 1 := by omega
    rcases this with rfl | rfl
    · exact ⟨_, rfl, ⟨_, _, hpp, .inl rfl⟩, g5⟩
    · exact ⟨_, rfl, ⟨_, _, hpp, .inr rfl⟩, g5⟩
  have hy : (∀ x ∈ ys, ∃ p : Int × Int, Ptb p ∧ (x = .tup [.int p.1, .int p.2] ∨ x = .lst [.int p.1, .int p.2])) ∧ ys.length = rs.length := by
    have : ∀ (ds ys : List D), Pw (fun _ y => ∃ p : Int × Int, Ptb p ∧ (y = .tup [.int p.1, .int p.2] ∨ y = .lst [.int p.1, .int p.2])) ds ys → (∀ x ∈ ys, ∃ p : Int × Int, Ptb p ∧ (x = .tup [.int p.1, .int p.2] ∨ x = .lst [.int p.1, .int p.2])) ∧ ys.length = ds.length := by
      intro ds ys h
      induction h with
      | nil => exact ⟨fun x hx => (nomatch hx), rfl⟩
      | cons a _ ih =>
        refine ⟨fun x hx => ?_, by simp [ih.2]⟩
        rcases List.mem_cons.mp hx with rfl | hx
        · exact a
        · exact ih.1 x hx
    have := this _ _ hys
    rw [List.length_map] at this
    exact this
  clear hys
  obtain ⟨hy, yl⟩ := hy
  have ny : ∀ x ∈ ys, N6 x := fun x hh => by
    obtain ⟨p, hp, e⟩ := hy x hh
    exact Co6.n ⟨p.1, p.2, Nat.lt_trans hp.1 (by decide), Nat.lt_trans hp.2 (by decide), e⟩
  rw [List.length_map] at g4
  have g5 : Gd ns a (n + 60) t4 := g4.le (by omega)
  clear g4 g3 g2 g1
  unfold Nxt
  simp
  by_cases q0 : k < 3
  · refine .inr ⟨q0, _, d1, _, d2, _, d3, ?_⟩
    have : k = 0 ∨ k = 1 ∨ k = 2 := by omega
    rcases this with rfl | rfl | rfl
    · exact ⟨_, rfl, h _ _ (W6.lst ny (by omega)) (g5.le (by omega))⟩
    · exact ⟨_, rfl, h _ _ (W6.tup ny (by omega)) (g5.le (by omega))⟩
    · exact ⟨_, rfl, h _ _ (W6.tup (qs_n6 hr) (by rw [List.length_map]; omega)) (g5.le (by omega))⟩
  refine .inl ⟨by omega, ?_⟩
  unfold Nxt
  simp
  by_cases q1 : k = 3
  · refine .inr ⟨q1, ?_⟩
    exact other_wp g5 (by omega) hq fun d t' hd g' => h d t' hd (g'.le (by omega))
  refine .inl ⟨q1, ?_⟩
  unfold Nxt
  simp
  by_cases q2 : k < 12
  · refine .inr ⟨q2, ?_⟩
    exact bent_wp g5 (by omega) hy (by omega) (by omega) fun zs t' hz zl g' => h _ t' (W6.lst hz zl) (g'.le (by omega))
  refine .inl ⟨by omega, ?_⟩
  unfold Nxt
  simp
  refine ⟨small_mul (a := 10) (b := 10) (by decide) (by omega) (by decide) (by decide) (by decide), bent_wp g5 (by omega) hy (by omega) (by omega) fun zs t' hz zl g' => ⟨_, rfl, h _ t' (W6.tup hz zl) (g'.le (by omega))⟩⟩

-- opts: rep2=1 ## nset=look_shape ## kinds=_law_hull|sorted(_law_points)|d;_law_thing|_law_shape_here[_law_at:]|t;_law_thing|_law_shape_here[:_law_at]|t;_law_other|_law_shape_here[:2]|t;_law_bent|_law_handed[_law_j]|lt;_law_bent|_law_handed[_law_j - 1]|lt
theorem form_rp {ps : List (Int × Int)} (h : ∀ p ∈ ps, Pb9 p) (hl : ps.length ≤ 75) : rp2 200 [75, 24, 3, 1] (.tup (ps.map pt)) = true := rp_tup (by rw [List.length_map]; exact hl) fun x hx => by
  obtain ⟨p, hp, rfl⟩ := List.mem_map.mp hx
  have := h p hp
  exact (rp_pair (by decide) (rp_int (Nat.lt_of_le_of_lt this.1 (by decide))) (rp_int (Nat.lt_of_le_of_lt this.2 (by decide)))).1
theorem shp_ps {d : D} {xs : List D} (c : okC d = true) (s : shpB d = true) (e : itD d = some xs) : (∀ p ∈ rotP (xs.map cpt), Pb9 p) ∧ (rotP (xs.map cpt)).length ≤ 75 := by
  have hx := okC_parts c e
  unfold shpB at s
  rw [e] at s
  obtain ⟨s1, s2⟩ := Bool.and_eq_true_iff.mp s
  obtain ⟨s3, s4⟩ := Bool.and_eq_true_iff.mp s1
  obtain ⟨s5, s6⟩ := Bool.and_eq_true_iff.mp s2
  have s4 := of_decide_eq_true s4
  have hP : ∀ p ∈ xs.map cpt, Pb9 p := fun p hp => by
    obtain ⟨x, hx', rfl⟩ := List.mem_map.mp hp
    obtain ⟨a, b, _, ec, q1, q2, _⟩ := crn_form (okT_ty (hx x hx')) (List.all_eq_true.mp s5 x hx')
    rw [ec]
    exact ⟨q1, q2⟩
  have hn : (xs.map cpt).length = xs.length := List.length_map ..
  refine ⟨fun p hp => ?_, ?_⟩
  · unfold rotP at hp
    rcases List.mem_append.mp hp with z | z
    · exact hP p (List.mem_of_mem_drop z)
    · exact hP p (List.mem_of_mem_take z)
  · unfold rotP
    rw [List.length_append, List.length_drop, List.length_take]
    omega
theorem right6 {d : D} (w : W6 d) : m__law_right [d] () = .ok (.bl true) () := by
  obtain ⟨z, hz⟩ := repr2_ok (B := 200) w.r
  apply oE_eq
  unfold m__law_right b__law_right
  simp [hz]
  rcases law_form6 w.c with ⟨s, xs, ei, ef⟩ | ⟨s, ef⟩
  · obtain ⟨hp, hl⟩ := shp_ps w.c s ei
    obtain ⟨y, hy⟩ := repr2_ok (B := 200) (form_rp hp hl)
    unfold Nxt
    simp [ef]
    unfold Nxt
    simp
    unfold Nxt
    simp
    unfold Nxt
    simp
    refine look_shape9 w.c (fun _ ys ey => ?_) fun s' => by rw [s] at s'; cases s'
    rw [ei] at ey
    cases ey
    unfold Nxt
    simp [hz]
    unfold Nxt
    simp [dIs]
    refine .inl ⟨rfl, ?_⟩
    have i5 : fIsi [.tup ((rotP (xs.map cpt)).map pt), .ty "tuple"] = some (.bl true) := rfl
    unfold Nxt
    simp [hy, i5]
    exact ⟨_, rfl, rfl⟩
  · unfold Nxt
    simp [ef]
    unfold Nxt
    simp
    unfold Nxt
    simp
    unfold Nxt
    simp
    refine look_shape9 w.c (fun s' => by rw [s] at s'; cases s') fun _ => ?_
    simp
    unfold Nxt
    simp [hz]
    unfold Nxt
    simp [dIs]
    exact .inr ⟨rfl, rfl⟩
theorem law_good (ns : List Int) (hl : ns.length ≤ 63) (hb : ∀ z ∈ ns, Builtin.Int.intBits z ≤ 1048576) : lawIs 3 m__law_deck b_law ns := by
  obtain ⟨big, eb⟩ := deck_ok ns hl
  refine ⟨_, big, eb, fun a b => ?_⟩
  have key : oS (b_law ((Slot.val (.scr ns) :: List.replicate (3 - 1) .no).set 1 (.val (.at a))) ⟨a, b, .scr ns, big, 0, 0⟩) { nx := fun _ _ => False, rt := fun d _ => d = .bl true } := by
    unfold b_law
    simp
    obtain ⟨I, hI⟩ : ∃ I : List D → Rho → Dk → Prop, I = fun ds ρ t => (∃ s2 : Slot, ρ = [.val (.scr ns), .val (.at a), s2]) ∧ Gd ns a (1200 - 200 * ds.length) t ∧ ds.length ≤ 6 := ⟨_, rfl⟩
    refine oS_loop I _ _ _ (by rw [hI]; exact ⟨⟨_, rfl⟩, ⟨rfl, rfl, Nat.zero_le _⟩, by simp [rngD]⟩) ?_ ?_
    · intro d ds ρ t hh
      rw [hI] at hh
      obtain ⟨⟨s2, rfl⟩, g, dl⟩ := hh
      refine ⟨_, rfl, ?_⟩
      simp only [List.length_cons] at g dl
      simp
      refine thing_wp g (by omega) fun d' t' w g' => ?_
      simp [right6 w]
      rw [hI]
      exact ⟨⟨_, rfl⟩, g'.le (by omega), by omega⟩
    · intro ρ t hh
      rw [hI] at hh
      obtain ⟨⟨s2, rfl⟩, g, dl⟩ := hh
      unfold Nxt
      simp
  obtain ⟨d, t, e, rfl⟩ := oS_rtEx key
  exact ⟨t, e⟩

end MM

noncomputable section
namespace MM
open PySem PySem.Spec PyProof.Rows L2
structure Fx (K : Fg) (mg : Str → Option Value) : Prop where
  z_int : mg "int" = none
  z_isinstance : mg "isinstance" = none
  z_bool : mg "bool" = none
  f_is_whole : ∃ fd, FunD K "is_whole" "is_whole" (defArgs (top 8)) (defBody (top 8)) (defScope (top 8)) [] [] (He.ga K "is_whole") fd
  g_is_whole : mg "is_whole" = some (.ref (He.ga K "is_whole"))
  z_list : mg "list" = none
  z_tuple : mg "tuple" = none
  z_len : mg "len" = none
  x_BadShape : ExcF K mg "BadShape"
  c_REACH : Glc K mg "REACH" (.int 1000000)
  f_look_corner : ∃ fd, FunD K "look_corner" "look_corner" (defArgs (top 10)) (defBody (top 10)) (defScope (top 10)) [] [] (He.ga K "look_corner") fd
  g_look_corner : mg "look_corner" = some (.ref (He.ga K "look_corner"))
  f_is_left : ∃ fd, FunD K "is_left" "is_left" (defArgs (top 11)) (defBody (top 11)) (defScope (top 11)) [] [] (He.ga K "is_left") fd
  g_is_left : mg "is_left" = some (.ref (He.ga K "is_left"))
  c_CORNERS : Glc K mg "CORNERS" (.int 8)
  z_enumerate : mg "enumerate" = none
  z_all : mg "all" = none
  z_min : mg "min" = none
  f_look_shape : ∃ fd, FunD K "look_shape" "look_shape" (defArgs (top 12)) (defBody (top 12)) (defScope (top 12)) [] [] (He.ga K "look_shape") fd
  g_look_shape : mg "look_shape" = some (.ref (He.ga K "look_shape"))
  z_abs : mg "abs" = none
  f__law_cell : ∃ fd, FunD K "_law_cell" "_law_cell" (defArgs (top 14)) (defBody (top 14)) (defScope (top 14)) [] [] (He.ga K "_law_cell") fd
  g__law_cell : mg "_law_cell" = some (.ref (He.ga K "_law_cell"))
  f__law_mixed : ∃ fd, FunD K "_law_mixed" "_law_mixed" (defArgs (top 15)) (defBody (top 15)) (defScope (top 15)) [] [] (He.ga K "_law_mixed") fd
  g__law_mixed : mg "_law_mixed" = some (.ref (He.ga K "_law_mixed"))
  f__law_deck : ∃ fd, FunD K "_law_deck" "_law_deck" (defArgs (top 16)) (defBody (top 16)) (defScope (top 16)) [] [] (He.ga K "_law_deck") fd
  g__law_deck : mg "_law_deck" = some (.ref (He.ga K "_law_deck"))
  f__law_take : ∃ fd, FunD K "_law_take" "_law_take" (defArgs (top 17)) (defBody (top 17)) (defScope (top 17)) [] [] (He.ga K "_law_take") fd
  g__law_take : mg "_law_take" = some (.ref (He.ga K "_law_take"))
  f__law_left : ∃ fd, FunD K "_law_left" "_law_left" (defArgs (top 18)) (defBody (top 18)) (defScope (top 18)) [] [] (He.ga K "_law_left") fd
  g__law_left : mg "_law_left" = some (.ref (He.ga K "_law_left"))
  f__law_half : ∃ fd, FunD K "_law_half" "_law_half" (defArgs (top 19)) (defBody (top 19)) (defScope (top 19)) [] [] (He.ga K "_law_half") fd
  g__law_half : mg "_law_half" = some (.ref (He.ga K "_law_half"))
  z_sorted : mg "sorted" = none
  f__law_hull : ∃ fd, FunD K "_law_hull" "_law_hull" (defArgs (top 20)) (defBody (top 20)) (defScope (top 20)) [] [] (He.ga K "_law_hull") fd
  g__law_hull : mg "_law_hull" = some (.ref (He.ga K "_law_hull"))
  z_range : mg "range" = none
  f__law_shape : ∃ fd, FunD K "_law_shape" "_law_shape" (defArgs (top 21)) (defBody (top 21)) (defScope (top 21)) [] [] (He.ga K "_law_shape") fd
  g__law_shape : mg "_law_shape" = some (.ref (He.ga K "_law_shape"))
  f__law_form : ∃ fd, FunD K "_law_form" "_law_form" (defArgs (top 22)) (defBody (top 22)) (defScope (top 22)) [] [] (He.ga K "_law_form") fd
  g__law_form : mg "_law_form" = some (.ref (He.ga K "_law_form"))
  f__law_no_corner : ∃ fd, FunD K "_law_no_corner" "_law_no_corner" (defArgs (top 23)) (defBody (top 23)) (defScope (top 23)) [] [] (He.ga K "_law_no_corner") fd
  g__law_no_corner : mg "_law_no_corner" = some (.ref (He.ga K "_law_no_corner"))
  z_dict : mg "dict" = none
  f__law_other : ∃ fd, FunD K "_law_other" "_law_other" (defArgs (top 24)) (defBody (top 24)) (defScope (top 24)) [] [] (He.ga K "_law_other") fd
  g__law_other : mg "_law_other" = some (.ref (He.ga K "_law_other"))
  f__law_bent : ∃ fd, FunD K "_law_bent" "_law_bent" (defArgs (top 25)) (defBody (top 25)) (defScope (top 25)) [] [] (He.ga K "_law_bent") fd
  g__law_bent : mg "_law_bent" = some (.ref (He.ga K "_law_bent"))
  f__law_thing : ∃ fd, FunD K "_law_thing" "_law_thing" (defArgs (top 26)) (defBody (top 26)) (defScope (top 26)) [] [] (He.ga K "_law_thing") fd
  g__law_thing : mg "_law_thing" = some (.ref (He.ga K "_law_thing"))
  sy : SysK K
  z_repr : mg "repr" = none
  e_BadShape : ExcC K (He.ga K "BadShape")
  g_BodyError : mg "BodyError" = some (.ref (He.ga K "BodyError"))
  k_BadShape_BodyError : PySem.W.kitOne K (.ref (He.ga K "BadShape")) (.ref (He.ga K "BodyError")) = some true
  z_ValueError : mg "ValueError" = none
  k_BadShape_ValueError : PySem.W.kitOne K (.ref (He.ga K "BadShape")) (.type "ValueError") = some true
  g_BadRow : mg "BadRow" = some (.ref (He.ga K "BadRow"))
  k_BadShape_BadRow : PySem.W.kitOne K (.ref (He.ga K "BadShape")) (.ref (He.ga K "BadRow")) = some false
  g_NoShare : mg "NoShare" = some (.ref (He.ga K "NoShare"))
  k_BadShape_NoShare : PySem.W.kitOne K (.ref (He.ga K "BadShape")) (.ref (He.ga K "NoShare")) = some false
  g_BadShape : mg "BadShape" = some (.ref (He.ga K "BadShape"))
  m_BadShape_BadShape : PySem.W.exmOne K (.ref (He.ga K "BadShape")) (.ref (He.ga K "BadShape")) = some true
  f__law_right : ∃ fd, FunD K "_law_right" "_law_right" (defArgs (top 27)) (defBody (top 27)) (defScope (top 27)) [] [] (He.ga K "_law_right") fd
  g__law_right : mg "_law_right" = some (.ref (He.ga K "_law_right"))
  f_law : ∃ fd, FunD K "law" "law" (defArgs (top 28)) (defBody (top 28)) (defScope (top 28)) [] [] (He.ga K "law") fd
  g_law : mg "law" = some (.ref (He.ga K "law"))
section
variable {P : Program} {w : World} {K : Fg} {mg : Str → Option Value} {base : Heap}
abbrev N_is_whole : List Str := ["thing"]
theorem sc_is_whole : FnScope N_is_whole ["thing"] (defScope (top 8)) := ⟨rfl, rfl, rfl, by decide +kernel, rfl, by decide +kernel, by decide +kernel⟩
theorem w_is_whole (T : Fx K mg) (fd : FuncData) (cdv : Value) (A : Around) (outer : List Env) (s : Shared) (H : Hp) (E : XK) (hr : Room 0 (A.deeper (envOfC "is_whole" (defScope (top 8)) s.heap.objs.size (He.ga K "is_whole") cdv))) :
    PSs (cxOf (L2.CX P w) P w K mg base N_is_whole "is_whole" (defScope (top 8)) (He.ga K "is_whole") cdv A outer s H E) (defBody (top 8)) (tS K (fun cls d _ H => E cls d H) b_is_whole) := by
  have tk := tk_cx (P := P) (w := w) (K := K) (mg := mg) (base := base) (N := N_is_whole) (qual := "is_whole") (scope := defScope (top 8)) (f := He.ga K "is_whole") (cd := cdv) (A := A) (outer := outer) (s := s) (H := H) (E := E)
  exact (mss_one (ms_ret (me_and (me_callB call_isi c_isi (by rfl) T.z_isinstance (by decide +kernel) (maw_cons (me_varW (pv 0)) (maw_cons (weak (me_type (by rfl) T.z_int (by decide +kernel))) maw_nil))) (me_one (me_not (me_callB call_isi c_isi (by rfl) T.z_isinstance (by decide +kernel) (maw_cons (me_varW (pv 0)) (maw_cons (weak (me_type (by rfl) T.z_bool (by decide +kernel))) maw_nil))))))))
theorem d_is_whole (T : Fx K mg) : Def P w K mg base 1 "is_whole" 1 [] m_is_whole := by
  obtain ⟨fd, F⟩ := T.f_is_whole
  exact Def.mk' (ps := ["thing"]) (N := N_is_whole) (k := 0) F T.g_is_whole sc_is_whole b_is_whole ⟨[], [], .nil, F.bindsN (fun _ _ _ _ _ _ us hl => match us, hl with | [_], _ => rfl), fun _ _ => .nil⟩ (fun cdv A outer s H E hr => w_is_whole T fd cdv A outer s H E hr)
abbrev N_look_corner : List Str := ["thing", "number"]
theorem sc_look_corner : FnScope N_look_corner ["thing"] (defScope (top 10)) := ⟨rfl, rfl, rfl, by decide +kernel, rfl, by decide +kernel, by decide +kernel⟩
theorem w_look_corner (T : Fx K mg) (fd : FuncData) (cdv : Value) (A : Around) (outer : List Env) (s : Shared) (H : Hp) (E : XK) (hr : Room 1 (A.deeper (envOfC "look_corner" (defScope (top 10)) s.heap.objs.size (He.ga K "look_corner") cdv))) :
    PSs (cxOf (L2N.CX P w) P w K mg base N_look_corner "look_corner" (defScope (top 10)) (He.ga K "look_corner") cdv A outer s H E) (defBody (top 10)) (tS K (fun cls d _ H => E cls d H) b_look_corner) := by
  have tk := tk_cxN (P := P) (w := w) (K := K) (mg := mg) (base := base) (N := N_look_corner) (qual := "look_corner") (scope := defScope (top 10)) (f := He.ga K "look_corner") (cd := cdv) (A := A) (outer := outer) (s := s) (H := H) (E := E)
  exact (mss_cons (ms_if (PW.pt (mw_or (mt_not (mt_truth (weak (me_isi2 (by rfl) T.z_isinstance (me_varW (pv 0)) (pe_bltn (v := .ty "list") (by rfl) T.z_list (by decide +kernel) rfl) (pe_bltn (v := .ty "tuple") (by rfl) T.z_tuple (by decide +kernel) rfl))))) (mw_or1 (mt_cmp2 (op_neD hr.units) o_ne (weak (me_callB call_len3 c_len (by rfl) T.z_len (by decide +kernel) (maw_cons (me_varW (pv 0)) maw_nil))) (weak me_int) (nomark _))))) (mss_one (ms_raiseN rfl tk (pmk_ownN PySem.F.excBase_ValueError T.x_BadShape.x T.x_BadShape.g T.x_BadShape.k (raises_own T.x_BadShape.b T.x_BadShape.t) (by rfl)))) mss_nil)
  (mss_cons (ms_for po_cxN rfl (mi_seq (me_var (pv 0))) (mg_name (pg_name (i := 1) sc_look_corner.nd rfl (Or.inl rfl))) (mss_one (ms_if (PW.pt (mw_or (mt_not (mt_truth (weak (me_callQ ((d_is_whole T).mono (by decide)) hr (by rfl) (alen_cons alen_nil) (ma_cons (me_var (pv 1)) ma_nil))))) (mw_or1 (mt_not (mt_chain op_le op_le o_le o_le (weak (me_un un_neg o_neg (weak (me_g T.c_REACH (by rfl))))) (me_varW (pv 1)) (weak (me_g T.c_REACH (by rfl)))))))) (mss_one (ms_raiseN rfl tk (pmk_ownN PySem.F.excBase_ValueError T.x_BadShape.x T.x_BadShape.g T.x_BadShape.k (raises_own T.x_BadShape.b T.x_BadShape.t) (by rfl)))) mss_nil)))
  (mss_one (ms_ret (me_callTy call_tuple_of c_tup (by rfl) T.z_tuple (by decide +kernel) (maw_cons (me_varW (pv 0)) maw_nil))))))
theorem dN_look_corner (T : Fx K mg) : DefN P w K mg base 2 "look_corner" 1 [] m_look_corner := by
  obtain ⟨fd, F⟩ := T.f_look_corner
  exact DefN.mk' (ps := ["thing"]) (N := N_look_corner) (k := 1) F T.g_look_corner sc_look_corner b_look_corner ⟨[], [], .nil, F.bindsN (fun _ _ _ _ _ _ us hl => match us, hl with | [_], _ => rfl), fun _ _ => .nil⟩ (fun cdv A outer s H E hr => w_look_corner T fd cdv A outer s H E hr)
abbrev N_is_left : List Str := ["one", "other", "corner", "a", "b", "c", "d", "x", "y"]
theorem sc_is_left : FnScope N_is_left ["one", "other", "corner"] (defScope (top 11)) := ⟨rfl, rfl, rfl, by decide +kernel, rfl, by decide +kernel, by decide +kernel⟩
theorem w_is_left (T : Fx K mg) (fd : FuncData) (cdv : Value) (A : Around) (outer : List Env) (s : Shared) (H : Hp) (E : XK) (hr : Room 0 (A.deeper (envOfC "is_left" (defScope (top 11)) s.heap.objs.size (He.ga K "is_left") cdv))) :
    PSs (cxOf (L2.CX P w) P w K mg base N_is_left "is_left" (defScope (top 11)) (He.ga K "is_left") cdv A outer s H E) (defBody (top 11)) (tS K (fun cls d _ H => E cls d H) b_is_left) := by
  have tk := tk_cx (P := P) (w := w) (K := K) (mg := mg) (base := base) (N := N_is_left) (qual := "is_left") (scope := defScope (top 11)) (f := He.ga K "is_left") (cd := cdv) (A := A) (outer := outer) (s := s) (H := H) (E := E)
  exact (mss_cons (ms_asg (me_tup (ma_cons (me_var (pv 0)) (ma_cons (me_var (pv 1)) (ma_cons (me_var (pv 2)) ma_nil)))) (mg_tup rfl (glen_cons (glen_cons (glen_cons glen_nil))) (mgs_cons (mg_tup rfl (glen_cons (glen_cons glen_nil)) (mgs_cons (mg_name (pg_name (i := 3) sc_is_left.nd rfl (Or.inl rfl))) (mgs_cons (mg_name (pg_name (i := 4) sc_is_left.nd rfl (Or.inl rfl))) mgs_nil))) (mgs_cons (mg_tup rfl (glen_cons (glen_cons glen_nil)) (mgs_cons (mg_name (pg_name (i := 5) sc_is_left.nd rfl (Or.inl rfl))) (mgs_cons (mg_name (pg_name (i := 6) sc_is_left.nd rfl (Or.inl rfl))) mgs_nil))) (mgs_cons (mg_tup rfl (glen_cons (glen_cons glen_nil)) (mgs_cons (mg_name (pg_name (i := 7) sc_is_left.nd rfl (Or.inl rfl))) (mgs_cons (mg_name (pg_name (i := 8) sc_is_left.nd rfl (Or.inl rfl))) mgs_nil))) mgs_nil)))))
  (mss_one (ms_ret (me_cmp2 op_gt o_gt (weak (me_op2 op_sub o_sub (weak (me_op2 op_mulW o_mul (weak (me_op2 op_sub o_sub (me_varW (pv 5)) (me_varW (pv 3)))) (weak (me_op2 op_sub o_sub (me_varW (pv 8)) (me_varW (pv 4)))))) (weak (me_op2 op_mulW o_mul (weak (me_op2 op_sub o_sub (me_varW (pv 6)) (me_varW (pv 4)))) (weak (me_op2 op_sub o_sub (me_varW (pv 7)) (me_varW (pv 3)))))))) (weak me_int) (nomark _)))))
theorem d_is_left (T : Fx K mg) : Def P w K mg base 1 "is_left" 3 [] m_is_left := by
  obtain ⟨fd, F⟩ := T.f_is_left
  exact Def.mk' (ps := ["one", "other", "corner"]) (N := N_is_left) (k := 0) F T.g_is_left sc_is_left b_is_left ⟨[], [], .nil, F.bindsN (fun _ _ _ _ _ _ us hl => match us, hl with | [_, _, _], _ => rfl), fun _ _ => .nil⟩ (fun cdv A outer s H E hr => w_is_left T fd cdv A outer s H E hr)
abbrev N_look_shape : List Str := ["thing", "corners", "many", "at", "corner", "behind", "others", "first", "one", "k", "other"]
theorem sc_look_shape : FnScope N_look_shape ["thing"] (defScope (top 12)) := ⟨rfl, rfl, rfl, by decide +kernel, rfl, by decide +kernel, by decide +kernel⟩
theorem w_look_shape (T : Fx K mg) (fd : FuncData) (cdv : Value) (A : Around) (outer : List Env) (s : Shared) (H : Hp) (E : XK) (hr : Room 2 (A.deeper (envOfC "look_shape" (defScope (top 12)) s.heap.objs.size (He.ga K "look_shape") cdv))) :
    PSs (cxOf (L2N.CX P w) P w K mg base N_look_shape "look_shape" (defScope (top 12)) (He.ga K "look_shape") cdv A outer s H E) (defBody (top 12)) (tS K (fun cls d _ H => E cls d H) b_look_shape) := by
  have tk := tk_cxN (P := P) (w := w) (K := K) (mg := mg) (base := base) (N := N_look_shape) (qual := "look_shape") (scope := defScope (top 12)) (f := He.ga K "look_shape") (cd := cdv) (A := A) (outer := outer) (s := s) (H := H) (E := E)
  exact (mss_cons (ms_if (PW.pt (mw_or (mt_not (mt_truth (weak (me_isi2 (by rfl) T.z_isinstance (me_varW (pv 0)) (pe_bltn (v := .ty "list") (by rfl) T.z_list (by decide +kernel) rfl) (pe_bltn (v := .ty "tuple") (by rfl) T.z_tuple (by decide +kernel) rfl))))) (mw_or1 (mt_not (mt_chain op_le op_le o_le o_le (weak me_int) (weak (me_callB call_len3 c_len (by rfl) T.z_len (by decide +kernel) (maw_cons (me_varW (pv 0)) maw_nil))) (weak (me_g T.c_CORNERS (by rfl)))))))) (mss_one (ms_raiseN rfl tk (pmk_ownN PySem.F.excBase_ValueError T.x_BadShape.x T.x_BadShape.g T.x_BadShape.k (raises_own T.x_BadShape.b T.x_BadShape.t) (by rfl)))) mss_nil)
  (mss_cons (ms_set (ps_set (i := 1) sc_look_shape.nd rfl (Or.inr rfl) (me_new (mf_lcX (own := [("one", 8)]) (ws := [8]) rfl rfl tk rfl sc_look_shape.nd (toO (mi_seq (me_var (pv 0)))) (blkOk_by (N := N_look_shape) (sc := defScope (top 12)) (by decide +kernel)) (by decide) (fun _ _ _ _ _ => (mg_name (pg_name (i := 8) sc_look_shape.nd rfl (Or.inl rfl)))) (fun _ _ _ _ _ => mts_nil) (fun _ _ _ _ _ xe W tkc => (me_callN ((dN_look_corner T).mono (by decide)) hr tkc (by rfl) (alen_cons alen_nil) (ma_cons (me_var (pv 8)) ma_nil)))))))
  (mss_cons (ms_set (ps_set (i := 2) sc_look_shape.nd rfl (Or.inl rfl) (me_callB call_len3 c_len (by rfl) T.z_len (by decide +kernel) (maw_cons (me_varW (pv 1)) maw_nil))))
  (mss_cons (ms_for po_cxN rfl (mi_enum2 (by rfl) T.z_enumerate (ma_cons (me_var (pv 1)) ma_nil)) (mg_tup rfl (glen_cons (glen_cons glen_nil)) (mgs_cons (mg_name (pg_name (i := 3) sc_look_shape.nd rfl (Or.inr rfl))) (mgs_cons (mg_name (pg_name (i := 4) sc_look_shape.nd rfl (Or.inr rfl))) mgs_nil))) (mss_cons (ms_set (ps_set (i := 5) sc_look_shape.nd rfl (Or.inr rfl) (me_op2 op_modN o_mod (weak (me_op2 op_add4 o_add (me_varW (pv 3)) (weak me_int))) (me_varW (pv 2)))))
  (mss_cons (ms_lc (by decide) (ps_setLc (i := 6) (own := [("k", 9), ("other", 10)]) rfl sc_look_shape.nd rfl rfl (sw_true rfl rfl rfl (by decide +kernel)) (toO (mi_enum2 (by rfl) T.z_enumerate (ma_cons (me_var (pv 1)) ma_nil))) (blkOk_by (N := N_look_shape) (sc := defScope (top 12)) (by decide +kernel)) (fun _ _ _ _ _ => (mg_tup rfl (glen_cons (glen_cons glen_nil)) (mgs_cons (mg_name (pg_name (i := 9) sc_look_shape.nd rfl (Or.inl rfl))) (mgs_cons (mg_name (pg_name (i := 10) sc_look_shape.nd rfl (Or.inl rfl))) mgs_nil)))) (fun _ _ _ _ _ => (mts_one (PW.pt (mw_and (mt_cmp2 (op_neD hr.units) o_ne (me_varW (pv 9)) (me_varW (pv 3)) (nomark _)) (mw_and1 (mt_cmp2 (op_neD hr.units) o_ne (me_varW (pv 9)) (me_varW (pv 5)) (nomark _))))))) (fun _ _ _ _ _ => (me_var (pv 10)))))
  (mss_one (ms_if (mt_not (mt_truth (weak (me_callB (cr_all rfl) c_all (by rfl) T.z_all (by decide +kernel) (maw_cons (weak (me_new (mf_lc (own := [("other", 10)]) (ws := [10]) rfl sc_look_shape.nd (toO (mi_seq (me_var (pv 6)))) (blkOk_by (N := N_look_shape) (sc := defScope (top 12)) (by decide +kernel)) (by decide) (fun _ _ _ _ _ => (mg_name (pg_name (i := 10) sc_look_shape.nd rfl (Or.inl rfl)))) (fun _ _ _ _ _ => mts_nil) (fun _ _ _ _ _ => (me_callQ ((d_is_left T).mono (by decide)) hr (by rfl) (alen_cons (alen_cons (alen_cons alen_nil))) (ma_cons (me_var (pv 4)) (ma_cons (me_ix ix_seq o_ix (me_varW (pv 1)) (me_varW (pv 5)) (fun _ _ => rfl)) (ma_cons (me_var (pv 10)) ma_nil)))))))) maw_nil))))) (mss_one (ms_raiseN rfl tk (pmk_ownN PySem.F.excBase_ValueError T.x_BadShape.x T.x_BadShape.g T.x_BadShape.k (raises_own T.x_BadShape.b T.x_BadShape.t) (by rfl)))) mss_nil)))))
  (mss_cons (ms_set (ps_set (i := 7) sc_look_shape.nd rfl (Or.inl rfl) (me_idx (room65 hr) (me_varW (pv 1)) (weak (me_callB (cr_minD rfl hr.units) c_minD (by rfl) T.z_min (by decide +kernel) (maw_cons (me_varW (pv 1)) maw_nil))))))
  (mss_one (ms_ret (me_callTy call_tuple_of c_tup (by rfl) T.z_tuple (by decide +kernel) (maw_cons (weak (me_op2 op_add4 o_add (weak (me_new (mf_cut (me_varW (pv 1)) (mo_some (me_var (pv 7))) mo_none))) (weak (me_new (mf_cut (me_varW (pv 1)) mo_none (mo_some (me_var (pv 7)))))))) maw_nil)))))))))
theorem dN_look_shape (T : Fx K mg) : DefN P w K mg base 3 "look_shape" 1 [] m_look_shape := by
  obtain ⟨fd, F⟩ := T.f_look_shape
  exact DefN.mk' (ps := ["thing"]) (N := N_look_shape) (k := 2) F T.g_look_shape sc_look_shape b_look_shape ⟨[], [], .nil, F.bindsN (fun _ _ _ _ _ _ us hl => match us, hl with | [_], _ => rfl), fun _ _ => .nil⟩ (fun cdv A outer s H E hr => w_look_shape T fd cdv A outer s H E hr)
theorem d_look_shape (T : Fx K mg) : Def P w K mg base 3 "look_shape" 1 [] m_look_shape := (dN_look_shape T).toDef
abbrev N__law_cell : List Str := ["_law_script", "_law_k"]
theorem sc__law_cell : FnScope N__law_cell ["_law_script", "_law_k"] (defScope (top 14)) := ⟨rfl, rfl, rfl, by decide +kernel, rfl, by decide +kernel, by decide +kernel⟩
theorem w__law_cell (T : Fx K mg) (fd : FuncData) (cdv : Value) (A : Around) (outer : List Env) (s : Shared) (H : Hp) (E : XK) (hr : Room 0 (A.deeper (envOfC "_law_cell" (defScope (top 14)) s.heap.objs.size (He.ga K "_law_cell") cdv))) :
    PSs (cxOf (L2.CX P w) P w K mg base N__law_cell "_law_cell" (defScope (top 14)) (He.ga K "_law_cell") cdv A outer s H E) (defBody (top 14)) (tS K (fun cls d _ H => E cls d H) b__law_cell) := by
  have tk := tk_cx (P := P) (w := w) (K := K) (mg := mg) (base := base) (N := N__law_cell) (qual := "_law_cell") (scope := defScope (top 14)) (f := He.ga K "_law_cell") (cd := cdv) (A := A) (outer := outer) (s := s) (H := H) (E := E)
  exact (mss_cons (ms_if (mt_cmp2 (op_eqD hr.units) o_eq (weak (me_callB call_len3 c_len (by rfl) T.z_len (by decide +kernel) (maw_cons (me_varW (pv 0)) maw_nil))) (weak me_int) (nomark _)) (mss_one (ms_ret (me_op2 op_add4 o_add (weak (me_op2 op_mulW o_mul (weak me_int) (me_varW (pv 1)))) (weak me_int)))) mss_nil)
  (mss_one (ms_ret (me_callB call_abs c_abs (by rfl) T.z_abs (by decide +kernel) (maw_cons (weak (me_ix ix_seq o_ix (me_varW (pv 0)) (weak (me_op2 op_modN o_mod (me_varW (pv 1)) (weak (me_callB call_len3 c_len (by rfl) T.z_len (by decide +kernel) (maw_cons (me_varW (pv 0)) maw_nil))))) (fun _ _ => rfl))) maw_nil)))))
theorem d__law_cell (T : Fx K mg) : Def P w K mg base 1 "_law_cell" 2 [] m__law_cell := by
  obtain ⟨fd, F⟩ := T.f__law_cell
  exact Def.mk' (ps := ["_law_script", "_law_k"]) (N := N__law_cell) (k := 0) F T.g__law_cell sc__law_cell b__law_cell ⟨[], [], .nil, F.bindsN (fun _ _ _ _ _ _ us hl => match us, hl with | [_, _], _ => rfl), fun _ _ => .nil⟩ (fun cdv A outer s H E hr => w__law_cell T fd cdv A outer s H E hr)
abbrev N__law_mixed : List Str := ["_law_script", "_law_k", "_law_many", "_law_number"]
theorem sc__law_mixed : FnScope N__law_mixed ["_law_script", "_law_k", "_law_many"] (defScope (top 15)) := ⟨rfl, rfl, rfl, by decide +kernel, rfl, by decide +kernel, by decide +kernel⟩
theorem w__law_mixed (T : Fx K mg) (fd : FuncData) (cdv : Value) (A : Around) (outer : List Env) (s : Shared) (H : Hp) (E : XK) (hr : Room 1 (A.deeper (envOfC "_law_mixed" (defScope (top 15)) s.heap.objs.size (He.ga K "_law_mixed") cdv))) :
    PSs (cxOf (L2.CX P w) P w K mg base N__law_mixed "_law_mixed" (defScope (top 15)) (He.ga K "_law_mixed") cdv A outer s H E) (defBody (top 15)) (tS K (fun cls d _ H => E cls d H) b__law_mixed) := by
  have tk := tk_cx (P := P) (w := w) (K := K) (mg := mg) (base := base) (N := N__law_mixed) (qual := "_law_mixed") (scope := defScope (top 15)) (f := He.ga K "_law_mixed") (cd := cdv) (A := A) (outer := outer) (s := s) (H := H) (E := E)
  exact (mss_cons (ms_set (ps_set (i := 3) sc__law_mixed.nd rfl (Or.inl rfl) (me_op2 op_modN o_mod (weak (me_op2 op_pow o_pow (weak (me_op2 op_add4 o_add (weak (me_op2 op_mulW o_mul (weak (me_op2 op_add4 o_add (weak (me_op2 op_modN o_mod (weak (me_call ((d__law_cell T).mono (by decide)) hr tk (by rfl) (alen_cons (alen_cons alen_nil)) (ma_cons (me_var (pv 0)) (ma_cons (me_var (pv 1)) ma_nil)))) (weak me_int))) (weak me_int))) (weak (me_op2 op_add4 o_add (me_varW (pv 1)) (weak me_int))))) (weak (me_op2 op_mulW o_mul (weak me_int) (me_varW (pv 1)))))) (weak me_int))) (weak me_int))))
  (mss_one (ms_ret (me_op2 op_modN o_mod (weak (me_op2 op_fdivB o_div (me_varW (pv 3)) (weak me_int))) (me_varW (pv 2))))))
theorem d__law_mixed (T : Fx K mg) : Def P w K mg base 2 "_law_mixed" 3 [] m__law_mixed := by
  obtain ⟨fd, F⟩ := T.f__law_mixed
  exact Def.mk' (ps := ["_law_script", "_law_k", "_law_many"]) (N := N__law_mixed) (k := 1) F T.g__law_mixed sc__law_mixed b__law_mixed ⟨[], [], .nil, F.bindsN (fun _ _ _ _ _ _ us hl => match us, hl with | [_, _, _], _ => rfl), fun _ _ => .nil⟩ (fun cdv A outer s H E hr => w__law_mixed T fd cdv A outer s H E hr)
abbrev N__law_deck : List Str := ["_law_script", "_law_cell_here"]
theorem sc__law_deck : FnScope N__law_deck ["_law_script"] (defScope (top 16)) := ⟨rfl, rfl, rfl, by decide +kernel, rfl, by decide +kernel, by decide +kernel⟩
theorem w__law_deck (T : Fx K mg) (fd : FuncData) (cdv : Value) (A : Around) (outer : List Env) (s : Shared) (H : Hp) (E : XK) (hr : Room 0 (A.deeper (envOfC "_law_deck" (defScope (top 16)) s.heap.objs.size (He.ga K "_law_deck") cdv))) :
    PSs (cxOf (L2.CX P w) P w K mg base N__law_deck "_law_deck" (defScope (top 16)) (He.ga K "_law_deck") cdv A outer s H E) (defBody (top 16)) (tSd K b__law_deck) := by
  have tk := tk_cx (P := P) (w := w) (K := K) (mg := mg) (base := base) (N := N__law_deck) (qual := "_law_deck") (scope := defScope (top 16)) (f := He.ga K "_law_deck") (cd := cdv) (A := A) (outer := outer) (s := s) (H := H) (E := E)
  exact (mss_oneD (ms_retDk (W := fun cls d _ H => E cls d H) (pv 0) (mf_lc (own := [("_law_cell_here", 1)]) (ws := [1]) rfl sc__law_deck.nd (toO (mi_seq (me_var (pv 0)))) (blkOk_by (N := N__law_deck) (sc := defScope (top 16)) (by decide +kernel)) (by decide) (fun _ _ _ _ _ => (mg_name (pg_name (i := 1) sc__law_deck.nd rfl (Or.inl rfl)))) (fun _ _ _ _ _ => (mts_one (mt_cmp2 op_ge o_ge (weak (me_callB call_abs c_abs (by rfl) T.z_abs (by decide +kernel) (maw_cons (me_varW (pv 1)) maw_nil))) (weak (me_op2 op_pow o_pow (weak me_int) (weak me_int))) (nomark _)))) (fun _ _ _ _ _ => (me_callB call_abs c_abs (by rfl) T.z_abs (by decide +kernel) (maw_cons (me_varW (pv 1)) maw_nil))))))
theorem d__law_deck (T : Fx K mg) : DefD P w K mg base 1 "_law_deck" 1 m__law_deck := by
  obtain ⟨fd, F⟩ := T.f__law_deck
  exact DefD.mk' (ps := ["_law_script"]) (N := N__law_deck) (k := 0) F T.g__law_deck sc__law_deck b__law_deck ⟨[], .nil, F.bindsN (fun _ _ _ _ _ _ us hl => match us, hl with | [_], _ => rfl)⟩ (fun cdv A outer s H E hr => w__law_deck T fd cdv A outer s H E hr)
abbrev N__law_take : List Str := ["_law_deck_here", "_law_many", "_law_cell_here"]
theorem sc__law_take : FnScope N__law_take ["_law_deck_here", "_law_many"] (defScope (top 17)) := ⟨rfl, rfl, rfl, by decide +kernel, rfl, by decide +kernel, by decide +kernel⟩
theorem w__law_take (T : Fx K mg) (fd : FuncData) (cdv : Value) (A : Around) (outer : List Env) (s : Shared) (H : Hp) (E : XK) (hr : Room 2 (A.deeper (envOfC "_law_take" (defScope (top 17)) s.heap.objs.size (He.ga K "_law_take") cdv))) :
    PSs (cxOf (L2.CX P w) P w K mg base N__law_take "_law_take" (defScope (top 17)) (He.ga K "_law_take") cdv A outer s H E) (defBody (top 17)) (tS K (fun cls d _ H => E cls d H) b__law_take) := by
  have tk := tk_cx (P := P) (w := w) (K := K) (mg := mg) (base := base) (N := N__law_take) (qual := "_law_take") (scope := defScope (top 17)) (f := He.ga K "_law_take") (cd := cdv) (A := A) (outer := outer) (s := s) (H := H) (E := E)
  exact (mss_cons (ms_while po_cx (mt_cmp2 op_lt o_lt (weak (me_dk (j := 2) (pe_ix ix_list (pv 0) pe_int (fun _ _ => rfl)))) (weak (me_dkLen (pe_callB call_len3 (by rfl) T.z_len (by decide +kernel) (pa_cons (pe_ix ix_list (pv 0) pe_int (fun _ _ => rfl)) pa_nil)))) (nomark _)) (mss_cons (ms_set (ps_set (i := 2) sc__law_take.nd rfl (Or.inl rfl) (me_dkAt (pe_ix ix_list (pe_ix ix_list (pv 0) pe_int (fun _ _ => rfl)) (pe_ix ix_list (pv 0) pe_int (fun _ _ => rfl)) (fun _ _ => rfl)))))
  (mss_cons (ms_if (mt_cmp2 op_gt o_gt (me_varW (pv 2)) (weak me_int) (nomark _)) (mss_cons (ms_dkBig (ps_asg (me_op2 op_fdivB o_div (me_varW (pv 2)) (me_varW (pv 1))) (pg_sub (pe_ix ix_list (pv 0) pe_int (fun _ _ => rfl)) (pe_ix ix_list (pv 0) pe_int (fun _ _ => rfl)) set_list)))
  (mss_one (ms_ret (me_op2 op_modN o_mod (me_varW (pv 2)) (me_varW (pv 1)))))) mss_nil)
  (mss_one (ms_dkSet (j := 2) (ps_asg (me_op2 op_add4 o_add (weak (me_dk (j := 2) (pe_ix ix_list (pv 0) pe_int (fun _ _ => rfl)))) (weak me_int)) (pg_sub (pv 0) pe_int set_list)))))))
  (mss_cons (ms_dkSet (j := 3) (ps_asg (me_op2 op_add4 o_add (weak (me_dk (j := 3) (pe_ix ix_list (pv 0) pe_int (fun _ _ => rfl)))) (weak me_int)) (pg_sub (pv 0) pe_int set_list)))
  (mss_one (ms_ret (me_call ((d__law_mixed T).mono (by decide)) hr tk (by rfl) (alen_cons (alen_cons (alen_cons alen_nil))) (ma_cons (me_dk (j := 0) (pe_ix ix_list (pv 0) pe_int (fun _ _ => rfl))) (ma_cons (me_dk (j := 3) (pe_ix ix_list (pv 0) pe_int (fun _ _ => rfl))) (ma_cons (me_var (pv 1)) ma_nil))))))))
theorem d__law_take (T : Fx K mg) : Def P w K mg base 3 "_law_take" 2 [] m__law_take := by
  obtain ⟨fd, F⟩ := T.f__law_take
  exact Def.mk' (ps := ["_law_deck_here", "_law_many"]) (N := N__law_take) (k := 2) F T.g__law_take sc__law_take b__law_take ⟨[], [], .nil, F.bindsN (fun _ _ _ _ _ _ us hl => match us, hl with | [_, _], _ => rfl), fun _ _ => .nil⟩ (fun cdv A outer s H E hr => w__law_take T fd cdv A outer s H E hr)
abbrev N__law_left : List Str := ["_law_a", "_law_b", "_law_c"]
theorem sc__law_left : FnScope N__law_left ["_law_a", "_law_b", "_law_c"] (defScope (top 18)) := ⟨rfl, rfl, rfl, by decide +kernel, rfl, by decide +kernel, by decide +kernel⟩
theorem w__law_left (T : Fx K mg) (fd : FuncData) (cdv : Value) (A : Around) (outer : List Env) (s : Shared) (H : Hp) (E : XK) (hr : Room 0 (A.deeper (envOfC "_law_left" (defScope (top 18)) s.heap.objs.size (He.ga K "_law_left") cdv))) :
    PSs (cxOf (L2.CX P w) P w K mg base N__law_left "_law_left" (defScope (top 18)) (He.ga K "_law_left") cdv A outer s H E) (defBody (top 18)) (tS K (fun cls d _ H => E cls d H) b__law_left) := by
  have tk := tk_cx (P := P) (w := w) (K := K) (mg := mg) (base := base) (N := N__law_left) (qual := "_law_left") (scope := defScope (top 18)) (f := He.ga K "_law_left") (cd := cdv) (A := A) (outer := outer) (s := s) (H := H) (E := E)
  exact (mss_one (ms_ret (me_op2 op_sub o_sub (weak (me_op2 op_mulW o_mul (weak (me_op2 op_sub o_sub (weak (me_ix ix_seq o_ix (me_varW (pv 1)) (weak me_int) (fun _ _ => rfl))) (weak (me_ix ix_seq o_ix (me_varW (pv 0)) (weak me_int) (fun _ _ => rfl))))) (weak (me_op2 op_sub o_sub (weak (me_ix ix_seq o_ix (me_varW (pv 2)) (weak me_int) (fun _ _ => rfl))) (weak (me_ix ix_seq o_ix (me_varW (pv 0)) (weak me_int) (fun _ _ => rfl))))))) (weak (me_op2 op_mulW o_mul (weak (me_op2 op_sub o_sub (weak (me_ix ix_seq o_ix (me_varW (pv 1)) (weak me_int) (fun _ _ => rfl))) (weak (me_ix ix_seq o_ix (me_varW (pv 0)) (weak me_int) (fun _ _ => rfl))))) (weak (me_op2 op_sub o_sub (weak (me_ix ix_seq o_ix (me_varW (pv 2)) (weak me_int) (fun _ _ => rfl))) (weak (me_ix ix_seq o_ix (me_varW (pv 0)) (weak me_int) (fun _ _ => rfl))))))))))
theorem d__law_left (T : Fx K mg) : Def P w K mg base 1 "_law_left" 3 [] m__law_left := by
  obtain ⟨fd, F⟩ := T.f__law_left
  exact Def.mk' (ps := ["_law_a", "_law_b", "_law_c"]) (N := N__law_left) (k := 0) F T.g__law_left sc__law_left b__law_left ⟨[], [], .nil, F.bindsN (fun _ _ _ _ _ _ us hl => match us, hl with | [_, _, _], _ => rfl), fun _ _ => .nil⟩ (fun cdv A outer s H E hr => w__law_left T fd cdv A outer s H E hr)
abbrev N__law_half : List Str := ["_law_points", "_law_found", "_law_point"]
theorem sc__law_half : FnScope N__law_half ["_law_points"] (defScope (top 19)) := ⟨rfl, rfl, rfl, by decide +kernel, rfl, by decide +kernel, by decide +kernel⟩
theorem w__law_half (T : Fx K mg) (fd : FuncData) (cdv : Value) (A : Around) (outer : List Env) (s : Shared) (H : Hp) (E : XK) (hr : Room 1 (A.deeper (envOfC "_law_half" (defScope (top 19)) s.heap.objs.size (He.ga K "_law_half") cdv))) :
    PSs (cxOf (L2.CX P w) P w K mg base N__law_half "_law_half" (defScope (top 19)) (He.ga K "_law_half") cdv A outer s H E) (defBody (top 19)) (tS K (fun cls d _ H => E cls d H) b__law_half) := by
  have tk := tk_cx (P := P) (w := w) (K := K) (mg := mg) (base := base) (N := N__law_half) (qual := "_law_half") (scope := defScope (top 19)) (f := He.ga K "_law_half") (cd := cdv) (A := A) (outer := outer) (s := s) (H := H) (E := E)
  exact (mss_cons (ms_set (ps_set (i := 1) sc__law_half.nd rfl (Or.inl rfl) (me_new (mf_lst ma_nil))))
  (mss_cons (ms_for po_cx rfl (mi_seq (me_var (pv 0))) (mg_name (pg_name (i := 2) sc__law_half.nd rfl (Or.inl rfl))) (mss_cons (ms_while po_cx (PW.pt (mw_and (mt_cmp2 op_gt o_gt (weak (me_callB call_len3 c_len (by rfl) T.z_len (by decide +kernel) (maw_cons (me_varW (pv 1)) maw_nil))) (weak me_int) (nomark _)) (mw_and1 (mt_cmp2 op_le o_le (weak (me_call ((d__law_left T).mono (by decide)) hr tk (by rfl) (alen_cons (alen_cons (alen_cons alen_nil))) (ma_cons (me_ix ix_seq o_ix (me_varW (pv 1)) (weak (me_un un_neg o_neg (weak me_int))) (fun _ _ => rfl)) (ma_cons (me_ix ix_seq o_ix (me_varW (pv 1)) (weak (me_un un_neg o_neg (weak me_int))) (fun _ _ => rfl)) (ma_cons (me_var (pv 2)) ma_nil))))) (weak me_int) (nomark _))))) (mss_one (ms_set (ps_set (i := 1) sc__law_half.nd rfl (Or.inl rfl) (me_new (mf_cut (me_varW (pv 1)) mo_none (mo_some (me_un un_neg o_neg (weak me_int)))))))))
  (mss_one (ms_set (ps_set (i := 1) sc__law_half.nd rfl (Or.inl rfl) (me_op2 op_add4 o_add (me_varW (pv 1)) (weak (me_new (mf_lst (ma_cons (me_var (pv 2)) ma_nil))))))))))
  (mss_one (ms_ret (me_new (mf_cut (me_varW (pv 1)) mo_none (mo_some (me_un un_neg o_neg (weak me_int)))))))))
theorem d__law_half (T : Fx K mg) : Def P w K mg base 2 "_law_half" 1 [] m__law_half := by
  obtain ⟨fd, F⟩ := T.f__law_half
  exact Def.mk' (ps := ["_law_points"]) (N := N__law_half) (k := 1) F T.g__law_half sc__law_half b__law_half ⟨[], [], .nil, F.bindsN (fun _ _ _ _ _ _ us hl => match us, hl with | [_], _ => rfl), fun _ _ => .nil⟩ (fun cdv A outer s H E hr => w__law_half T fd cdv A outer s H E hr)
abbrev N__law_hull : List Str := ["_law_points", "_law_rows", "_law_found"]
theorem sc__law_hull : FnScope N__law_hull ["_law_points"] (defScope (top 20)) := ⟨rfl, rfl, rfl, by decide +kernel, rfl, by decide +kernel, by decide +kernel⟩
theorem w__law_hull (T : Fx K mg) (fd : FuncData) (cdv : Value) (A : Around) (outer : List Env) (s : Shared) (H : Hp) (E : XK) (hr : Room 2 (A.deeper (envOfC "_law_hull" (defScope (top 20)) s.heap.objs.size (He.ga K "_law_hull") cdv))) :
    PSs (cxOf (L2.CX P w) P w K mg base N__law_hull "_law_hull" (defScope (top 20)) (He.ga K "_law_hull") cdv A outer s H E) (defBody (top 20)) (tS K (fun cls d _ H => E cls d H) b__law_hull) := by
  have tk := tk_cx (P := P) (w := w) (K := K) (mg := mg) (base := base) (N := N__law_hull) (qual := "_law_hull") (scope := defScope (top 20)) (f := He.ga K "_law_hull") (cd := cdv) (A := A) (outer := outer) (s := s) (H := H) (E := E)
  exact (mss_cons (ms_set (ps_set (i := 1) sc__law_hull.nd rfl (Or.inl rfl) (me_new (mf_sortD hr.units (by rfl) T.z_sorted (maw_cons (me_varW (pv 0)) maw_nil)))))
  (mss_cons (ms_set (ps_set (i := 2) sc__law_hull.nd rfl (Or.inl rfl) (me_callTy call_tuple_of c_tup (by rfl) T.z_tuple (by decide +kernel) (maw_cons (weak (me_op2 op_add4 o_add (weak (me_call ((d__law_half T).mono (by decide)) hr tk (by rfl) (alen_cons alen_nil) (ma_cons (me_var (pv 1)) ma_nil))) (weak (me_call ((d__law_half T).mono (by decide)) hr tk (by rfl) (alen_cons alen_nil) (ma_cons (me_new (mf_rev (me_varW (pv 1)))) ma_nil))))) maw_nil))))
  (mss_cons (ms_if (mt_cmp2 op_lt o_lt (weak (me_callB call_len3 c_len (by rfl) T.z_len (by decide +kernel) (maw_cons (me_varW (pv 2)) maw_nil))) (weak me_int) (nomark _)) (mss_one (ms_ret (me_tup (ma_cons (me_tup (ma_cons me_int (ma_cons me_int ma_nil))) (ma_cons (me_tup (ma_cons me_int (ma_cons me_int ma_nil))) (ma_cons (me_tup (ma_cons me_int (ma_cons me_int ma_nil))) ma_nil)))))) mss_nil)
  (mss_one (ms_ret (me_var (pv 2)))))))
theorem d__law_hull (T : Fx K mg) : Def P w K mg base 3 "_law_hull" 1 [] m__law_hull := by
  obtain ⟨fd, F⟩ := T.f__law_hull
  exact Def.mk' (ps := ["_law_points"]) (N := N__law_hull) (k := 2) F T.g__law_hull sc__law_hull b__law_hull ⟨[], [], .nil, F.bindsN (fun _ _ _ _ _ _ us hl => match us, hl with | [_], _ => rfl), fun _ _ => .nil⟩ (fun cdv A outer s H E hr => w__law_hull T fd cdv A outer s H E hr)
abbrev N__law_shape : List Str := ["_law_deck_here", "_law_kind", "_law_span", "_law_wide", "_law_high", "_law_points", "_law_turn", "_law_k"]
theorem sc__law_shape : FnScope N__law_shape ["_law_deck_here"] (defScope (top 21)) := ⟨rfl, rfl, rfl, by decide +kernel, rfl, by decide +kernel, by decide +kernel⟩
theorem w__law_shape (T : Fx K mg) (fd : FuncData) (cdv : Value) (A : Around) (outer : List Env) (s : Shared) (H : Hp) (E : XK) (hr : Room 3 (A.deeper (envOfC "_law_shape" (defScope (top 21)) s.heap.objs.size (He.ga K "_law_shape") cdv))) :
    PSs (cxOf (L2.CX P w) P w K mg base N__law_shape "_law_shape" (defScope (top 21)) (He.ga K "_law_shape") cdv A outer s H E) (defBody (top 21)) (tS K (fun cls d _ H => E cls d H) b__law_shape) := by
  have tk := tk_cx (P := P) (w := w) (K := K) (mg := mg) (base := base) (N := N__law_shape) (qual := "_law_shape") (scope := defScope (top 21)) (f := He.ga K "_law_shape") (cd := cdv) (A := A) (outer := outer) (s := s) (H := H) (E := E)
  exact (mss_cons (ms_set (ps_set (i := 1) sc__law_shape.nd rfl (Or.inl rfl) (me_callS ((d__law_take T).mono (by decide)) hr tk (by rfl) (alen_cons (alen_cons alen_nil)) (ma_cons (me_var (pv 0)) (ma_cons me_int ma_nil)))))
  (mss_cons (ms_set (ps_set (i := 2) sc__law_shape.nd rfl (Or.inl rfl) (me_ix ix_seq o_ix (weak (me_new (mf_lst (ma_cons me_int (ma_cons me_int (ma_cons me_int ma_nil)))))) (weak (me_callS ((d__law_take T).mono (by decide)) hr tk (by rfl) (alen_cons (alen_cons alen_nil)) (ma_cons (me_var (pv 0)) (ma_cons me_int ma_nil)))) (fun _ _ => rfl))))
  (mss_cons (ms_if (mt_cmp2 (op_eqD hr.units) o_eq (me_varW (pv 1)) (weak me_int) (nomark _)) (mss_cons (ms_set (ps_set (i := 3) sc__law_shape.nd rfl (Or.inr rfl) (me_op2 op_add4 o_add (weak me_int) (weak (me_callS ((d__law_take T).mono (by decide)) hr tk (by rfl) (alen_cons (alen_cons alen_nil)) (ma_cons (me_var (pv 0)) (ma_cons (me_var (pv 2)) ma_nil)))))))
  (mss_cons (ms_set (ps_set (i := 4) sc__law_shape.nd rfl (Or.inr rfl) (me_op2 op_add4 o_add (weak me_int) (weak (me_callS ((d__law_take T).mono (by decide)) hr tk (by rfl) (alen_cons (alen_cons alen_nil)) (ma_cons (me_var (pv 0)) (ma_cons (me_var (pv 2)) ma_nil)))))))
  (mss_one (ms_ret (me_tup (ma_cons (me_tup (ma_cons me_int (ma_cons me_int ma_nil))) (ma_cons (me_tup (ma_cons (me_var (pv 3)) (ma_cons me_int ma_nil))) (ma_cons (me_tup (ma_cons (me_var (pv 3)) (ma_cons (me_var (pv 4)) ma_nil))) (ma_cons (me_tup (ma_cons me_int (ma_cons (me_var (pv 4)) ma_nil))) ma_nil))))))))) mss_nil)
  (mss_cons (ms_if (mt_cmp2 (op_eqD hr.units) o_eq (me_varW (pv 1)) (weak me_int) (nomark _)) (mss_cons (ms_set (ps_set (i := 3) sc__law_shape.nd rfl (Or.inr rfl) (me_op2 op_add4 o_add (weak me_int) (weak (me_callS ((d__law_take T).mono (by decide)) hr tk (by rfl) (alen_cons (alen_cons alen_nil)) (ma_cons (me_var (pv 0)) (ma_cons me_int ma_nil)))))))
  (mss_cons (ms_set (ps_set (i := 4) sc__law_shape.nd rfl (Or.inr rfl) (me_op2 op_add4 o_add (weak me_int) (weak (me_callS ((d__law_take T).mono (by decide)) hr tk (by rfl) (alen_cons (alen_cons alen_nil)) (ma_cons (me_var (pv 0)) (ma_cons me_int ma_nil)))))))
  (mss_one (ms_ret (me_call ((d__law_hull T).mono (by decide)) hr tk (by rfl) (alen_cons alen_nil) (ma_cons (me_new (mf_lc (own := [("_law_k", 7)]) (ws := [7]) rfl sc__law_shape.nd (toO (mi_range2 (by rfl) T.z_range (maw_cons (weak (me_un un_neg o_neg (weak me_int))) (maw_cons (weak me_int) maw_nil)))) (blkOk_by (N := N__law_shape) (sc := defScope (top 21)) (by decide +kernel)) (by decide) (fun _ _ _ _ _ => (mg_name (pg_name (i := 7) sc__law_shape.nd rfl (Or.inl rfl)))) (fun _ _ _ _ _ => mts_nil) (fun _ _ _ _ _ => (me_tup (ma_cons (me_op2 op_mulW o_mul (weak (me_op2 op_mulW o_mul (me_varW (pv 3)) (me_varW (pv 7)))) (me_varW (pv 7))) (ma_cons (me_op2 op_mulW o_mul (me_varW (pv 4)) (me_varW (pv 7))) ma_nil)))))) ma_nil)))))) mss_nil)
  (mss_cons (ms_setOwn (ps_set (i := 5) sc__law_shape.nd rfl (Or.inl rfl) (mf_lst (ma_cons (me_tup (ma_cons (me_var (pv 2)) (ma_cons me_int ma_nil))) (ma_cons (me_tup (ma_cons me_int (ma_cons (me_var (pv 2)) ma_nil))) (ma_cons (me_tup (ma_cons (me_un un_neg o_neg (me_varW (pv 2))) (ma_cons me_int ma_nil))) (ma_cons (me_tup (ma_cons me_int (ma_cons (me_un un_neg o_neg (me_varW (pv 2))) ma_nil))) ma_nil)))))))
  (mss_cons (ms_for po_cx rfl (mi_range1 (by rfl) T.z_range (maw_cons (weak (me_ix ix_seq o_ix (weak (me_new (mf_lst (ma_cons me_int (ma_cons me_int ma_nil))))) (weak (me_op2 op_sub o_sub (me_varW (pv 1)) (weak me_int))) (fun _ _ => rfl))) maw_nil)) (mg_name (pg_name (i := 6) sc__law_shape.nd rfl (Or.inl rfl))) (mss_one (ms_app (ps_expr (pe_bm PySem.F.plainAttrs_list PySem.F.slot_list_append PySem.F.type_list_append mt_append (pv 5) (pa_cons (me_tup (ma_cons (me_op2 op_sub o_sub (weak (me_callS ((d__law_take T).mono (by decide)) hr tk (by rfl) (alen_cons (alen_cons alen_nil)) (ma_cons (me_var (pv 0)) (ma_cons (me_op2 op_add4 o_add (weak (me_op2 op_mulW o_mul (weak me_int) (me_varW (pv 2)))) (weak me_int)) ma_nil)))) (me_varW (pv 2))) (ma_cons (me_op2 op_sub o_sub (weak (me_callS ((d__law_take T).mono (by decide)) hr tk (by rfl) (alen_cons (alen_cons alen_nil)) (ma_cons (me_var (pv 0)) (ma_cons (me_op2 op_add4 o_add (weak (me_op2 op_mulW o_mul (weak me_int) (me_varW (pv 2)))) (weak me_int)) ma_nil)))) (me_varW (pv 2))) ma_nil))) pa_nil))))))
  (mss_frz (mss_one (ms_ret (me_call ((d__law_hull T).mono (by decide)) hr tk (by rfl) (alen_cons alen_nil) (ma_cons (me_new (mf_cut (me_varW (pv 5)) (mo_some (me_un un_neg o_neg (weak me_int))) mo_none)) ma_nil)))))))))))
theorem d__law_shape (T : Fx K mg) : Def P w K mg base 4 "_law_shape" 1 [] m__law_shape := by
  obtain ⟨fd, F⟩ := T.f__law_shape
  exact Def.mk' (ps := ["_law_deck_here"]) (N := N__law_shape) (k := 3) F T.g__law_shape sc__law_shape b__law_shape ⟨[], [], .nil, F.bindsN (fun _ _ _ _ _ _ us hl => match us, hl with | [_], _ => rfl), fun _ _ => .nil⟩ (fun cdv A outer s H E hr => w__law_shape T fd cdv A outer s H E hr)
abbrev N__law_form : List Str := ["_law_thing_here", "_law_corner", "_law_number", "_law_corners", "_law_many", "_law_k", "_law_a", "_law_b", "_law_j", "_law_c"]
theorem sc__law_form : FnScope N__law_form ["_law_thing_here"] (defScope (top 22)) := ⟨rfl, rfl, rfl, by decide +kernel, rfl, by decide +kernel, by decide +kernel⟩
theorem w__law_form (T : Fx K mg) (fd : FuncData) (cdv : Value) (A : Around) (outer : List Env) (s : Shared) (H : Hp) (E : XK) (hr : Room 1 (A.deeper (envOfC "_law_form" (defScope (top 22)) s.heap.objs.size (He.ga K "_law_form") cdv))) :
    PSs (cxOf (L2.CX P w) P w K mg base N__law_form "_law_form" (defScope (top 22)) (He.ga K "_law_form") cdv A outer s H E) (defBody (top 22)) (tS K (fun cls d _ H => E cls d H) b__law_form) := by
  have tk := tk_cx (P := P) (w := w) (K := K) (mg := mg) (base := base) (N := N__law_form) (qual := "_law_form") (scope := defScope (top 22)) (f := He.ga K "_law_form") (cd := cdv) (A := A) (outer := outer) (s := s) (H := H) (E := E)
  exact (mss_cons (ms_if (PW.pt (mw_or (mt_not (mt_truth (weak (me_isi2 (by rfl) T.z_isinstance (me_varW (pv 0)) (pe_bltn (v := .ty "list") (by rfl) T.z_list (by decide +kernel) rfl) (pe_bltn (v := .ty "tuple") (by rfl) T.z_tuple (by decide +kernel) rfl))))) (mw_or (mt_cmp2 op_lt o_lt (weak (me_callB call_len3 c_len (by rfl) T.z_len (by decide +kernel) (maw_cons (me_varW (pv 0)) maw_nil))) (weak me_int) (nomark _)) (mw_or1 (mt_cmp2 op_gt o_gt (weak (me_callB call_len3 c_len (by rfl) T.z_len (by decide +kernel) (maw_cons (me_varW (pv 0)) maw_nil))) (weak me_int) (nomark _)))))) (mss_one (ms_ret me_non)) mss_nil)
  (mss_cons (ms_for po_cx rfl (mi_seq (me_var (pv 0))) (mg_name (pg_name (i := 1) sc__law_form.nd rfl (Or.inl rfl))) (mss_cons (ms_if (PW.pt (mw_or (mt_not (mt_truth (weak (me_isi2 (by rfl) T.z_isinstance (me_varW (pv 1)) (pe_bltn (v := .ty "list") (by rfl) T.z_list (by decide +kernel) rfl) (pe_bltn (v := .ty "tuple") (by rfl) T.z_tuple (by decide +kernel) rfl))))) (mw_or1 (mt_cmp2 (op_neD hr.units) o_ne (weak (me_callB call_len3 c_len (by rfl) T.z_len (by decide +kernel) (maw_cons (me_varW (pv 1)) maw_nil))) (weak me_int) (nomark _))))) (mss_one (ms_ret me_non)) mss_nil)
  (mss_one (ms_for po_cx rfl (mi_seq (me_var (pv 1))) (mg_name (pg_name (i := 2) sc__law_form.nd rfl (Or.inl rfl))) (mss_one (ms_if (PW.pt (mw_or (mt_not (mt_truth (weak (me_callB call_isi c_isi (by rfl) T.z_isinstance (by decide +kernel) (maw_cons (me_varW (pv 2)) (maw_cons (weak (me_type (by rfl) T.z_int (by decide +kernel))) maw_nil)))))) (mw_or (mt_truth (weak (me_callB call_isi c_isi (by rfl) T.z_isinstance (by decide +kernel) (maw_cons (me_varW (pv 2)) (maw_cons (weak (me_type (by rfl) T.z_bool (by decide +kernel))) maw_nil))))) (mw_or1 (mt_cmp2 op_gt o_gt (weak (me_callB call_abs c_abs (by rfl) T.z_abs (by decide +kernel) (maw_cons (me_varW (pv 2)) maw_nil))) (weak me_int) (nomark _)))))) (mss_one (ms_ret me_non)) mss_nil))))))
  (mss_cons (ms_lc (by decide) (ps_setLc (i := 3) (own := [("_law_corner", 1)]) rfl sc__law_form.nd rfl rfl (sw_true rfl rfl rfl (by decide +kernel)) (toO (mi_seq (me_var (pv 0)))) (blkOk_by (N := N__law_form) (sc := defScope (top 22)) (by decide +kernel)) (fun _ _ _ _ _ => (mg_name (pg_name (i := 1) sc__law_form.nd rfl (Or.inl rfl)))) (fun _ _ _ _ _ => mts_nil) (fun _ _ _ _ _ => (me_callTy call_tuple_of c_tup (by rfl) T.z_tuple (by decide +kernel) (maw_cons (me_varW (pv 1)) maw_nil)))))
  (mss_cons (ms_set (ps_set (i := 4) sc__law_form.nd rfl (Or.inl rfl) (me_callB call_len3 c_len (by rfl) T.z_len (by decide +kernel) (maw_cons (me_varW (pv 3)) maw_nil))))
  (mss_cons (ms_for po_cx rfl (mi_enum2 (by rfl) T.z_enumerate (ma_cons (me_var (pv 3)) ma_nil)) (mg_tup rfl (glen_cons (glen_cons glen_nil)) (mgs_cons (mg_name (pg_name (i := 5) sc__law_form.nd rfl (Or.inl rfl))) (mgs_cons (mg_name (pg_name (i := 6) sc__law_form.nd rfl (Or.inl rfl))) mgs_nil))) (mss_cons (ms_set (ps_set (i := 7) sc__law_form.nd rfl (Or.inl rfl) (me_ix ix_seq o_ix (me_varW (pv 3)) (weak (me_op2 op_modN o_mod (weak (me_op2 op_add4 o_add (me_varW (pv 5)) (weak me_int))) (me_varW (pv 4)))) (fun _ _ => rfl))))
  (mss_one (ms_for po_cx rfl (mi_enum2 (by rfl) T.z_enumerate (ma_cons (me_var (pv 3)) ma_nil)) (mg_tup rfl (glen_cons (glen_cons glen_nil)) (mgs_cons (mg_name (pg_name (i := 8) sc__law_form.nd rfl (Or.inl rfl))) (mgs_cons (mg_name (pg_name (i := 9) sc__law_form.nd rfl (Or.inl rfl))) mgs_nil))) (mss_one (ms_if (PW.pt (mw_and (mt_cmp2 (op_neD hr.units) o_ne (me_varW (pv 8)) (me_varW (pv 5)) (nomark _)) (mw_and (mt_cmp2 (op_neD hr.units) o_ne (me_varW (pv 8)) (weak (me_op2 op_modN o_mod (weak (me_op2 op_add4 o_add (me_varW (pv 5)) (weak me_int))) (me_varW (pv 4)))) (nomark _)) (mw_and1 (mt_cmp2 op_le o_le (weak (me_call ((d__law_left T).mono (by decide)) hr tk (by rfl) (alen_cons (alen_cons (alen_cons alen_nil))) (ma_cons (me_var (pv 6)) (ma_cons (me_var (pv 7)) (ma_cons (me_var (pv 9)) ma_nil))))) (weak me_int) (nomark _)))))) (mss_one (ms_ret me_non)) mss_nil))))))
  (mss_cons (ms_set (ps_set (i := 5) sc__law_form.nd rfl (Or.inl rfl) (me_idx (room65 hr) (me_varW (pv 3)) (weak (me_callB (cr_minD rfl hr.units) c_minD (by rfl) T.z_min (by decide +kernel) (maw_cons (me_varW (pv 3)) maw_nil))))))
  (mss_one (ms_ret (me_callTy call_tuple_of c_tup (by rfl) T.z_tuple (by decide +kernel) (maw_cons (weak (me_op2 op_add4 o_add (weak (me_new (mf_cut (me_varW (pv 3)) (mo_some (me_var (pv 5))) mo_none))) (weak (me_new (mf_cut (me_varW (pv 3)) mo_none (mo_some (me_var (pv 5)))))))) maw_nil))))))))))
theorem d__law_form (T : Fx K mg) : Def P w K mg base 2 "_law_form" 1 [] m__law_form := by
  obtain ⟨fd, F⟩ := T.f__law_form
  exact Def.mk' (ps := ["_law_thing_here"]) (N := N__law_form) (k := 1) F T.g__law_form sc__law_form b__law_form ⟨[], [], .nil, F.bindsN (fun _ _ _ _ _ _ us hl => match us, hl with | [_], _ => rfl), fun _ _ => .nil⟩ (fun cdv A outer s H E hr => w__law_form T fd cdv A outer s H E hr)
abbrev N__law_no_corner : List Str := ["_law_deck_here", "_law_x", "_law_y", "_law_some"]
theorem sc__law_no_corner : FnScope N__law_no_corner ["_law_deck_here", "_law_x", "_law_y"] (defScope (top 23)) := ⟨rfl, rfl, rfl, by decide +kernel, rfl, by decide +kernel, by decide +kernel⟩
theorem w__law_no_corner (T : Fx K mg) (fd : FuncData) (cdv : Value) (A : Around) (outer : List Env) (s : Shared) (H : Hp) (E : XK) (hr : Room 3 (A.deeper (envOfC "_law_no_corner" (defScope (top 23)) s.heap.objs.size (He.ga K "_law_no_corner") cdv))) :
    PSs (cxOf (L2.CX P w) P w K mg base N__law_no_corner "_law_no_corner" (defScope (top 23)) (He.ga K "_law_no_corner") cdv A outer s H E) (defBody (top 23)) (tS K (fun cls d _ H => E cls d H) b__law_no_corner) := by
  have tk := tk_cx (P := P) (w := w) (K := K) (mg := mg) (base := base) (N := N__law_no_corner) (qual := "_law_no_corner") (scope := defScope (top 23)) (f := He.ga K "_law_no_corner") (cd := cdv) (A := A) (outer := outer) (s := s) (H := H) (E := E)
  exact (mss_cons (ms_set (ps_set (i := 3) sc__law_no_corner.nd rfl (Or.inl rfl) (me_new (mf_lst (ma_cons (me_tup (ma_cons (me_var (pv 1)) ma_nil)) (ma_cons (me_tup (ma_cons (me_var (pv 1)) (ma_cons (me_var (pv 2)) (ma_cons me_int ma_nil)))) (ma_cons me_non (ma_cons (me_var (pv 1)) (ma_cons me_str (ma_cons (me_tup (ma_cons me_bl (ma_cons (me_var (pv 2)) ma_nil))) (ma_cons (me_tup (ma_cons (me_var (pv 1)) (ma_cons me_str ma_nil))) (ma_cons me_dct0 (ma_cons (me_new (mf_lst ma_nil)) (ma_cons (me_tup (ma_cons (me_tup (ma_cons (me_var (pv 1)) ma_nil)) (ma_cons (me_var (pv 2)) ma_nil))) (ma_cons (me_tup (ma_cons me_int (ma_cons (me_var (pv 2)) ma_nil))) (ma_cons (me_tup (ma_cons (me_var (pv 1)) (ma_cons (me_un un_neg o_neg (weak me_int)) ma_nil))) ma_nil))))))))))))))))
  (mss_one (ms_ret (me_ix ix_seq o_ix (weak (me_op2 op_add4 o_add (me_varW (pv 3)) (weak (me_new (mf_lst (ma_cons (me_tup (ma_cons (me_var (pv 1)) (ma_cons (me_op2 op_pow o_pow (weak me_int) (weak me_int)) ma_nil))) (ma_cons (me_new (mf_lst (ma_cons (me_un un_neg o_neg (weak (me_op2 op_pow o_pow (weak me_int) (weak me_int)))) (ma_cons (me_var (pv 2)) ma_nil)))) (ma_cons (me_tup (ma_cons (me_var (pv 1)) (ma_cons me_bl ma_nil))) (ma_cons (me_dct1 (atm_var (pv 1)) (atm_var (pv 2))) ma_nil))))))))) (weak (me_callS ((d__law_take T).mono (by decide)) hr tk (by rfl) (alen_cons (alen_cons alen_nil)) (ma_cons (me_var (pv 0)) (ma_cons me_int ma_nil)))) (fun _ _ => rfl)))))
theorem d__law_no_corner (T : Fx K mg) : Def P w K mg base 4 "_law_no_corner" 3 [] m__law_no_corner := by
  obtain ⟨fd, F⟩ := T.f__law_no_corner
  exact Def.mk' (ps := ["_law_deck_here", "_law_x", "_law_y"]) (N := N__law_no_corner) (k := 3) F T.g__law_no_corner sc__law_no_corner b__law_no_corner ⟨[], [], .nil, F.bindsN (fun _ _ _ _ _ _ us hl => match us, hl with | [_, _, _], _ => rfl), fun _ _ => .nil⟩ (fun cdv A outer s H E hr => w__law_no_corner T fd cdv A outer s H E hr)
abbrev N__law_other : List Str := ["_law_deck_here", "_law_shape_here", "_law_nine", "_law_some", "_law_k"]
theorem sc__law_other : FnScope N__law_other ["_law_deck_here", "_law_shape_here"] (defScope (top 24)) := ⟨rfl, rfl, rfl, by decide +kernel, rfl, by decide +kernel, by decide +kernel⟩
theorem w__law_other (T : Fx K mg) (fd : FuncData) (cdv : Value) (A : Around) (outer : List Env) (s : Shared) (H : Hp) (E : XK) (hr : Room 3 (A.deeper (envOfC "_law_other" (defScope (top 24)) s.heap.objs.size (He.ga K "_law_other") cdv))) :
    PSs (cxOf (L2.CX P w) P w K mg base N__law_other "_law_other" (defScope (top 24)) (He.ga K "_law_other") cdv A outer s H E) (defBody (top 24)) (tS K (fun cls d _ H => E cls d H) b__law_other) := by
  have tk := tk_cx (P := P) (w := w) (K := K) (mg := mg) (base := base) (N := N__law_other) (qual := "_law_other") (scope := defScope (top 24)) (f := He.ga K "_law_other") (cd := cdv) (A := A) (outer := outer) (s := s) (H := H) (E := E)
  exact (mss_cons (ms_lc (by decide) (ps_setLc (i := 2) (own := [("_law_k", 4)]) rfl sc__law_other.nd rfl rfl (sw_true rfl rfl rfl (by decide +kernel)) (toO (mi_range2 (by rfl) T.z_range (maw_cons (weak (me_un un_neg o_neg (weak me_int))) (maw_cons (weak me_int) maw_nil)))) (blkOk_by (N := N__law_other) (sc := defScope (top 24)) (by decide +kernel)) (fun _ _ _ _ _ => (mg_name (pg_name (i := 4) sc__law_other.nd rfl (Or.inl rfl)))) (fun _ _ _ _ _ => mts_nil) (fun _ _ _ _ _ => (me_tup (ma_cons (me_op2 op_mulW o_mul (me_varW (pv 4)) (me_varW (pv 4))) (ma_cons (me_op2 op_mulW o_mul (weak (me_un un_neg o_neg (weak me_int))) (me_varW (pv 4))) ma_nil))))))
  (mss_cons (ms_set (ps_set (i := 3) sc__law_other.nd rfl (Or.inl rfl) (me_new (mf_lst (ma_cons (me_var (pv 2)) (ma_cons (me_new (mf_cut (me_varW (pv 2)) (mo_some me_int) mo_none)) (ma_cons (me_new (mf_cut (me_varW (pv 2)) mo_none (mo_some me_int))) (ma_cons (me_callTy call_tuple_of c_tup (by rfl) T.z_tuple (by decide +kernel) (maw_cons (weak (me_new (mf_cut (me_varW (pv 2)) (mo_some me_int) mo_none))) maw_nil)) (ma_cons me_non (ma_cons me_int (ma_cons me_str (ma_cons me_str (ma_cons me_dct0 (ma_cons (me_tup ma_nil) (ma_cons (me_new (mf_lst ma_nil)) (ma_cons me_bl (ma_cons (me_cutT (me_varW (pv 1)) mo_none (mo_some me_int)) (ma_cons (me_tup (ma_cons (me_var (pv 1)) (ma_cons (me_var (pv 1)) ma_nil))) ma_nil))))))))))))))))))
  (mss_one (ms_ret (me_ix ix_seq o_ix (weak (me_op2 op_add4 o_add (me_varW (pv 3)) (weak (me_new (mf_lst (ma_cons (me_denum rfl (by rfl) T.z_dict (by rfl) T.z_enumerate (ma_cons (me_var (pv 1)) ma_nil)) (ma_cons (me_new (mf_lst (ma_cons (me_var (pv 1)) ma_nil))) (ma_cons (me_ix ix_seq o_ix (me_varW (pv 1)) (weak me_int) (fun _ _ => rfl)) ma_nil)))))))) (weak (me_callS ((d__law_take T).mono (by decide)) hr tk (by rfl) (alen_cons (alen_cons alen_nil)) (ma_cons (me_var (pv 0)) (ma_cons me_int ma_nil)))) (fun _ _ => rfl))))))
theorem d__law_other (T : Fx K mg) : Def P w K mg base 4 "_law_other" 2 [] m__law_other := by
  obtain ⟨fd, F⟩ := T.f__law_other
  exact Def.mk' (ps := ["_law_deck_here", "_law_shape_here"]) (N := N__law_other) (k := 3) F T.g__law_other sc__law_other b__law_other ⟨[], [], .nil, F.bindsN (fun _ _ _ _ _ _ us hl => match us, hl with | [_, _], _ => rfl), fun _ _ => .nil⟩ (fun cdv A outer s H E hr => w__law_other T fd cdv A outer s H E hr)
abbrev N__law_bent : List Str := ["_law_deck_here", "_law_kind", "_law_handed", "_law_j", "_law_x", "_law_y", "_law_p", "_law_q"]
theorem sc__law_bent : FnScope N__law_bent ["_law_deck_here", "_law_kind", "_law_handed"] (defScope (top 25)) := ⟨rfl, rfl, rfl, by decide +kernel, rfl, by decide +kernel, by decide +kernel⟩
theorem w__law_bent (T : Fx K mg) (fd : FuncData) (cdv : Value) (A : Around) (outer : List Env) (s : Shared) (H : Hp) (E : XK) (hr : Room 4 (A.deeper (envOfC "_law_bent" (defScope (top 25)) s.heap.objs.size (He.ga K "_law_bent") cdv))) :
    PSs (cxOf (L2.CX P w) P w K mg base N__law_bent "_law_bent" (defScope (top 25)) (He.ga K "_law_bent") cdv A outer s H E) (defBody (top 25)) (tS K (fun cls d _ H => E cls d H) b__law_bent) := by
  have tk := tk_cx (P := P) (w := w) (K := K) (mg := mg) (base := base) (N := N__law_bent) (qual := "_law_bent") (scope := defScope (top 25)) (f := He.ga K "_law_bent") (cd := cdv) (A := A) (outer := outer) (s := s) (H := H) (E := E)
  exact (mss_cons (ms_set (ps_set (i := 3) sc__law_bent.nd rfl (Or.inl rfl) (me_callS ((d__law_take T).mono (by decide)) hr tk (by rfl) (alen_cons (alen_cons alen_nil)) (ma_cons (me_var (pv 0)) (ma_cons (me_callB call_len3 c_len (by rfl) T.z_len (by decide +kernel) (maw_cons (me_varW (pv 2)) maw_nil)) ma_nil)))))
  (mss_cons (ms_asg (me_ix ix_seq o_ix (me_varW (pv 2)) (me_varW (pv 3)) (fun _ _ => rfl)) (mg_tupB rfl (glen_cons (glen_cons glen_nil)) (mgs_cons (mg_name (pg_name (i := 4) sc__law_bent.nd rfl (Or.inl rfl))) (mgs_cons (mg_name (pg_name (i := 5) sc__law_bent.nd rfl (Or.inl rfl))) mgs_nil))))
  (mss_cons (ms_asg (me_ix ix_seq o_ix (me_varW (pv 2)) (weak (me_op2 op_sub o_sub (me_varW (pv 3)) (weak me_int))) (fun _ _ => rfl)) (mg_tupB rfl (glen_cons (glen_cons glen_nil)) (mgs_cons (mg_name (pg_name (i := 6) sc__law_bent.nd rfl (Or.inl rfl))) (mgs_cons (mg_name (pg_name (i := 7) sc__law_bent.nd rfl (Or.inl rfl))) mgs_nil))))
  (mss_cons (ms_if (mt_cmp2 (op_eqD hr.units) o_eq (me_varW (pv 1)) (weak me_int) (nomark _)) (mss_one (ms_ret (me_new (mf_rev (me_varW (pv 2)))))) mss_nil)
  (mss_cons (ms_if (mt_cmp2 (op_eqD hr.units) o_eq (me_varW (pv 1)) (weak me_int) (nomark _)) (mss_one (ms_ret (me_op2 op_add4 o_add (weak (me_op2 op_add4 o_add (weak (me_new (mf_cut (me_varW (pv 2)) mo_none (mo_some (me_var (pv 3)))))) (weak (me_new (mf_lst (ma_cons (me_tup (ma_cons (me_op2 op_sub o_sub (weak (me_op2 op_add4 o_add (me_varW (pv 4)) (weak (me_callS ((d__law_take T).mono (by decide)) hr tk (by rfl) (alen_cons (alen_cons alen_nil)) (ma_cons (me_var (pv 0)) (ma_cons me_int ma_nil)))))) (weak me_int)) (ma_cons (me_op2 op_sub o_sub (weak (me_op2 op_add4 o_add (me_varW (pv 5)) (weak (me_callS ((d__law_take T).mono (by decide)) hr tk (by rfl) (alen_cons (alen_cons alen_nil)) (ma_cons (me_var (pv 0)) (ma_cons me_int ma_nil)))))) (weak me_int)) ma_nil))) ma_nil)))))) (weak (me_new (mf_cut (me_varW (pv 2)) (mo_some (me_op2 op_add4 o_add (me_varW (pv 3)) (weak me_int))) mo_none)))))) mss_nil)
  (mss_cons (ms_if (mt_cmp2 (op_eqD hr.units) o_eq (me_varW (pv 1)) (weak me_int) (nomark _)) (mss_one (ms_ret (me_op2 op_add4 o_add (weak (me_op2 op_add4 o_add (weak (me_new (mf_cut (me_varW (pv 2)) mo_none (mo_some (me_var (pv 3)))))) (weak (me_new (mf_lst (ma_cons (me_tup (ma_cons (me_op2 op_fdivB o_div (weak (me_op2 op_add4 o_add (me_varW (pv 4)) (me_varW (pv 6)))) (weak me_int)) (ma_cons (me_op2 op_fdivB o_div (weak (me_op2 op_add4 o_add (me_varW (pv 5)) (me_varW (pv 7)))) (weak me_int)) ma_nil))) ma_nil)))))) (weak (me_new (mf_cut (me_varW (pv 2)) (mo_some (me_var (pv 3))) mo_none)))))) mss_nil)
  (mss_cons (ms_if (mt_cmp2 (op_eqD hr.units) o_eq (me_varW (pv 1)) (weak me_int) (nomark _)) (mss_one (ms_ret (me_op2 op_add4 o_add (weak (me_op2 op_add4 o_add (weak (me_new (mf_cut (me_varW (pv 2)) mo_none (mo_some (me_var (pv 3)))))) (weak (me_new (mf_lst (ma_cons (me_tup (ma_cons (me_var (pv 4)) (ma_cons (me_var (pv 5)) ma_nil))) ma_nil)))))) (weak (me_new (mf_cut (me_varW (pv 2)) (mo_some (me_var (pv 3))) mo_none)))))) mss_nil)
  (mss_cons (ms_if (mt_cmp2 (op_eqD hr.units) o_eq (me_varW (pv 1)) (weak me_int) (nomark _)) (mss_one (ms_ret (me_op2 op_add4 o_add (weak (me_new (mf_cut (me_varW (pv 2)) mo_none (mo_some (me_var (pv 3)))))) (weak (me_new (mf_cut (me_varW (pv 2)) (mo_some (me_op2 op_add4 o_add (me_varW (pv 3)) (weak me_int))) mo_none)))))) mss_nil)
  (mss_cons (ms_if (mt_cmp2 (op_eqD hr.units) o_eq (me_varW (pv 1)) (weak me_int) (nomark _)) (mss_one (ms_ret (me_op2 op_add4 o_add (weak (me_op2 op_add4 o_add (weak (me_new (mf_cut (me_varW (pv 2)) mo_none (mo_some (me_var (pv 3)))))) (weak (me_new (mf_lst (ma_cons (me_callS ((d__law_no_corner T).mono (by decide)) hr tk (by rfl) (alen_cons (alen_cons (alen_cons alen_nil))) (ma_cons (me_var (pv 0)) (ma_cons (me_var (pv 4)) (ma_cons (me_var (pv 5)) ma_nil)))) ma_nil)))))) (weak (me_new (mf_cut (me_varW (pv 2)) (mo_some (me_op2 op_add4 o_add (me_varW (pv 3)) (weak me_int))) mo_none)))))) mss_nil)
  (mss_cons (ms_if (mt_cmp2 (op_eqD hr.units) o_eq (me_varW (pv 1)) (weak me_int) (nomark _)) (mss_one (ms_ret (me_op2 op_add4 o_add (weak (me_new (mf_step (k := 1) (me_varW (pv 2)) mo_none))) (weak (me_new (mf_step (k := 1) (me_varW (pv 2)) (mo_some me_int))))))) mss_nil)
  (mss_one (ms_ret (me_op2 op_add4 o_add (weak (me_op2 op_add4 o_add (weak (me_op2 op_add4 o_add (weak (me_new (mf_cut (me_varW (pv 2)) mo_none (mo_some (me_var (pv 3)))))) (weak (me_new (mf_cut (me_varW (pv 2)) (mo_some (me_op2 op_add4 o_add (me_varW (pv 3)) (weak me_int))) (mo_some (me_op2 op_add4 o_add (me_varW (pv 3)) (weak me_int)))))))) (weak (me_new (mf_lst (ma_cons (me_tup (ma_cons (me_var (pv 4)) (ma_cons (me_var (pv 5)) ma_nil))) ma_nil)))))) (weak (me_new (mf_cut (me_varW (pv 2)) (mo_some (me_op2 op_add4 o_add (me_varW (pv 3)) (weak me_int))) mo_none))))))))))))))))
theorem d__law_bent (T : Fx K mg) : Def P w K mg base 5 "_law_bent" 3 [] m__law_bent := by
  obtain ⟨fd, F⟩ := T.f__law_bent
  exact Def.mk' (ps := ["_law_deck_here", "_law_kind", "_law_handed"]) (N := N__law_bent) (k := 4) F T.g__law_bent sc__law_bent b__law_bent ⟨[], [], .nil, F.bindsN (fun _ _ _ _ _ _ us hl => match us, hl with | [_, _, _], _ => rfl), fun _ _ => .nil⟩ (fun cdv A outer s H E hr => w__law_bent T fd cdv A outer s H E hr)
abbrev N__law_thing : List Str := ["_law_deck_here", "_law_kind", "_law_shape_here", "_law_at", "_law_handed", "_law_corner"]
theorem sc__law_thing : FnScope N__law_thing ["_law_deck_here"] (defScope (top 26)) := ⟨rfl, rfl, rfl, by decide +kernel, rfl, by decide +kernel, by decide +kernel⟩
theorem w__law_thing (T : Fx K mg) (fd : FuncData) (cdv : Value) (A : Around) (outer : List Env) (s : Shared) (H : Hp) (E : XK) (hr : Room 5 (A.deeper (envOfC "_law_thing" (defScope (top 26)) s.heap.objs.size (He.ga K "_law_thing") cdv))) :
    PSs (cxOf (L2.CX P w) P w K mg base N__law_thing "_law_thing" (defScope (top 26)) (He.ga K "_law_thing") cdv A outer s H E) (defBody (top 26)) (tS K (fun cls d _ H => E cls d H) b__law_thing) := by
  have tk := tk_cx (P := P) (w := w) (K := K) (mg := mg) (base := base) (N := N__law_thing) (qual := "_law_thing") (scope := defScope (top 26)) (f := He.ga K "_law_thing") (cd := cdv) (A := A) (outer := outer) (s := s) (H := H) (E := E)
  exact (mss_cons (ms_set (ps_set (i := 1) sc__law_thing.nd rfl (Or.inl rfl) (me_callS ((d__law_take T).mono (by decide)) hr tk (by rfl) (alen_cons (alen_cons alen_nil)) (ma_cons (me_var (pv 0)) (ma_cons me_int ma_nil)))))
  (mss_cons (ms_set (ps_set (i := 2) sc__law_thing.nd rfl (Or.inl rfl) (me_callS ((d__law_shape T).mono (by decide)) hr tk (by rfl) (alen_cons alen_nil) (ma_cons (me_var (pv 0)) ma_nil))))
  (mss_cons (ms_set (ps_set (i := 3) sc__law_thing.nd rfl (Or.inl rfl) (me_callS ((d__law_take T).mono (by decide)) hr tk (by rfl) (alen_cons (alen_cons alen_nil)) (ma_cons (me_var (pv 0)) (ma_cons (me_callB call_len3 c_len (by rfl) T.z_len (by decide +kernel) (maw_cons (me_varW (pv 2)) maw_nil)) ma_nil)))))
  (mss_cons (ms_lc (by decide) (ps_setLc (i := 4) (own := [("_law_corner", 5)]) rfl sc__law_thing.nd rfl rfl (sw_true rfl rfl rfl (by decide +kernel)) (toO (mi_seq (me_op2 op_add4 o_add (weak (me_cutT (me_varW (pv 2)) (mo_some (me_var (pv 3))) mo_none)) (weak (me_cutT (me_varW (pv 2)) mo_none (mo_some (me_var (pv 3)))))))) (blkOk_by (N := N__law_thing) (sc := defScope (top 26)) (by decide +kernel)) (fun _ _ _ _ _ => (mg_name (pg_name (i := 5) sc__law_thing.nd rfl (Or.inl rfl)))) (fun _ _ _ _ _ => mts_nil) (fun _ _ _ _ _ => (me_ix ix_seq o_ix (weak (me_new (mf_lst (ma_cons (me_var (pv 5)) (ma_cons (me_new (mf_list (by rfl) T.z_list (by decide +kernel) (maw_cons (me_varW (pv 5)) maw_nil))) ma_nil))))) (weak (me_callS ((d__law_take T).mono (by decide)) hr takes0 (by rfl) (alen_cons (alen_cons alen_nil)) (ma_cons (me_var (pv 0)) (ma_cons me_int ma_nil)))) (fun _ _ => rfl)))))
  (mss_cons (ms_if (mt_cmp2 op_lt o_lt (me_varW (pv 1)) (weak me_int) (nomark _)) (mss_one (ms_ret (me_ix ix_seq o_ix (weak (me_new (mf_lst (ma_cons (me_var (pv 4)) (ma_cons (me_callTy call_tuple_of c_tup (by rfl) T.z_tuple (by decide +kernel) (maw_cons (me_varW (pv 4)) maw_nil)) (ma_cons (me_op2 op_add4 o_add (weak (me_cutT (me_varW (pv 2)) (mo_some (me_var (pv 3))) mo_none)) (weak (me_cutT (me_varW (pv 2)) mo_none (mo_some (me_var (pv 3)))))) ma_nil)))))) (me_varW (pv 1)) (fun _ _ => rfl)))) mss_nil)
  (mss_cons (ms_if (mt_cmp2 (op_eqD hr.units) o_eq (me_varW (pv 1)) (weak me_int) (nomark _)) (mss_one (ms_ret (me_callS ((d__law_other T).mono (by decide)) hr tk (by rfl) (alen_cons (alen_cons alen_nil)) (ma_cons (me_var (pv 0)) (ma_cons (me_var (pv 2)) ma_nil))))) mss_nil)
  (mss_cons (ms_if (mt_cmp2 op_lt o_lt (me_varW (pv 1)) (weak me_int) (nomark _)) (mss_one (ms_ret (me_callS ((d__law_bent T).mono (by decide)) hr tk (by rfl) (alen_cons (alen_cons (alen_cons alen_nil))) (ma_cons (me_var (pv 0)) (ma_cons (me_op2 op_sub o_sub (me_varW (pv 1)) (weak me_int)) (ma_cons (me_var (pv 4)) ma_nil)))))) mss_nil)
  (mss_one (ms_ret (me_callTy call_tuple_of c_tup (by rfl) T.z_tuple (by decide +kernel) (maw_cons (weak (me_callS ((d__law_bent T).mono (by decide)) hr tk (by rfl) (alen_cons (alen_cons (alen_cons alen_nil))) (ma_cons (me_var (pv 0)) (ma_cons (me_op2 op_add4 o_add (weak me_int) (weak (me_op2 op_mulW o_mul (weak me_int) (weak (me_op2 op_sub o_sub (me_varW (pv 1)) (weak me_int)))))) (ma_cons (me_var (pv 4)) ma_nil))))) maw_nil)))))))))))
theorem d__law_thing (T : Fx K mg) : Def P w K mg base 6 "_law_thing" 1 [] m__law_thing := by
  obtain ⟨fd, F⟩ := T.f__law_thing
  exact Def.mk' (ps := ["_law_deck_here"]) (N := N__law_thing) (k := 5) F T.g__law_thing sc__law_thing b__law_thing ⟨[], [], .nil, F.bindsN (fun _ _ _ _ _ _ us hl => match us, hl with | [_], _ => rfl), fun _ _ => .nil⟩ (fun cdv A outer s H E hr => w__law_thing T fd cdv A outer s H E hr)
abbrev N__law_right : List Str := ["_law_thing_here", "_law_kept", "_law_due", "_law_found", "_law_refused", "e"]
theorem sc__law_right : FnScope N__law_right ["_law_thing_here"] (defScope (top 27)) := ⟨rfl, rfl, rfl, by decide +kernel, rfl, by decide +kernel, by decide +kernel⟩
theorem w__law_right (T : Fx K mg) (fd : FuncData) (cdv : Value) (A : Around) (outer : List Env) (s : Shared) (H : Hp) (E : XK) (hr : Room 3 (A.deeper (envOfC "_law_right" (defScope (top 27)) s.heap.objs.size (He.ga K "_law_right") cdv))) (hgd : (A.deeper (envOfC "_law_right" (defScope (top 27)) s.heap.objs.size (He.ga K "_law_right") cdv)).guards = some []) :
    PSs (cxOf (L2.CX P w) P w K mg base N__law_right "_law_right" (defScope (top 27)) (He.ga K "_law_right") cdv A outer s H E) (defBody (top 27)) (tS K (fun cls d _ H => E cls d H) b__law_right) := by
  have tk := tk_cx (P := P) (w := w) (K := K) (mg := mg) (base := base) (N := N__law_right) (qual := "_law_right") (scope := defScope (top 27)) (f := He.ga K "_law_right") (cd := cdv) (A := A) (outer := outer) (s := s) (H := H) (E := E)
  exact (mss_cons (ms_set (ps_set (i := 1) sc__law_right.nd rfl (Or.inl rfl) (me_callB (call_repr2 hr hgd T.sy) c_repr2 (by rfl) T.z_repr (by decide +kernel) (maw_cons (me_varW (pv 0)) maw_nil))))
  (mss_cons (ms_set (ps_set (i := 2) sc__law_right.nd rfl (Or.inl rfl) (me_call ((d__law_form T).mono (by decide)) hr tk (by rfl) (alen_cons alen_nil) (ma_cons (me_var (pv 0)) ma_nil))))
  (mss_cons (ms_set (ps_set (i := 3) sc__law_right.nd rfl (Or.inl rfl) me_non))
  (mss_cons (ms_set (ps_set (i := 4) sc__law_right.nd rfl (Or.inl rfl) (me_new (mf_lst ma_nil))))
  (mss_cons (ms_tryL (i := 5) (j := 4) rfl rfl sc__law_right.nd rfl (by rfl) ⟨by rfl, by decide, .inl T.g_BadShape⟩ tk (by decide) (by decide) T.m_BadShape_BadShape (fun W pn xe tk2 po2 => (mss_one (ms_set (ps_set (i := 3) sc__law_right.nd rfl (Or.inl rfl) (me_call ((d_look_shape T).mono (by decide)) hr tk2 (by rfl) (alen_cons alen_nil) (ma_cons (me_var (pv 0)) ma_nil)))))) (fun a oe pn hz hv => (ps_set (i := 4) sc__law_right.nd rfl (Or.inl rfl) (pe_lst (its_cons (its_is T.e_BadShape hz hv (by rfl) T.z_isinstance (pv 5) (pe_glob (v := .ref (He.ga K "BodyError")) (by rfl) T.g_BodyError rfl) (fun _ h => h) T.k_BadShape_BodyError) (its_cons (its_is T.e_BadShape hz hv (by rfl) T.z_isinstance (pv 5) (pe_bltn (v := .ty "ValueError") (by rfl) T.z_ValueError (by decide +kernel) rfl) (fun _ h => h) T.k_BadShape_ValueError) (its_cons (its_is T.e_BadShape hz hv (by rfl) T.z_isinstance (pv 5) (pe_glob (v := .ref (He.ga K "BadRow")) (by rfl) T.g_BadRow rfl) (fun _ h => h) T.k_BadShape_BadRow) (its_cons (its_is T.e_BadShape hz hv (by rfl) T.z_isinstance (pv 5) (pe_glob (v := .ref (He.ga K "NoShare")) (by rfl) T.g_NoShare rfl) (fun _ h => h) T.k_BadShape_NoShare) its_nil))))))))
  (mss_cons (ms_if (mt_cmp2 op_ne_ss o_neSS (weak (me_callB (call_repr2 hr hgd T.sy) c_repr2 (by rfl) T.z_repr (by decide +kernel) (maw_cons (me_varW (pv 0)) maw_nil))) (me_varW (pv 1)) (nomark _)) (mss_one (ms_ret me_bl)) mss_nil)
  (mss_cons (ms_if (mt_cmp2 op_isN o_is (me_varW (pv 2)) (weak me_non) (nomark _)) (mss_one (ms_ret (me_cmp2 (op_eqD hr.units) o_eq (me_varW (pv 4)) (weak (me_new (mf_lst (ma_cons me_bl (ma_cons me_bl (ma_cons me_bl (ma_cons me_bl ma_nil))))))) (nomark _)))) mss_nil)
  (mss_one (ms_ret (me_and (me_cmp2 (op_eqD hr.units) o_eq (me_varW (pv 4)) (weak (me_new (mf_lst ma_nil))) (nomark _)) (me_and (me_callB call_isi c_isi (by rfl) T.z_isinstance (by decide +kernel) (maw_cons (me_varW (pv 3)) (maw_cons (weak (me_type (by rfl) T.z_tuple (by decide +kernel))) maw_nil))) (me_one (me_cmp2 op_eq_ss o_eqSS (weak (me_callB (call_repr2 hr hgd T.sy) c_repr2 (by rfl) T.z_repr (by decide +kernel) (maw_cons (me_varW (pv 3)) maw_nil))) (weak (me_callB (call_repr2 hr hgd T.sy) c_repr2 (by rfl) T.z_repr (by decide +kernel) (maw_cons (me_varW (pv 2)) maw_nil))) (nomark _))))))))))))))
theorem d__law_right (T : Fx K mg) : DefG P w K mg base 4 "_law_right" 1 [] m__law_right := by
  obtain ⟨fd, F⟩ := T.f__law_right
  exact DefG.mk' (ps := ["_law_thing_here"]) (N := N__law_right) (k := 3) F T.g__law_right sc__law_right b__law_right ⟨[], [], .nil, F.bindsN (fun _ _ _ _ _ _ us hl => match us, hl with | [_], _ => rfl), fun _ _ => .nil⟩ (fun cdv A outer s H E hr hgd => w__law_right T fd cdv A outer s H E hr hgd)
abbrev N_law : List Str := ["_law_script", "_law_deck_here", "_law_turn"]
theorem sc_law : FnScope N_law ["_law_script"] (defScope (top 28)) := ⟨rfl, rfl, rfl, by decide +kernel, rfl, by decide +kernel, by decide +kernel⟩
def law0 : Stmt := (defBody (top 28)).headD (.Pass ⟨0, 0, 0, 0⟩)
def lawr : List Stmt := (defBody (top 28)).tail
theorem law_body : defBody (top 28) = law0 :: lawr := by rfl
theorem w_law0 (T : Fx K mg) (cdv : Value) (A : Around) (outer : List Env) (s : Shared) (H : Hp) (E : XK) (hr : Room 6 (A.deeper (envOfC "law" (defScope (top 28)) s.heap.objs.size (He.ga K "law") cdv))) :
    PS (cxOf (L2.CX P w) P w K mg base N_law "law" (defScope (top 28)) (He.ga K "law") cdv A outer s H E) law0 (tAsg (tCallSD (spDk 1 K m__law_deck) [] (WE fun cls d _ H => E cls d H) (tCons (tVar 0) tNil)) (gName 1)) := by
  have tk := tk_cx (P := P) (w := w) (K := K) (mg := mg) (base := base) (N := N_law) (qual := "law") (scope := defScope (top 28)) (f := He.ga K "law") (cd := cdv) (A := A) (outer := outer) (s := s) (H := H) (E := E)
  exact (ps_set (i := 1) sc_law.nd rfl (Or.inl rfl) (pe_deck ((d__law_deck T).mono (by decide)) hr tk (by rfl) (pa_cons (pv 0) pa_nil)))
theorem w_law (T : Fx K mg) (cdv : Value) (A : Around) (outer : List Env) (s : Shared) (H : Hp) (E : XK) (hr : Room 6 (A.deeper (envOfC "law" (defScope (top 28)) s.heap.objs.size (He.ga K "law") cdv))) (hgd : (A.deeper (envOfC "law" (defScope (top 28)) s.heap.objs.size (He.ga K "law") cdv)).guards = some []) :
    PSs (cxOf (L2.CX P w) P w K mg base N_law "law" (defScope (top 28)) (He.ga K "law") cdv A outer s H E) lawr (tS K (fun cls d _ H => E cls d H) b_law) := by
  have tk := tk_cx (P := P) (w := w) (K := K) (mg := mg) (base := base) (N := N_law) (qual := "law") (scope := defScope (top 28)) (f := He.ga K "law") (cd := cdv) (A := A) (outer := outer) (s := s) (H := H) (E := E)
  exact (mss_cons (ms_for po_cx rfl (mi_range1 (by rfl) T.z_range (maw_cons (weak me_int) maw_nil)) (mg_name (pg_name (i := 2) sc_law.nd rfl (Or.inl rfl))) (mss_one (ms_if (mt_not (mt_truth (weak (me_callG ((d__law_right T).mono (by decide)) hr hgd tk (by rfl) (alen_cons alen_nil) (ma_cons (me_callS ((d__law_thing T).mono (by decide)) hr tk (by rfl) (alen_cons alen_nil) (ma_cons (me_var (pv 1)) ma_nil)) ma_nil))))) (mss_one (ms_ret me_bl)) mss_nil)))
  (mss_one (ms_ret me_bl)))
theorem d_law (T : Fx K mg) : ∃ fd : FuncData, (∀ (s : Shared) (u : Value), BindsTo s fd ⟨[u], []⟩ [("_law_script", u)]) ∧ ∀ base : Heap, FnG P w K mg base (L2.CX P w) 7 (He.ga K "law") fd ["_law_script"] (spLaw K 3 m__law_deck b_law) := by
  obtain ⟨fd, F⟩ := T.f_law
  refine ⟨fd, fun s u => F.bindsA (ps := ["_law_script"]) (fun _ _ _ _ _ _ us hl => match us, hl with | [_], _ => rfl) s [u] rfl, fun base => ?_⟩
  rw [law_body] at F
  exact law_fnG (N := N_law) F sc_law (by decide) (fun cdv A outer s H E hr => w_law0 T cdv A outer s H E hr) (fun cdv A outer s H E hr hgd => w_law T cdv A outer s H E hr hgd)
end
end MM
end
namespace MM
open PySem PySem.Spec PyProof.Rows L2
theorem lawFx {K : Fg} {h : Heap} {mg : Str → Option Value} (X : K.In h) (G : h.Ns mainGlobals mg) (c : SaysM lawChk lawFn K) : Fx K mg where
  z_int := cFree_ok X G (c.fact 0)
  z_isinstance := cFree_ok X G (c.fact 1)
  z_bool := cFree_ok X G (c.fact 2)
  f_is_whole := c.def_ 0
  g_is_whole := cGlo_ok X G (c.fact 3)
  z_list := cFree_ok X G (c.fact 4)
  z_tuple := cFree_ok X G (c.fact 5)
  z_len := cFree_ok X G (c.fact 6)
  x_BadShape := cExc_ok X G (c.fact 7)
  c_REACH := cVal_ok X G (c.fact 8)
  f_look_corner := c.def_ 1
  g_look_corner := cGlo_ok X G (c.fact 9)
  f_is_left := c.def_ 2
  g_is_left := cGlo_ok X G (c.fact 10)
  c_CORNERS := cVal_ok X G (c.fact 11)
  z_enumerate := cFree_ok X G (c.fact 12)
  z_all := cFree_ok X G (c.fact 13)
  z_min := cFree_ok X G (c.fact 14)
  f_look_shape := c.def_ 3
  g_look_shape := cGlo_ok X G (c.fact 15)
  z_abs := cFree_ok X G (c.fact 16)
  f__law_cell := c.def_ 4
  g__law_cell := cGlo_ok X G (c.fact 17)
  f__law_mixed := c.def_ 5
  g__law_mixed := cGlo_ok X G (c.fact 18)
  f__law_deck := c.def_ 6
  g__law_deck := cGlo_ok X G (c.fact 19)
  f__law_take := c.def_ 7
  g__law_take := cGlo_ok X G (c.fact 20)
  f__law_left := c.def_ 8
  g__law_left := cGlo_ok X G (c.fact 21)
  f__law_half := c.def_ 9
  g__law_half := cGlo_ok X G (c.fact 22)
  z_sorted := cFree_ok X G (c.fact 23)
  f__law_hull := c.def_ 10
  g__law_hull := cGlo_ok X G (c.fact 24)
  z_range := cFree_ok X G (c.fact 25)
  f__law_shape := c.def_ 11
  g__law_shape := cGlo_ok X G (c.fact 26)
  f__law_form := c.def_ 12
  g__law_form := cGlo_ok X G (c.fact 27)
  f__law_no_corner := c.def_ 13
  g__law_no_corner := cGlo_ok X G (c.fact 28)
  z_dict := cFree_ok X G (c.fact 29)
  f__law_other := c.def_ 14
  g__law_other := cGlo_ok X G (c.fact 30)
  f__law_bent := c.def_ 15
  g__law_bent := cGlo_ok X G (c.fact 31)
  f__law_thing := c.def_ 16
  g__law_thing := cGlo_ok X G (c.fact 32)
  sy := cSys_ok (c.fact 33)
  z_repr := cFree_ok X G (c.fact 34)
  e_BadShape := cExcC_ok (c.fact 35)
  g_BodyError := cGlo_ok X G (c.fact 36)
  k_BadShape_BodyError := cKit_ok (c.fact 37)
  z_ValueError := cFree_ok X G (c.fact 38)
  k_BadShape_ValueError := cKit_ok (c.fact 39)
  g_BadRow := cGlo_ok X G (c.fact 40)
  k_BadShape_BadRow := cKit_ok (c.fact 41)
  g_NoShare := cGlo_ok X G (c.fact 42)
  k_BadShape_NoShare := cKit_ok (c.fact 43)
  g_BadShape := cGlo_ok X G (c.fact 44)
  m_BadShape_BadShape := cExm_ok (c.fact 45)
  f__law_right := c.def_ 17
  g__law_right := cGlo_ok X G (c.fact 46)
  f_law := c.def_ 18
  g_law := cGlo_ok X G (c.fact 47)
end MM
open PySem PySem.W PySem.Calls PyProof.Rows
theorem PySem.Challenge.cw_restbodies_k06_shapes_looked_holds : PySem.Challenge.rw_restbodies_k06_shapes_looked.Holds := by
  w_on; o_law
  refine MM.head_anyL (r := OpenLaw.row PySem.Challenge.rw_restbodies_k06_shapes_looked) (q := view (OpenLaw.row PySem.Challenge.rw_restbodies_k06_shapes_looked).prog [28]) (H := MM.lawHook) (ob := MM.lawOb) (M := 20000) (loose := MM.lawLoose) (d := HandSHeadRun.topDef (OpenLaw.row PySem.Challenge.rw_restbodies_k06_shapes_looked).prog 28) (kwd := []) MM.lawOb_eq
    (by kernel_rfl) (fun s => by kernel_rfl) MM.lawRun (fun _ => ⟨rfl, rfl, rfl⟩) (by kernel_rfl) (by kernel_rfl) (by kernel_rfl) (by rfl) (by first | assumption | decide +kernel) (by decide +kernel) ⟨rfl, rfl, rfl, rfl, rfl, by decide +kernel⟩ ?hw ?hc
  case hw => w_witness2
  case hc =>
    exact MM.walk_mmG (n := 63) (k := 7) (nn := 5) (N := 3) (m := MM.m__law_deck) (rest := MM.b_law) rfl (by decide) rfl rfl (MM.room_k (by decide))
      (fun w mg K h X G c => ⟨MM.cGlo_ok X G (c.fact 47), MM.d_law (MM.lawFx X G c)⟩) (fun ns hl hb => MM.law_good ns hl hb)

