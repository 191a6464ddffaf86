import PyProof.Rows.All
import Wide.All
import OpenK.AllK
import Wide.FinOn
import HandS.ForMost
import HandS.ForExc
import HandS.Wide
import HandS.CallSlots
import HandS.HeadHook2
import HandS.Walk
import PyProof.DictRoadsH
import HandS.TryOnly
import HandS.ExcIs
import HandS.IsInst
import HandS.TupAny
import HandS.Flow
import HandS.EndBits
import HandS.IntHex
import HandS.Head0
import HandS.Head1
import HandS.Head2
import HandS.HeadEnd
import HandS.HeadHook1
import HandS.Ends
import KE.KUnpackStar
import HandS.Iter
import HandS.Zip
import HandS.Rev
import HandS.List
import HandS.SortInts
import HandS.Defaults
import HandS.Zip0
import HandS.Style
import KE.SortData
import KE.DataMinMax
import HandS.Deep
import KE.DataEq
import HandS.DictComp
import HandS.Small
import KE.KDictWalk
import KE.KDictList
import HandS.DictSubView
import KE.GoesMore
import HandS.Sort
import PyProof.NeKinds
import HandS.TupMul
import HandS.ExcInit
import HandS.ExcField
import HandS.ClsMeth
import PyProof.WalkInts
import KE.KIsAll
import HandS.HotCalls
import HandS.RevRange
import HandS.Conv
import KE.KDictZip
import KE.KDictPairs
import PyProof.ReprRoads
import HandS.Strs
import HandS.TryMany
import HandS.FStr
import HandS.Text
import PySem.Challenge.RW_restbodies_k04_shares_written
set_option Elab.async false
set_option linter.all false
set_option maxRecDepth 100000
set_option maxHeartbeats 4000000
namespace MM
open PySem PySem.Spec PyProof.Rows L2
inductive D where
  | non | bl (b : Bool) | int (i : Int) | str (x : Str)
  | tup (xs : List D) | lst (xs : List D) | dct (ks vs : List D) | obj (C : Str) (ns : List Str) (vs : List D) | at (a : Addr) | ty (n : String) | cls (C : Str) | scr (ns : List Int)

abbrev Fg := PySem.W.Frag

abbrev Chk := List (Fg → Bool)
def obsM (chk : Chk) (fn : List He.DefD) (K : Fg) : He.AlD := ((chk.all fun f => f K) && fn.all fun d => d.ok K, fn.map fun d => He.fnW K d.at_)
def SaysM (chk : Chk) (fn : List He.DefD) (K : Fg) : Prop := obsM chk fn K = He.valD fn
def strN {α : Type} (n : Nat) (k : Nat → α) : α := match n with
  | 0 => k 0
  | m + 1 => k (m + 1)
def bitIn (s r : Nat) : Bool := Nat.beq (Nat.land (Nat.shiftRight s r) 1) 1
def seeK {α : Type} : List Addr → Nat → List Addr → (Nat → List Addr → α) → α
  | [], s, acc, k => k s acc
  | r :: rs, s, acc, k => match bitIn s r with
    | true => seeK rs s acc k
    | false => strN (Nat.lor s (Nat.shiftLeft 1 r)) fun s => seeK rs s (r :: acc) k
def growK {α : Type} (g : Addr → Option Obj) : List Addr → Nat → List Addr → (Nat → List Addr → α) → α
  | [], s, acc, k => k s acc
  | a :: as, s, acc, k => match g a with
    | some o => seeK (He.refsD o) s acc fun s acc => growK g as s acc k
    | none => growK g as s acc k
def bfsK (g : Addr → Option Obj) : Nat → List Addr → Nat → List Addr → List Addr
  | 0, _, _, all => all
  | n + 1, fr, s, all => growK g fr s [] fun s new => bfsK g n new s (all ++ new)
def asM (g : Addr → Option Obj) (n : Nat) : List Addr := bfsK g n [mainGlobals] (Nat.shiftLeft 1 mainGlobals) [mainGlobals] ++ [cStatics]
def obsMG (n : Nat) (chk : Chk) (fn : List He.DefD) (g : Addr → Option Obj) : He.AlD := obsM chk fn (He.frG g (asM g n))
def hookM (n : Nat) (chk : Chk) (fn : List He.DefD) : PySem.W.Hook where
  α := He.AlD
  obs := fun s => obsMG n chk fn s.heap.get?
  val := fun _ => He.valD fn
  says := fun _ h => ∃ K : Fg, K.In h ∧ SaysM chk fn K
  of := fun _ _ e => ⟨_, He.frG_in, e⟩
  keeps := fun _ _ _ ⟨K, hK, c⟩ k => ⟨K, PySem.W.Frag.In.keeps hK k, c⟩
theorem obsMG_eq {n : Nat} {chk : Chk} {fn : List He.DefD} {g : Addr → Option Obj} {s : Shared} (h : ∀ a, g a = s.heap.get? a) : obsMG n chk fn g = (hookM n chk fn).obs s := by
  have e : g = s.heap.get? := funext h
  rw [e] <;> rfl
def cGlo (x : Str) : Fg → Bool := fun K => He.Fa.ok K (.glo x)
def cFree (x : Str) : Fg → Bool := fun K => He.Fa.ok K (.free x)
def cExc (x : Str) : Fg → Bool := fun K => He.Fa.ok K (.exc x) && He.Fa.ok K (.glo x)
def cExcC (x : Str) : Fg → Bool := fun K => decide (PySem.W.findIn K (.ref (He.ga K x)) "__getattribute__" = some (some (.builtin "BaseException.__getattribute__"))) && (decide (PySem.W.findIn K (.ref (He.ga K x)) "__getattr__" = some none) &&
  (decide (PySem.W.subIn K (.ref (He.ga K x)) (.type "BaseException") = some true) && (PySem.W.hasDictIn K (He.ga K x) && (decide (PySem.W.findIn K (.ref (He.ga K x)) "__class__" = some (some (.builtin "object.__class__"))) &&
  (decide (PySem.W.specialIn K (.builtin "object.__class__") "__get__" = some (some (.builtin "getset_descriptor.__get__"))) && (decide (PySem.W.takesIn K (.builtin "object.__class__") = some true) && decide (PySem.W.mroIn K (He.ga K x) (.type "object") = some true)))))))
def cKit (x : Str) (c : Fg → Value) (b : Bool) : Fg → Bool := fun K => decide (PySem.W.kitOne K (.ref (He.ga K x)) (c K) = some b)
def cExm (x : Str) (c : Fg → Value) (b : Bool) : Fg → Bool := fun K => decide (PySem.W.exmOne K (.ref (He.ga K x)) (c K) = some b)
def cLim : Fg → Bool := fun K => decide (PySem.W.nsIn K cStatics "sys.int_max_str_digits" = some none)
mutual
def isDV (K : Fg) : Nat → Value → D → Bool
  | _, .none, .non => true
  | _, .bool b, .bl c => b == c
  | _, .int i _, .int j => decide (i = j)
  | _, .str x _, .str y => decide (x = y)
  | n + 1, .ref a, .tup ds => (match K.lookup a with
    | some ⟨.type c, _, .seq its _, _⟩ => decide (c = "tuple") && (decide (its.size ≤ sizeLine) && isDVs K n its.toList ds)
    | _ => false)
  | _, _, _ => false
def isDVs (K : Fg) : Nat → List Value → List D → Bool
  | _, [], [] => true
  | n, v :: vs, d :: ds => isDV K n v d && isDVs K n vs ds
  | _, _, _ => false
end
def cVal (x : Str) (d : D) : Fg → Bool := fun K => match PySem.W.nsIn K mainGlobals x with
  | some (some v) => isDV K 8 v d
  | _ => false
def clsBody : Stmt → List Stmt
  | .ClassDef _ _ _ body _ _ _ _ _ _ _ => body
  | _ => []
def cClsF (x : Str) : Fg → Bool := fun K => He.Fa.ok K (.cls x) && (decide (PySem.W.findIn K (.ref (He.ga K x)) "__class__" = some (some (.builtin "object.__class__"))) && (decide (PySem.W.specialIn K (.builtin "object.__class__") "__get__" = some (some (.builtin "getset_descriptor.__get__"))) &&
  (decide (PySem.W.takesIn K (.builtin "object.__class__") = some true) && decide (PySem.W.mroIn K (He.ga K x) (.type "object") = some true))))
def cNoat (x f : Str) : Fg → Bool := fun K => decide (PySem.W.findIn K (.ref (He.ga K x)) f = some none)
def cMeth (x m : Str) : Fg → Bool := fun K => He.Fa.ok K (.meth x m)
def cMkr (x : Str) : Fg → Bool := fun K => He.Fa.ok K (.mkr x)
def cBaseX (B : Str) : Fg → Bool := fun K => He.Fa.ok K (.glo B) && (PySem.W.readsIn K (He.ga K B) (.type "type") && (decide (PySem.W.specialIn K (.ref (He.ga K B)) "__getattribute__" = some (some (.builtin "type.__getattribute__"))) &&
  match PySem.W.findCls K (.ref (He.ga K B)) (.type "type") "__init__" with
  | some (.val v) => v == .builtin "ValueError.__init__"
  | _ => false))
def oexB (K : Fg) (C : Addr) : Bool := match K.lookup C with
  | some ⟨.type "type", _, .cls cd, sl⟩ => (match cd.mro, sl.toList with
    | .ref C' :: bm, [_, _, _, _, some (.builtin n), _] => C' == C && n == "ValueError.__new__" && !cd.hasDel && cd.hasDict && PySem.HandSPX.refsVE bm
    | _, _ => false)
  | _ => false
def cOexX (C : Str) (fs : List Str) : Fg → Bool := fun K => He.Fa.ok K (.glo C) && (oexB K (He.ga K C) && (decide (PySem.W.findIn K (.ref (He.ga K C)) "__setattr__" = some (some (.builtin "object.__setattr__"))) && (decide (PySem.W.subIn K (.ref (He.ga K C)) (.type "BaseException") = some true) &&
  (decide (PySem.W.typeIn K (.ref (He.ga K C)) = some (.type "type")) && (PySem.W.keepIn K (.ref (He.ga K C)) && (decide (PySem.W.findIn K (.ref (He.ga K C)) "__init__" = some (some (.ref (He.ma K (He.ga K C) "__init__")))) &&
  (decide (PySem.W.typeIn K (.ref (He.ma K (He.ga K C) "__init__")) = some (.type "function")) && ((fs.all fun f => decide (PySem.W.findIn K (.ref (He.ga K C)) f = some none)) && xfB K (He.ga K C)))))))))
def nsEq : List Nat → List Nat → Bool
  | [], [] => true
  | a :: x, b :: y => Nat.beq a b && nsEq x y
  | _, _ => false
def sEqL (a b : Str) : Bool := nsEq a.cps.toList b.cps.toList
def linKeys (own : List Str) : List Str → List Str → Bool
  | [], _ => true
  | k :: ks, [] => (startupNames.contains k || own.contains k) && linKeys own ks []
  | k :: ks, x :: xs => match sEqL k x with
    | true => linKeys own ks xs
    | false => (startupNames.contains k || own.contains k) && linKeys own ks (x :: xs)
noncomputable def seenL (q : Program) (loose mods : List Str) (Xt : Shared → Bool) (s : Shared) :=
  ((HandSHeadRun.seenQ q [] mods Xt s).1, (HandSHeadRun.seenQ q [] mods Xt s).2.1,
   linKeys ((recsOf q).map (·.name)) (s.heap.nsKeys mainGlobals) loose && s.heap.accountedOkI mods && s.heap.isNs mainGlobals && s.heap.isNs builtinsNs && tablesOk q s.heap && Xt s && (s.gens.size == 0),
   (HandSHeadRun.seenQ q [] mods Xt s).2.2.2)
def RunEqL (r : PySem.W.OpenRow) (q : Program) (H : PySem.W.Hook) (ob : PySem.W.SharedT → H.α) (M : Nat) (loose : List Str) (w : World) : Prop :=
  ∀ os : OsState, (HandSHeadRun.endF (HandSHeadRun.stepQ (HandSHeadRun.denQ HandSHeadRun.tabQ) r.prog w) M r.prog w os).map (fun s => (HandSHeadRun.looksF r.prog (PySem.W.boot_heap w.params) s.abs, seenL q loose (importedModules r.prog.main.body) (fun s => PySem.W.xlAt q [] s && PySem.W.recOk r.toRowW.records s) s.abs, ob s)) = some (true, PySem.W.openGood q [], H.val w)
end MM
noncomputable section
namespace MM
open PySem PySem.Spec PyProof.Rows L2
def top (i : Nat) : Stmt := PySem.Challenge.pw_restbodies_k04_shares_written.main.body.getD i (.Pass ⟨0, 0, 0, 0⟩)
def mth (i j : Nat) : Stmt := (clsBody (top i)).getD j (.Pass ⟨0, 0, 0, 0⟩)
def lawChk0 : Chk := [cFree "int", cFree "isinstance", cFree "bool", cGlo "is_whole", cFree "abs", cGlo "divisor", cFree "tuple", cFree "len", cGlo "is_share", cFree "str", cGlo "share_text", cVal "FIGURES" (.int 400), cExc "NoShare", cLim, cGlo "figures_read", cGlo "whole_read", cGlo "read_share", cGlo "_law_cell", cGlo "_law_mixed", cGlo "_law_deck", cGlo "_law_take", cGlo "_law_gcd", cGlo "_law_share", cFree "range", cGlo "_law_whole", cGlo "_law_is_share", cFree "max", cGlo "_law_drawn", cGlo "_law_text", cGlo "_law_sign"]
def lawChk1 : Chk := [cGlo "_law_bent", cGlo "_law_figures", cGlo "_law_read", cGlo "NoShare", cExm "NoShare" (fun K => (.ref (He.ga K "NoShare"))) true, cFree "ValueError", cExcC "NoShare", cKit "NoShare" (fun K => (.type "ValueError")) true, cGlo "BodyError", cKit "NoShare" (fun K => (.ref (He.ga K "BodyError"))) true, cGlo "BadText", cKit "NoShare" (fun K => (.ref (He.ga K "BadText"))) false, cGlo "NoWay", cKit "NoShare" (fun K => (.ref (He.ga K "NoWay"))) false, cGlo "_law_reads", cGlo "law"]
def lawChk : Chk := List.flatten [lawChk0, lawChk1]
def lawFn0 : List He.DefD := [⟨("is_whole", none), "is_whole", "is_whole", defArgs (top 7), defBody (top 7), defScope (top 7), [], []⟩, ⟨("divisor", none), "divisor", "divisor", defArgs (top 8), defBody (top 8), defScope (top 8), [], []⟩, ⟨("is_share", none), "is_share", "is_share", defArgs (top 9), defBody (top 9), defScope (top 9), [], []⟩, ⟨("share_text", none), "share_text", "share_text", defArgs (top 10), defBody (top 10), defScope (top 10), [], []⟩, ⟨("figures_read", none), "figures_read", "figures_read", defArgs (top 11), defBody (top 11), defScope (top 11), [], []⟩, ⟨("whole_read", none), "whole_read", "whole_read", defArgs (top 12), defBody (top 12), defScope (top 12), [], []⟩, ⟨("read_share", none), "read_share", "read_share", defArgs (top 13), defBody (top 13), defScope (top 13), [], []⟩, ⟨("_law_cell", none), "_law_cell", "_law_cell", defArgs (top 15), defBody (top 15), defScope (top 15), [], []⟩, ⟨("_law_mixed", none), "_law_mixed", "_law_mixed", defArgs (top 16), defBody (top 16), defScope (top 16), [], []⟩, ⟨("_law_deck", none), "_law_deck", "_law_deck", defArgs (top 17), defBody (top 17), defScope (top 17), [], []⟩, ⟨("_law_take", none), "_law_take", "_law_take", defArgs (top 18), defBody (top 18), defScope (top 18), [], []⟩, ⟨("_law_gcd", none), "_law_gcd", "_law_gcd", defArgs (top 19), defBody (top 19), defScope (top 19), [], []⟩, ⟨("_law_share", none), "_law_share", "_law_share", defArgs (top 20), defBody (top 20), defScope (top 20), [], []⟩, ⟨("_law_whole", none), "_law_whole", "_law_whole", defArgs (top 21), defBody (top 21), defScope (top 21), [], []⟩, ⟨("_law_is_share", none), "_law_is_share", "_law_is_share", defArgs (top 22), defBody (top 22), defScope (top 22), [], []⟩, ⟨("_law_drawn", none), "_law_drawn", "_law_drawn", defArgs (top 23), defBody (top 23), defScope (top 23), [], []⟩, ⟨("_law_text", none), "_law_text", "_law_text", defArgs (top 24), defBody (top 24), defScope (top 24), [], []⟩, ⟨("_law_sign", none), "_law_sign", "_law_sign", defArgs (top 25), defBody (top 25), defScope (top 25), [], []⟩, ⟨("_law_bent", none), "_law_bent", "_law_bent", defArgs (top 26), defBody (top 26), defScope (top 26), [], []⟩, ⟨("_law_figures", none), "_law_figures", "_law_figures", defArgs (top 27), defBody (top 27), defScope (top 27), [], []⟩, ⟨("_law_read", none), "_law_read", "_law_read", defArgs (top 28), defBody (top 28), defScope (top 28), [], []⟩, ⟨("_law_reads", none), "_law_reads", "_law_reads", defArgs (top 29), defBody (top 29), defScope (top 29), [], []⟩, ⟨("law", none), "law", "law", defArgs (top 30), defBody (top 30), defScope (top 30), [], []⟩]
def lawFn : List He.DefD := lawFn0
def lawFnA0 : List He.DefD := [⟨("is_whole", none), "is_whole", "is_whole", defArgs (top 7), defBody (top 7), defScope (top 7), [], []⟩, ⟨("divisor", none), "divisor", "divisor", defArgs (top 8), defBody (top 8), defScope (top 8), [], []⟩, ⟨("is_share", none), "is_share", "is_share", defArgs (top 9), defBody (top 9), defScope (top 9), [], []⟩, ⟨("share_text", none), "share_text", "share_text", defArgs (top 10), defBody (top 10), defScope (top 10), [], []⟩, ⟨("figures_read", none), "figures_read", "figures_read", defArgs (top 11), defBody (top 11), defScope (top 11), [], []⟩, ⟨("whole_read", none), "whole_read", "whole_read", defArgs (top 12), defBody (top 12), defScope (top 12), [], []⟩, ⟨("read_share", none), "read_share", "read_share", defArgs (top 13), defBody (top 13), defScope (top 13), [], []⟩, ⟨("_law_cell", none), "_law_cell", "_law_cell", defArgs (top 15), defBody (top 15), defScope (top 15), [], []⟩, ⟨("_law_mixed", none), "_law_mixed", "_law_mixed", defArgs (top 16), defBody (top 16), defScope (top 16), [], []⟩, ⟨("_law_deck", none), "_law_deck", "_law_deck", defArgs (top 17), defBody (top 17), defScope (top 17), [], []⟩, ⟨("_law_take", none), "_law_take", "_law_take", defArgs (top 18), defBody (top 18), defScope (top 18), [], []⟩, ⟨("_law_gcd", none), "_law_gcd", "_law_gcd", defArgs (top 19), defBody (top 19), defScope (top 19), [], []⟩]
def lawFnA : List He.DefD := lawFnA0
def lawFnB0 : List He.DefD := [⟨("_law_share", none), "_law_share", "_law_share", defArgs (top 20), defBody (top 20), defScope (top 20), [], []⟩, ⟨("_law_whole", none), "_law_whole", "_law_whole", defArgs (top 21), defBody (top 21), defScope (top 21), [], []⟩, ⟨("_law_is_share", none), "_law_is_share", "_law_is_share", defArgs (top 22), defBody (top 22), defScope (top 22), [], []⟩, ⟨("_law_drawn", none), "_law_drawn", "_law_drawn", defArgs (top 23), defBody (top 23), defScope (top 23), [], []⟩, ⟨("_law_text", none), "_law_text", "_law_text", defArgs (top 24), defBody (top 24), defScope (top 24), [], []⟩, ⟨("_law_sign", none), "_law_sign", "_law_sign", defArgs (top 25), defBody (top 25), defScope (top 25), [], []⟩, ⟨("_law_bent", none), "_law_bent", "_law_bent", defArgs (top 26), defBody (top 26), defScope (top 26), [], []⟩, ⟨("_law_figures", none), "_law_figures", "_law_figures", defArgs (top 27), defBody (top 27), defScope (top 27), [], []⟩, ⟨("_law_read", none), "_law_read", "_law_read", defArgs (top 28), defBody (top 28), defScope (top 28), [], []⟩, ⟨("_law_reads", none), "_law_reads", "_law_reads", defArgs (top 29), defBody (top 29), defScope (top 29), [], []⟩, ⟨("law", none), "law", "law", defArgs (top 30), defBody (top 30), defScope (top 30), [], []⟩]
def lawFnB : List He.DefD := lawFnB0
def lawLoose0 : List Str := [Str.ofString "FIGURES", Str.ofString "BodyError", Str.ofString "NoShare", Str.ofString "NoWay", Str.ofString "BadText", Str.ofString "is_whole", Str.ofString "divisor", Str.ofString "is_share", Str.ofString "share_text", Str.ofString "figures_read", Str.ofString "whole_read", Str.ofString "read_share", Str.ofString "_law_cell", Str.ofString "_law_mixed", Str.ofString "_law_deck", Str.ofString "_law_take", Str.ofString "_law_gcd", Str.ofString "_law_share", Str.ofString "_law_whole", Str.ofString "_law_is_share", Str.ofString "_law_drawn", Str.ofString "_law_text", Str.ofString "_law_sign", Str.ofString "_law_bent", Str.ofString "_law_figures", Str.ofString "_law_read", Str.ofString "_law_reads"]
def lawLoose : List Str := lawLoose0
abbrev lawRow : PySem.W.OpenRow := PySem.W.OpenLaw.row PySem.Challenge.rw_restbodies_k04_shares_written
abbrev lawHook : PySem.W.Hook := hookM 5 lawChk lawFn
def lawOb (s : PySem.W.SharedT) : He.AlD := obsMG 5 lawChk lawFn (HandSHeadRun.getT s)
theorem lawOb_eq (s : PySem.W.SharedT) : lawOb s = lawHook.obs s.abs := obsMG_eq (HandSHeadRun.getT_eq s)
abbrev lawEnd (w : World) (os : OsState) : Option PySem.W.SharedT := HandSHeadRun.endF (HandSHeadRun.stepQ (HandSHeadRun.denQ HandSHeadRun.tabQ) lawRow.prog w) 20000 lawRow.prog w os
def lawK (s : PySem.W.SharedT) : Fg := He.frG (HandSHeadRun.getT s) (asM (HandSHeadRun.getT s) 5)
theorem lawRunA (w : World) (os : OsState) : (lawEnd w os).map (fun s => (HandSHeadRun.looksF lawRow.prog (PySem.W.boot_heap w.params) s.abs, seenL (PySem.W.view lawRow.prog [30]) lawLoose (importedModules lawRow.prog.main.body) (fun s => PySem.W.xlAt (PySem.W.view lawRow.prog [30]) [] s && PySem.W.recOk lawRow.toRowW.records s) s.abs)) = some (true, PySem.W.openGood (PySem.W.view lawRow.prog [30]) []) := by
  kernel_rfl
theorem lawRunB (w : World) (os : OsState) : (lawEnd w os).map (fun s => lawChk.all fun f => f (lawK s)) = some true := by
  kernel_rfl
theorem lawRunC (w : World) (os : OsState) : (lawEnd w os).map (fun s => (lawFnA.all (fun d => d.ok (lawK s)), lawFnA.map fun d => He.fnW (lawK s) d.at_)) = some (true, lawFnA.map He.DefD.val) := by
  kernel_rfl
theorem lawRunD (w : World) (os : OsState) : (lawEnd w os).map (fun s => (lawFnB.all (fun d => d.ok (lawK s)), lawFnB.map fun d => He.fnW (lawK s) d.at_)) = some (true, lawFnB.map He.DefD.val) := by
  kernel_rfl
theorem lawFn_two : lawFn = lawFnA ++ lawFnB := by rfl
theorem lawRun (w : World) : RunEqL lawRow (PySem.W.view lawRow.prog [30]) lawHook lawOb 20000 lawLoose w := by
  intro os
  have a := lawRunA w os
  have b := lawRunB w os
  have c := lawRunC w os
  have d := lawRunD w os
  show (lawEnd w os).map _ = _
  generalize lawEnd w os = e at a b c d ⊢
  cases e with
  | none => cases a
  | some s =>
    rw [Option.map_some, Option.some.injEq, Prod.mk.injEq] at a c d
    rw [Option.map_some, Option.some.injEq] at b
    rw [Option.map_some, Option.some.injEq]
    refine Prod.ext a.1 (Prod.ext a.2 ?_)
    show ((lawChk.all fun f => f (lawK s)) && lawFn.all (fun d => d.ok (lawK s)), lawFn.map fun d => He.fnW (lawK s) d.at_) = (true, lawFn.map He.DefD.val)
    rw [lawFn_two, List.all_append, List.map_append, List.map_append, b, c.1, c.2, d.1, d.2]
    rfl
end MM
end
namespace MM
open PySem PySem.Spec PyProof.Rows L2
abbrev St := L2.St

abbrev Fp := Addr → Prop
def TupF (K : Fg) (F : Fp) (H : Hp) (a : Addr) (xs : List V) : Prop :=
  (¬ F a ∧ Rd H a (.tup xs)) ∨ ∃ (o : Obj) (its : Array Value) (n : Nat), K.lookup a = some o ∧ o.cls = .type "tuple" ∧ o.data = .seq its n ∧ its.size ≤ sizeLine ∧ Vals xs its.toList
abbrev LsR (_ : Fg) (H : Hp) (a : Addr) (xs : List V) : Prop := Rd H a (.lst xs)
def LstF (K : Fg) (F : Fp) (H : Hp) (a : Addr) (xs : List V) : Prop := ¬ F a ∧ LsR K H a xs
def ScrF (K : Fg) (F : Fp) (H : Hp) (a : Addr) (xs : List V) : Prop :=
  (¬ F a ∧ Rd H a (.lst xs)) ∨ ∃ (o : Obj) (its : Array Value) (n : Nat), K.lookup a = some o ∧ o.cls = .type "list" ∧ o.dict = none ∧ o.data = .seq its n ∧ its.size ≤ sizeLine ∧ Vals xs its.toList
theorem LsR.sq {K : Fg} {H : Hp} {a : Addr} {xs : List V} (h : LsR K H a xs) : SqL K H a xs := .inl h
theorem LstF.ls {K : Fg} {F : Fp} {H : Hp} {a : Addr} {xs : List V} (h : LstF K F H a xs) : LsR K H a xs := h.2
theorem ScrF.sq {K : Fg} {F : Fp} {H : Hp} {a : Addr} {xs : List V} (h : ScrF K F H a xs) : SqL K H a xs := by
  rcases h with ⟨_, h⟩ | h
  · exact .inl h
  · exact .inr h
theorem TupF.sq {K : Fg} {F : Fp} {H : Hp} {a : Addr} {xs : List V} (h : TupF K F H a xs) : SqT K H a xs := by
  rcases h with ⟨_, h⟩ | h
  · exact .inl h
  · exact .inr h
theorem LstF.sq {K : Fg} {F : Fp} {H : Hp} {a : Addr} {xs : List V} (h : LstF K F H a xs) : SqL K H a xs := .inl h.2

section
abbrev EX := List Int × Addr × V
def thi (ks : List Int) : Int := reduceHash (Builtin.Tuple.tupleHashOf (ks.map hashInt))
def entX (x : List Int × Addr × Value) : DictEntry := ⟨thi x.1, .ref x.2.1, x.2.2⟩
abbrev PX : List EX → List (List Int × Addr × Value) → Prop := Paired fun p q => p.1 = q.1 ∧ p.2.1 = q.2.1 ∧ RelV p.2.2 q.2.2
def OX (a : Addr) (o : Obj) (es : List EX) : Prop :=
  es.length ≤ sizeLine ∧ (a == sysModules) = false ∧ (es.map (·.1)).Nodup ∧ ∃ xs, PX es xs ∧ ∃ (arr : Array DictEntry) (ep : Nat), o.ExactDict ∧ o.data = .dict arr ep ∧ arr.toList = xs.map entX
def exo (a : Addr) (o : Obj) : HO := .ext fun h => h.get? a = some o
theorem PX.any {es : List EX} {xs : List (List Int × Addr × Value)} (r : PX es xs) (k : List Int) : (es.any fun p => decide (p.1 = k)) = (atKey xs k).isSome := by
  induction r with
  | nil => rfl
  | @cons p q ps qs h t ih =>
    rw [List.any_cons, ih]
    by_cases e : q.1 = k
    · have : atKey (q :: qs) k = some q.2 := by simp [atKey, List.find?_cons, e]
      rw [this, h.1, decide_eq_true e]; rfl
    · have : atKey (q :: qs) k = atKey qs k := by simp [atKey, List.find?_cons, e]
      rw [this, h.1, decide_eq_false e]; rfl
variable {X : Cx} {pins : List (Addr × Obj)} {σ : L2.St} {H : Hp} {s : Shared} {a b : Addr} {es : List EX} {k : List Int} {v : V} {r : Value} {A : Around} {E : Value → Shared → Prop}
def valX (es : List EX) (k : List Int) : Option V := (es.find? fun p => decide (p.1 = k)).map (·.2.2)
theorem PX.val {es : List EX} {xs : List (List Int × Addr × Value)} (r : PX es xs) {k : List Int} {v : V} (h : valX es k = some v) : ∃ p, atKey xs k = some p ∧ RelV v p.2 := by
  induction r with
  | nil => cases h
  | @cons p q ps qs hq t ih =>
    unfold valX at h
    rw [List.find?_cons] at h
    by_cases e : p.1 = k
    · rw [decide_eq_true e] at h
      cases h
      exact ⟨q.2, by simp [atKey, List.find?_cons, ← hq.1, e], hq.2.2⟩
    · rw [decide_eq_false e] at h
      obtain ⟨z, h1, h2⟩ := ih h
      refine ⟨z, ?_, h2⟩
      rw [← h1]
      simp [atKey, List.find?_cons, ← hq.1, e]
end

def keyD : Key → D
  | .inl i => .int i
  | .inr x => .str x

mutual
inductive Rep (K : Fg) (F : Fp) (H : Hp) : V → D → Prop
  | non : Rep K F H .non .non
  | bl (b : Bool) : Rep K F H (.bl b) (.bl b)
  | int (i : Int) : Rep K F H (.int i) (.int i)
  | str (x : Str) : Rep K F H (.str x) (.str x)
  | tup {a : Addr} {vs : List V} {ds : List D} : TupF K F H a vs → Reps K F H vs ds → Rep K F H (.ref a) (.tup ds)
  | lst {a : Addr} {vs : List V} {ds : List D} : LstF K F H a vs → Reps K F H vs ds → Rep K F H (.ref a) (.lst ds)
  | dK {a : Addr} {kvs : List (Key × V)} {ds : List D} : ¬ F a → H a = some (.dK kvs) → Reps K F H (kvs.map (·.2)) ds → Rep K F H (.ref a) (.dct (kvs.map fun p => keyD p.1) ds)
  | dX {a : Addr} {o : Obj} {es : List EX} {ds : List D} : ¬ F a → es ≠ [] → H a = some (exo a o) → OX a o es → (∀ p ∈ es, TupF K F H p.2.1 (p.1.map V.int)) → Reps K F H (es.map (·.2.2)) ds → Rep K F H (.ref a) (.dct (es.map fun p => .tup (p.1.map D.int)) ds)
  | obj {a dx : Addr} {C : Str} {fs : List (Str × V)} {ds : List D} : ¬ F a → H a = some (.ins (He.ga K C) dx fs) → Reps K F H (fs.map (·.2)) ds → Rep K F H (.ref a) (.obj C (fs.map (·.1)) ds)
  | at (a : Addr) : Rep K F H (.ref a) (.at a)
  | ty (n : String) : Rep K F H (.ty n) (.ty n)
  | cls (C : Str) : Rep K F H (.ref (He.ga K C)) (.cls C)
  | scr {a : Addr} {ns : List Int} : ScrF K F H a (ns.map V.int) → Rep K F H (.ref a) (.scr ns)
inductive Reps (K : Fg) (F : Fp) (H : Hp) : List V → List D → Prop
  | nil : Reps K F H [] []
  | cons {v : V} {vs : List V} {d : D} {ds : List D} : Rep K F H v d → Reps K F H vs ds → Reps K F H (v :: vs) (d :: ds)
end

section
variable {K : Fg} {F F' F1 F2 : Fp} {H H' H1 H2 : Hp}
theorem Reps.length : ∀ {vs : List V} {ds : List D}, Reps K F H vs ds → vs.length = ds.length
  | _, _, .nil => rfl
  | _, _, .cons _ t => congrArg (· + 1) (Reps.length t)
theorem Reps.get : ∀ {vs : List V} {ds : List D} {i : Nat} {d : D}, Reps K F H vs ds → ds[i]? = some d → ∃ v, vs[i]? = some v ∧ Rep K F H v d
  | _, _, _, _, .nil, e => by simp at e
  | _, _, 0, _, .cons r _, e => by simp at e; subst e; exact ⟨_, rfl, r⟩
  | _, _, i + 1, d, .cons _ t, e => by
    obtain ⟨v, h1, h2⟩ := Reps.get (i := i) (d := d) t (by simpa using e)
    exact ⟨v, by simpa using h1, h2⟩
theorem Reps.getV : ∀ {vs : List V} {ds : List D} {i : Nat} {v : V}, Reps K F H vs ds → vs[i]? = some v → ∃ d, ds[i]? = some d ∧ Rep K F H v d
  | _, _, _, _, .nil, e => by simp at e
  | _, _, 0, _, .cons r _, e => by simp at e; subst e; exact ⟨_, rfl, r⟩
  | _, _, i + 1, v, .cons _ t, e => by
    obtain ⟨d, h1, h2⟩ := Reps.getV (i := i) (v := v) t (by simpa using e)
    exact ⟨d, by simpa using h1, h2⟩
theorem Reps.append : ∀ {vs ws : List V} {ds es : List D}, Reps K F H vs ds → Reps K F H ws es → Reps K F H (vs ++ ws) (ds ++ es)
  | _, _, _, _, .nil, s => s
  | _, _, _, _, .cons r t, s => .cons r (Reps.append t s)
theorem Reps.take : ∀ {vs : List V} {ds : List D} (n : Nat), Reps K F H vs ds → Reps K F H (vs.take n) (ds.take n)
  | _, _, 0, _ => .nil
  | _, _, _ + 1, .nil => .nil
  | _, _, n + 1, .cons r t => .cons r (Reps.take n t)
theorem Reps.drop : ∀ {vs : List V} {ds : List D} (n : Nat), Reps K F H vs ds → Reps K F H (vs.drop n) (ds.drop n)
  | _, _, 0, r => r
  | _, _, _ + 1, .nil => .nil
  | _, _, n + 1, .cons r t => Reps.drop n t
theorem Reps.set {x : V} {d : D} (r : Rep K F H x d) : ∀ {vs : List V} {ds : List D} (i : Nat), Reps K F H vs ds → Reps K F H (vs.set i x) (ds.set i d)
  | _, _, _, .nil => .nil
  | _, _, 0, .cons _ t => .cons r t
  | _, _, i + 1, .cons q t => .cons q (Reps.set r i t)
theorem Reps.snoc {vs : List V} {ds : List D} {v : V} {d : D} (h : Reps K F H vs ds) (r : Rep K F H v d) : Reps K F H (vs ++ [v]) (ds ++ [d]) := h.append (.cons r .nil)

structure Stp (F1 : Fp) (H : Hp) (F2 : Fp) (H' : Hp) : Prop where
  keep : ∀ b o, ¬ F1 b → H b = some o → H' b = some o
  new : ∀ b, F2 b → F1 b ∨ H b = none
abbrev Sm (F : Fp) (H H' : Hp) : Prop := ∀ b o, ¬ F b → H b = some o → H' b = some o
theorem Sm.refl (F : Fp) (H : Hp) : Sm F H H := fun _ _ _ e => e
theorem Sm.trans (a : Sm F H H1) (b : Sm F H1 H2) : Sm F H H2 := fun c o n e => b c o n (a c o n e)
theorem Sm.of_same (a : Same H H') : Sm F H H' := fun b o _ e => a b o e
theorem Sm.mono (a : Sm F H H') (h : ∀ b, F b → F' b) : Sm F' H H' := fun b o n e => a b o (fun z => n (h b z)) e
theorem Stp.refl (F : Fp) (H : Hp) : Stp F H F H := ⟨fun _ _ _ e => e, fun _ h => .inl h⟩
theorem Stp.trans {F3 : Fp} (a : Stp F1 H F2 H1) (b : Stp F2 H1 F3 H2) : Stp F1 H F3 H2 where
  keep := fun c o n e => b.keep c o (fun z => by rcases a.new c z with q | q; exact n q; rw [q] at e; cases e) (a.keep c o n e)
  new := fun c h => by
    rcases b.new c h with q | q
    · exact a.new c q
    · by_cases n : F1 c
      · exact .inl n
      · right
        cases e : H c with
        | none => rfl
        | some o => rw [a.keep c o n e] at q; cases q
theorem Stp.of_sm (a : Sm F H H') (h : ∀ b, F b → F1 b) : Stp F1 H F1 H' := ⟨fun b o n e => a b o (fun z => n (h b z)) e, fun _ z => .inl z⟩

theorem TupF.step {a : Addr} {xs : List V} (h : TupF K F1 H a xs) (s : Stp F1 H F2 H') : TupF K F2 H' a xs := by
  rcases h with ⟨n, h⟩ | h
  · refine .inl ⟨fun z => ?_, ?_⟩
    · rcases s.new a z with q | q
      · exact n q
      · rcases h with h | ⟨o, h⟩ <;> (rw [q] at h; cases h)
    · rcases h with h | ⟨o, h⟩
      · exact .inl (s.keep a _ n h)
      · exact .inr ⟨o, s.keep a _ n h⟩
  · exact .inr h
theorem LstF.step {a : Addr} {xs : List V} (h : LstF K F1 H a xs) (s : Stp F1 H F2 H') : LstF K F2 H' a xs := by
  obtain ⟨n, h⟩ := h
  refine ⟨fun z => ?_, ?_⟩
  · rcases s.new a z with q | q
    · exact n q
    · rcases h with h | ⟨o, h⟩ <;> (rw [q] at h; cases h)
  · rcases h with h | ⟨o, h⟩
    · exact .inl (s.keep a _ n h)
    · exact .inr ⟨o, s.keep a _ n h⟩
theorem ScrF.step {a : Addr} {xs : List V} (h : ScrF K F1 H a xs) (s : Stp F1 H F2 H') : ScrF K F2 H' a xs := by
  rcases h with h | h
  · exact .inl (LstF.step (K := K) h s)
  · exact .inr h
theorem nstep {a : Addr} {o : HO} (s : Stp F1 H F2 H') (n : ¬ F1 a) (e : H a = some o) : ¬ F2 a := fun z => by
  rcases s.new a z with q | q
  · exact n q
  · rw [q] at e; cases e
mutual
theorem Rep.step (s : Stp F1 H F2 H') : ∀ {v : V} {d : D}, Rep K F1 H v d → Rep K F2 H' v d
  | _, _, .non => .non
  | _, _, .bl b => .bl b
  | _, _, .int i => .int i
  | _, _, .str x => .str x
  | _, _, .tup h r => .tup (h.step s) (Reps.step s r)
  | _, _, .lst h r => .lst (h.step s) (Reps.step s r)
  | _, _, .dK n e r => .dK (nstep s n e) (s.keep _ _ n e) (Reps.step s r)
  | _, _, .dX n ne e ox kt r => .dX (nstep s n e) ne (s.keep _ _ n e) ox (fun p hp => (kt p hp).step s) (Reps.step s r)
  | _, _, .obj n e r => .obj (nstep s n e) (s.keep _ _ n e) (Reps.step s r)
  | _, _, .at a => .at a
  | _, _, .ty n => .ty n
  | _, _, .cls C => .cls C
  | _, _, .scr h => .scr (h.step s)
theorem Reps.step (s : Stp F1 H F2 H') : ∀ {vs : List V} {ds : List D}, Reps K F1 H vs ds → Reps K F2 H' vs ds
  | _, _, .nil => .nil
  | _, _, .cons r t => .cons (Rep.step s r) (Reps.step s t)
end
theorem Stp.less (h : ∀ b, F2 b → F1 b) : Stp F1 H F2 H := ⟨fun _ _ _ e => e, fun b z => .inl (h b z)⟩
theorem Rep.anti {v : V} {d : D} (r : Rep K F1 H v d) (h : ∀ b, F2 b → F1 b) : Rep K F2 H v d := Rep.step (Stp.less h) r
theorem Reps.anti {v : List V} {d : List D} (r : Reps K F1 H v d) (h : ∀ b, F2 b → F1 b) : Reps K F2 H v d := Reps.step (Stp.less h) r
theorem Rep.same {v : V} {d : D} (r : Rep K F H v d) (s : Sm F H H') : Rep K F H' v d := Rep.step ⟨s, fun _ z => .inl z⟩ r
theorem Reps.same {v : List V} {d : List D} (r : Reps K F H v d) (s : Sm F H H') : Reps K F H' v d := Reps.step ⟨s, fun _ z => .inl z⟩ r

inductive DOb (K : Fg) (F : Fp) (H : Hp) (a : Addr) : HO → List D → List D → Prop
  | k {kvs : List (Key × V)} {ds : List D} : Reps K F H (kvs.map (·.2)) ds → DOb K F H a (.dK kvs) (kvs.map fun p => keyD p.1) ds
  | x {o : Obj} {es : List EX} {ds : List D} : es ≠ [] → OX a o es → (∀ p ∈ es, TupF K F H p.2.1 (p.1.map V.int)) → Reps K F H (es.map (·.2.2)) ds → DOb K F H a (exo a o) (es.map fun p => .tup (p.1.map D.int)) ds
theorem DOb.step {u : HO} {a : Addr} {ks ds : List D} (s : Stp F1 H F2 H') (r : DOb K F1 H a u ks ds) : DOb K F2 H' a u ks ds := by
  cases r with
  | k r => exact .k (r.step s)
  | x n ox kt r => exact .x n ox (fun p hp => (kt p hp).step s) (r.step s)
theorem DOb.anti {u : HO} {a : Addr} {ks ds : List D} (r : DOb K F1 H a u ks ds) (h : ∀ b, F2 b → F1 b) : DOb K F2 H a u ks ds := r.step (Stp.less h)
theorem DOb.same {u : HO} {a : Addr} {ks ds : List D} (r : DOb K F H a u ks ds) (s : Sm F H H') : DOb K F H' a u ks ds := r.step ⟨s, fun _ z => .inl z⟩
theorem DOb.rep {u : HO} {ks ds : List D} {a : Addr} (r : DOb K F H a u ks ds) (n : ¬ F a) (e : H a = some u) : Rep K F H (.ref a) (.dct ks ds) := by
  cases r with
  | k r => exact .dK n e r
  | x ne ox kt r => exact .dX n ne e ox kt r
inductive RepW (K : Fg) (F0 F : Fp) (H : Hp) : V → D → Prop
  | of {v : V} {d : D} : Rep K F H v d → RepW K F0 F H v d
  | dct {a : Addr} {u : HO} {ks ds : List D} : ¬ F0 a → H a = some u → DOb K F H a u ks ds → RepW K F0 F H (.ref a) (.dct ks ds)
  | lst {a : Addr} {vs : List V} {ds : List D} : LstF K F0 H a vs → Reps K F H vs ds → RepW K F0 F H (.ref a) (.lst ds)
inductive RepsW (K : Fg) (F0 F : Fp) (H : Hp) : List V → List D → Prop
  | nil : RepsW K F0 F H [] []
  | cons {v : V} {vs : List V} {d : D} {ds : List D} : RepW K F0 F H v d → RepsW K F0 F H vs ds → RepsW K F0 F H (v :: vs) (d :: ds)
section
variable {F0 : Fp}
theorem RepW.lstOf {v : V} {ds : List D} (r : RepW K F0 F H v (.lst ds)) : ∃ a vs, v = .ref a ∧ LsR K H a vs ∧ Reps K F H vs ds := by
  cases r with
  | of r => cases r with | lst h r => exact ⟨_, _, rfl, h.ls, r⟩
  | lst h r => exact ⟨_, _, rfl, h.ls, r⟩
theorem RepW.tupOf {v : V} {ds : List D} (r : RepW K F0 F H v (.tup ds)) : ∃ a vs, v = .ref a ∧ TupF K F H a vs ∧ Reps K F H vs ds := by
  cases r with
  | of r => cases r with | tup h r => exact ⟨_, _, rfl, h, r⟩
theorem RepW.scrOf {v : V} {ns : List Int} (r : RepW K F0 F H v (.scr ns)) : ∃ a, v = .ref a ∧ ScrF K F H a (ns.map V.int) := by
  cases r with
  | of r => cases r with | scr h => exact ⟨_, rfl, h⟩
theorem RepW.intOf {v : V} {i : Int} (r : RepW K F0 F H v (.int i)) : v = .int i := by
  cases r with | of r => cases r; rfl
theorem RepW.blOf {v : V} {i : Bool} (r : RepW K F0 F H v (.bl i)) : v = .bl i := by
  cases r with | of r => cases r; rfl
theorem RepW.strOf {v : V} {i : Str} (r : RepW K F0 F H v (.str i)) : v = .str i := by
  cases r with | of r => cases r; rfl
theorem RepW.nonOf {v : V} (r : RepW K F0 F H v .non) : v = .non := by
  cases r with | of r => cases r; rfl
theorem RepW.same {v : V} {d : D} (r : RepW K F0 F H v d) (s : Sm F0 H H') (h : ∀ b, F0 b → F b) : RepW K F0 F H' v d := by
  cases r with
  | of r => exact .of (r.same (s.mono h))
  | lst q r => exact .lst (q.step ⟨s, fun _ z => .inl z⟩) (r.same (s.mono h))
  | dct n e r => exact .dct n (s _ _ n e) (r.same (s.mono h))
theorem RepsW.same : ∀ {v : List V} {d : List D}, RepsW K F0 F H v d → Sm F0 H H' → (∀ b, F0 b → F b) → RepsW K F0 F H' v d
  | _, _, .nil, _, _ => .nil
  | _, _, .cons r t, s, h => .cons (r.same s h) (RepsW.same t s h)
theorem Reps.weak : ∀ {v : List V} {d : List D}, Reps K F H v d → RepsW K F0 F H v d
  | _, _, .nil => .nil
  | _, _, .cons r t => .cons (.of r) (Reps.weak t)
theorem RepW.lend {v : V} {d : D} (r : RepW K F0 F H v d) (h : ∀ b, F0 b → F b) : Rep K F0 H v d := by
  cases r with
  | of r => exact r.anti h
  | lst q r => exact .lst q (Reps.anti r h)
  | dct n e r => exact (r.anti h).rep n e
theorem RepsW.lend : ∀ {v : List V} {d : List D}, RepsW K F0 F H v d → (∀ b, F0 b → F b) → Reps K F0 H v d
  | _, _, .nil, _ => .nil
  | _, _, .cons r t, h => .cons (r.lend h) (RepsW.lend t h)
theorem RepsW.one {vs : List V} {d : D} (r : RepsW K F0 F H vs [d]) : ∃ v, vs = [v] ∧ RepW K F0 F H v d := by
  cases r with | cons r t => cases t; exact ⟨_, rfl, r⟩
theorem RepsW.two {vs : List V} {d e : D} (r : RepsW K F0 F H vs [d, e]) : ∃ v w, vs = [v, w] ∧ RepW K F0 F H v d ∧ RepW K F0 F H w e := by
  cases r with | cons r t => cases t with | cons r2 t => cases t; exact ⟨_, _, rfl, r, r2⟩
end
end

abbrev Fds := Option (List Str × List D)
inductive Res (τ α : Type) where
  | ok (a : α) (t : τ) | ex (n : Str) (fs : Fds) (t : τ) | bad
def Res.bind {τ α β : Type} (r : Res τ α) (k : α → τ → Res τ β) : Res τ β := match r with
  | .ok a t => k a t
  | .ex n fs t => .ex n fs t
  | .bad => .bad
@[simp] theorem Res.bind_ok {τ α β : Type} (a : α) (t : τ) (k : α → τ → Res τ β) : (Res.ok a t).bind k = k a t := rfl
@[simp] theorem Res.bind_ex {τ α β : Type} (n : Str) (fs : Fds) (t : τ) (k : α → τ → Res τ β) : (Res.ex n fs t : Res τ α).bind k = .ex n fs t := rfl
@[simp] theorem Res.bind_bad {τ α β : Type} (k : α → τ → Res τ β) : (Res.bad : Res τ α).bind k = .bad := rfl
def opt {τ α : Type} (o : Option α) (t : τ) : Res τ α := match o with
  | some a => .ok a t
  | none => .bad
@[simp] theorem opt_some {τ α : Type} (a : α) (t : τ) : opt (some a) t = Res.ok a t := rfl
@[simp] theorem opt_none {τ α : Type} (t : τ) : (opt none t : Res τ α) = .bad := rfl

inductive Slot where
  | no | val (d : D) | own (xs : List D) | dct (ks xs : List D)
def Slot.mine : Slot → Bool
  | .own _ => true
  | .dct .. => true
  | _ => false
inductive OwnR (K : Fg) (F : Fp) (H : Hp) (a : Addr) : HO → Slot → Prop
  | lst {vs : List V} {xs : List D} : Reps K F H vs xs → OwnR K F H a (.lst vs) (.own xs)
  | dct {u : HO} {ks xs : List D} : DOb K F H a u ks xs → OwnR K F H a u (.dct ks xs)
theorem OwnR.step {K : Fg} {F1 F2 : Fp} {H H' : Hp} {a : Addr} {u : HO} {x : Slot} (r : OwnR K F1 H a u x) (s : Stp F1 H F2 H') : OwnR K F2 H' a u x := by
  cases r with
  | lst r => exact .lst (r.step s)
  | dct r => exact .dct (r.step s)
theorem OwnR.anti {K : Fg} {F1 F2 : Fp} {H : Hp} {a : Addr} {u : HO} {x : Slot} (r : OwnR K F1 H a u x) (h : ∀ b, F2 b → F1 b) : OwnR K F2 H a u x := r.step (Stp.less h)
theorem OwnR.same {K : Fg} {F : Fp} {H H' : Hp} {a : Addr} {u : HO} {x : Slot} (r : OwnR K F H a u x) (s : Sm F H H') : OwnR K F H' a u x := r.step ⟨s, fun _ z => .inl z⟩
abbrev Rho := List Slot
inductive Fl (τ : Type) where
  | nx (ρ : Rho) (t : τ) | rt (d : D) (t : τ) | bk (ρ : Rho) (t : τ) | ct (ρ : Rho) (t : τ) | ex (n : Str) (fs : Fds) (ρ : Rho) (t : τ) | bad

def XRep (K : Fg) (F : Fp) (H : Hp) (n : Str) (fs : Fds) (cls : Value) (dd : Option Addr) : Prop :=
  cls = .ref (He.ga K n) ∧ match fs with
    | none => dd = none
    | some (ns, ds) => ∃ a vs, dd = some a ∧ H a = some (.xd (ns.zip vs)) ∧ vs.length = ns.length ∧ Reps K F H vs ds
theorem XRep.anti {K : Fg} {F F' : Fp} {H : Hp} {n : Str} {fs : Fds} {cls : Value} {dd : Option Addr} (x : XRep K F H n fs cls dd) (h : ∀ b, F' b → F b) : XRep K F' H n fs cls dd := by
  obtain ⟨e, x⟩ := x
  refine ⟨e, ?_⟩
  cases fs with
  | none => exact x
  | some p =>
    obtain ⟨ns, ds⟩ := p
    obtain ⟨a, vs, h1, h2, h3, h4⟩ := x
    exact ⟨a, vs, h1, h2, h3, h4.anti h⟩

structure SC (τ : Type) where
  F : Fp
  Iv : τ → Fp → Hp → Prop
  dom : ∀ t G H b, Iv t G H → F b → H b ≠ none
  step : ∀ t G H G' H', Iv t G H → (∀ b o, F b → H b = some o → H' b = some o) → Stp G H G' H' → Iv t G' H'
theorem SC.stay {τ : Type} (C : SC τ) {t : τ} {G : Fp} {H H' : Hp} (i : C.Iv t G H) (s : Same H H') : C.Iv t G H' := C.step t G H G H' i (fun b o _ e => s b o e) ⟨fun b o _ e => s b o e, fun _ h => .inl h⟩
theorem SC.less {τ : Type} (C : SC τ) {t : τ} {G G' : Fp} {H : Hp} (i : C.Iv t G H) (h : ∀ b, G' b → G b) : C.Iv t G' H := C.step t G H G' H i (fun _ _ _ e => e) (Stp.less h)

def SC.cmp {τ : Type} (C : SC τ) (D0 : Addr) (u : HO) : SC τ where
  F := fun b => C.F b ∨ b = D0
  Iv := fun t G H => C.Iv t G H ∧ H D0 = some u
  dom := fun t G H b h1 h2 => by
    rcases h2 with h2 | h2
    · exact C.dom t G H b h1.1 h2
    · rw [h2, h1.2]; intro z; cases z
  step := fun t G H G' H' h1 h2 s => ⟨C.step t G H G' H' h1.1 (fun b o q e => h2 b o (.inl q) e) s, h2 _ _ (.inr rfl) h1.2⟩
def SC.ov {τ : Type} (C : SC τ) (F : Fp) (H1 : Hp) (hF : ∀ b, C.F b → F b) (dm : ∀ b, F b → H1 b ≠ none) : SC τ where
  F := F
  Iv := fun t G H' => C.Iv t G H' ∧ Stp F H1 G H' ∧ ∀ b o, F b → ¬ C.F b → H1 b = some o → H' b = some o
  dom := fun t G H' b h hb => by
    by_cases q : C.F b
    · exact C.dom t G H' b h.1 q
    · cases e : H1 b with
      | none => exact absurd e (dm b hb)
      | some o => rw [h.2.2 b o hb q e]; intro z; cases z
  step := fun t G H G' H' h1 h2 s => ⟨C.step t G H G' H' h1.1 (fun b o h e => h2 b o (hF b h) e) s, h1.2.1.trans s, fun b o hb n e => h2 b o hb (h1.2.2 b o hb n e)⟩
def SC.lend {τ : Type} (C : SC τ) (O : Fp) (H1 : Hp) (hO : ∀ b, O b → ¬ C.F b) (dm : ∀ b, O b → H1 b ≠ none) : SC τ where
  F := C.F
  Iv := fun t G H => C.Iv t (fun b => G b ∨ O b) H ∧ (∀ b, O b → ¬ G b) ∧ ∀ b o, O b → H1 b = some o → H b = some o
  dom := fun t G H b h hb => C.dom t _ H b h.1 hb
  step := fun t G H G' H' h1 h2 s => by
    have nn : ∀ b, O b → H b ≠ none := fun b hb => by
      cases e : H1 b with
      | none => exact absurd e (dm b hb)
      | some o => rw [h1.2.2 b o hb e]; intro z; cases z
    refine ⟨C.step t _ H _ H' h1.1 h2 ⟨fun b o n e => s.keep b o (fun z => n (.inl z)) e, fun b h => h.elim (fun z => (s.new b z).elim (fun z => .inl (.inl z)) .inr) fun z => .inl (.inr z)⟩, fun b hb hg => ?_, fun b o hb e => ?_⟩
    · rcases s.new b hg with q | q
      · exact h1.2.1 b hb q
      · exact nn b hb q
    · exact s.keep b o (h1.2.1 b hb) (h1.2.2 b o hb e)
class Sto (τ : Type) where
  ok : Fg → SC τ → Prop
  cmp : ∀ K C D0 u, ¬ C.F D0 → ok K C → ok K (SC.cmp C D0 u)
  ov : ∀ K C F H1 hF dm, ok K C → ok K (SC.ov C F H1 hF dm)
  lend : ∀ K C O H1 hO dm, ok K C → ok K (SC.lend C O H1 hO dm)
instance : Sto Unit := ⟨fun _ _ => True, fun _ _ _ _ _ _ => trivial, fun _ _ _ _ _ _ _ => trivial, fun _ _ _ _ _ _ _ => trivial⟩

def Fo (F : Fp) (ρ : Rho) (σ : St) : Fp := fun b => F b ∨ ∃ (i : Nat) (x : Slot), (ρ[i]? = some x ∧ x.mine = true) ∧ σ[i]? = some (some (.ref b))

structure At {τ : Type} [Sto τ] (K : Fg) (C : SC τ) (ρ : Rho) (t : τ) (σ : St) (H : Hp) : Prop where
  okC : Sto.ok K C
  st : C.Iv t (Fo C.F ρ σ) H
  len : σ.length = ρ.length
  val : ∀ (i : Nat) (d : D), ρ[i]? = some (.val d) → ∃ v, σ[i]? = some (some v) ∧ Rep K (Fo C.F ρ σ) H v d
  mine : ∀ (i : Nat) (x : Slot), (ρ[i]? = some x ∧ x.mine = true) → ∃ (a : Addr) (u : HO), σ[i]? = some (some (.ref a)) ∧ ¬ C.F a ∧ H a = some u ∧ OwnR K (Fo C.F ρ σ) H a u x
  dis : ∀ (i j : Nat) (x y : Slot), (ρ[i]? = some x ∧ x.mine = true) → (ρ[j]? = some y ∧ y.mine = true) → σ[i]? = σ[j]? → i = j

section
variable {τ : Type} [Sto τ] {K : Fg} {C : SC τ} {ρ : Rho} {t t' : τ} {σ : St} {H H' H1 : Hp}
theorem At.dom (A : At K C ρ t σ H) : ∀ b, Fo C.F ρ σ b → H b ≠ none := fun b h => by
  rcases h with h | ⟨i, xs, h1, h2⟩
  · exact C.dom _ _ _ _ A.st h
  · obtain ⟨a, vs, e, _, q, _⟩ := A.mine i xs h1
    rw [e] at h2
    cases h2
    rw [q]
    intro z; cases z
theorem At.own (A : At K C ρ t σ H) (i : Nat) (xs : List D) (e : ρ[i]? = some (.own xs)) : ∃ (a : Addr) (vs : List V), σ[i]? = some (some (.ref a)) ∧ ¬ C.F a ∧ H a = some (.lst vs) ∧ Reps K (Fo C.F ρ σ) H vs xs := by
  obtain ⟨a, u, h1, h2, h3, h4⟩ := A.mine i _ ⟨e, rfl⟩
  cases h4 with
  | lst r => exact ⟨a, _, h1, h2, h3, r⟩
theorem At.dct (A : At K C ρ t σ H) (i : Nat) (ks xs : List D) (e : ρ[i]? = some (.dct ks xs)) : ∃ (a : Addr) (u : HO), σ[i]? = some (some (.ref a)) ∧ ¬ C.F a ∧ H a = some u ∧ DOb K (Fo C.F ρ σ) H a u ks xs := by
  obtain ⟨a, u, h1, h2, h3, h4⟩ := A.mine i _ ⟨e, rfl⟩
  cases h4 with
  | dct r => exact ⟨a, _, h1, h2, h3, r⟩
theorem Fo.base {F : Fp} {b : Addr} (h : F b) : Fo F ρ σ b := .inl h
theorem At.next (A : At K C ρ t σ H) (s : Sm C.F H H') (i : C.Iv t' (Fo C.F ρ σ) H') : At K C ρ t' σ H' where
  okC := A.okC
  st := i
  len := A.len
  val := fun i d e => by
    obtain ⟨v, h1, h2⟩ := A.val i d e
    exact ⟨v, h1, h2.same (s.mono fun _ z => .inl z)⟩
  mine := fun i xs e => by
    obtain ⟨a, vs, h1, h2, h3, h4⟩ := A.mine i xs e
    exact ⟨a, vs, h1, h2, s _ _ h2 h3, h4.same (s.mono fun _ z => .inl z)⟩
  dis := A.dis
end

section
variable {τ : Type} [Sto τ] {α β : Type}
abbrev Rel (β α : Type) := Fg → (Fp → Hp → Prop) → Fp → Fp → Hp → Hp → β → α → Prop
structure RelOk (R : Rel β α) : Prop where
  base : ∀ K I F0 F H H1 H' v d, Sm F H H1 → R K I F0 F H1 H' v d → R K I F0 F H H' v d
def Post (R : Rel β α) (K : Fg) (W : WX) (C : SC τ) (F : Fp) (σ : St) (H : Hp) (r : Res τ α) (Q : β → Hp → Prop) : Prop := match r with
  | .ok d t' => ∀ v H', Sm C.F H H' → C.Iv t' F H' → R K (C.Iv t') C.F F H H' v d → Q v H'
  | .ex n fs t' => ∀ cls dd H', Sm C.F H H' → C.Iv t' F H' → XRep K F H' n fs cls dd → W cls dd σ H'
  | .bad => False
def tG (R : Rel β α) (K : Fg) (W : WX) (m : Rho → τ → Res τ α) : St → Hp → (β → Hp → Prop) → Prop := fun σ H Q =>
  ∃ (C : SC τ) (ρ : Rho) (t : τ), At K C ρ t σ H ∧ Post R K W C (Fo C.F ρ σ) σ H (m ρ t) Q
variable {R : Rel β α} {K : Fg} {W : WX} {C : SC τ} {F : Fp} {σ : St} {H H1 : Hp} {ρ : Rho} {t : τ} {Q Q' : β → Hp → Prop}
theorem Post.rebase (ok : RelOk R) {r : Res τ α} (h : Post R K W C F σ H r Q) (s : Sm C.F H H1) (hF : ∀ b, C.F b → F b) : Post R K W C F σ H1 r Q := by
  cases r with
  | ok d t' => exact fun v H' s' i r => h v H' (s.trans s') i (ok.base _ _ _ _ _ _ _ _ _ (s.mono hF) r)
  | ex n fs t' => exact fun cls dd H' s' i x => h cls dd H' (s.trans s') i x
  | bad => exact h
theorem use {γ δ : Type} {R2 : Rel δ γ} {ma : Rho → τ → Res τ α} {k : α → τ → Res τ γ} {Qd : δ → Hp → Prop} (ok2 : RelOk R2) (A : At K C ρ t σ H) (h : Post R2 K W C (Fo C.F ρ σ) σ H ((ma ρ t).bind k) Qd)
    (hk : ∀ d t1 v H1, ma ρ t = .ok d t1 → Sm C.F H H1 → At K C ρ t1 σ H1 → R K (C.Iv t1) C.F (Fo C.F ρ σ) H H1 v d → Post R2 K W C (Fo C.F ρ σ) σ H1 (k d t1) Qd → Q v H1) : tG R K W ma σ H Q := by
  refine ⟨C, ρ, t, A, ?_⟩
  cases e : ma ρ t with
  | ok d t1 =>
    rw [e] at h
    exact fun v H1 s i r => hk d t1 v H1 e s (A.next s i) r (Post.rebase ok2 h s fun _ z => .inl z)
  | ex n fs t1 =>
    rw [e] at h
    exact h
  | bad =>
    rw [e] at h
    exact h
end

def rE : Rel V D := fun K _ _ F _ H' v d => Rep K F H' v d
def rW : Rel V D := fun K _ F0 F _ H' v d => RepW K F0 F H' v d
def rB : Rel Bool Bool := fun _ _ _ _ _ _ v d => v = d
def rA : Rel (List V) (List D) := fun K _ _ F _ H' v d => Reps K F H' v d
def rAW : Rel (List V) (List D) := fun K _ F0 F _ H' v d => RepsW K F0 F H' v d
def rF : Rel V (List D) := fun K I _ F H H' v ds => ∃ a vs, v = .ref a ∧ ¬ F a ∧ H a = none ∧ H' a = some (.lst vs) ∧ Reps K (fun b => F b ∨ b = a) H' vs ds ∧ I (fun b => F b ∨ b = a) H'
theorem okE : RelOk rE := ⟨fun _ _ _ _ _ _ _ _ _ _ h => h⟩
theorem okB : RelOk rB := ⟨fun _ _ _ _ _ _ _ _ _ _ h => h⟩
theorem okA : RelOk rA := ⟨fun _ _ _ _ _ _ _ _ _ _ h => h⟩
theorem okAW : RelOk rAW := ⟨fun _ _ _ _ _ _ _ _ _ _ h => h⟩
theorem okF : RelOk rF := ⟨fun K I F0 F H H1 H' v d s h => by
  obtain ⟨a, vs, e, n, q, r⟩ := h
  refine ⟨a, vs, e, n, ?_, r⟩
  cases z : H a with
  | none => rfl
  | some o => rw [s a o n z] at q; cases q⟩
abbrev tE {τ : Type} [Sto τ] (K : Fg) (W : WX) (m : Rho → τ → Res τ D) : TE := tG rE K W m
abbrev tW {τ : Type} [Sto τ] (K : Fg) (W : WX) (m : Rho → τ → Res τ D) : TE := tG rW K W m
abbrev tF {τ : Type} [Sto τ] (K : Fg) (W : WX) (m : Rho → τ → Res τ (List D)) : TE := tG rF K W m
abbrev tT {τ : Type} [Sto τ] (K : Fg) (W : WX) (m : Rho → τ → Res τ Bool) : TT := tG rB K W m
abbrev tAW {τ : Type} [Sto τ] (K : Fg) (W : WX) (m : Rho → τ → Res τ (List D)) : TA := tG rAW K W m
abbrev tA {τ : Type} [Sto τ] (K : Fg) (W : WX) (m : Rho → τ → Res τ (List D)) : TA := tG rA K W m

theorem PE.imp {X : Cx} {e : Expr} {t t' : TE} (h : PE X e t) (i : ∀ σ H Q, t' σ H Q → t σ H Q) : PE X e t' := ⟨fun pins s σ H Q I q => h.run pins s σ H Q I (i σ H Q q)⟩
theorem PT.imp {X : Cx} {e : Expr} {t t' : TT} (h : PT X e t) (i : ∀ σ H Q, t' σ H Q → t σ H Q) : PT X e t' := ⟨fun pins s σ H Q I q => h.run pins s σ H Q I (i σ H Q q)⟩
theorem PA.imp {X : Cx} {e : List Expr} {t t' : TA} (h : PA X e t) (i : ∀ σ H Q, t' σ H Q → t σ H Q) : PA X e t' := ⟨fun pos pins s σ H Q I q => h.run pos pins s σ H Q I (i σ H Q q)⟩
theorem PW.imp {X : Cx} {e : Expr} {t t' : TT} (h : PW X e t) (i : ∀ σ H Q, t' σ H Q → t σ H Q) : PW X e t' := ⟨fun wh pins s σ H Q I q => h.run wh pins s σ H Q I (i σ H Q q)⟩
theorem PS.imp {X : Cx} {e : Stmt} {t t' : TS} (h : PS X e t) (i : ∀ D σ H, t' D σ H → t D σ H) : PS X e t' := ⟨fun pins s σ H D I q => h.run pins s σ H D I (i D σ H q)⟩
theorem PSs.imp {X : Cx} {e : List Stmt} {t t' : TS} (h : PSs X e t) (i : ∀ D σ H, t' D σ H → t D σ H) : PSs X e t' := ⟨fun pins s σ H D I q => h.run pins s σ H D I (i D σ H q)⟩

section
variable {τ : Type} [Sto τ]
def SPost (K : Fg) (W : WX) (C : SC τ) (F1 : Fp) (H : Hp) (r : Fl τ) (E : Ends) : Prop := match r with
  | .nx ρ' t' => ∀ σ' H', Stp F1 H (Fo C.F ρ' σ') H' → At K C ρ' t' σ' H' → E.nx σ' H'
  | .bk ρ' t' => ∀ σ' H', Stp F1 H (Fo C.F ρ' σ') H' → At K C ρ' t' σ' H' → E.bk σ' H'
  | .ct ρ' t' => ∀ σ' H', Stp F1 H (Fo C.F ρ' σ') H' → At K C ρ' t' σ' H' → E.ct σ' H'
  | .rt d t' => ∀ v H', Sm F1 H H' → C.Iv t' C.F H' → Rep K C.F H' v d → E.rt v H'
  | .ex n fs ρ' t' => ∀ cls dd σ' H', Stp F1 H (Fo C.F ρ' σ') H' → At K C ρ' t' σ' H' → XRep K (Fo C.F ρ' σ') H' n fs cls dd → W cls dd σ' H'
  | .bad => False
def tS (K : Fg) (W : WX) (m : Rho → τ → Fl τ) : TS := fun E σ H => ∃ (C : SC τ) (ρ : Rho) (t : τ), At K C ρ t σ H ∧ SPost K W C (Fo C.F ρ σ) H (m ρ t) E
variable {K : Fg} {W : WX} {C : SC τ} {F1 F2 : Fp} {H H1 : Hp}
theorem SPost.rebase {r : Fl τ} {E : Ends} (h : SPost K W C F1 H r E) (s : Stp F1 H F2 H1) : SPost K W C F2 H1 r E := by
  cases r with
  | nx ρ' t' => exact fun σ' H' s' a => h σ' H' (s.trans s') a
  | bk ρ' t' => exact fun σ' H' s' a => h σ' H' (s.trans s') a
  | ct ρ' t' => exact fun σ' H' s' a => h σ' H' (s.trans s') a
  | rt d t' => exact fun v H' s' i r => h v H' (fun b o n e => s' b o (fun z => by rcases s.new b z with q | q; exact n q; rw [q] at e; cases e) (s.keep b o n e)) i r
  | ex n fs ρ' t' => exact fun cls dd σ' H' s' a x => h cls dd σ' H' (s.trans s') a x
  | bad => exact h
end
end MM

namespace MM
open PySem PySem.Spec PyProof.Rows L2
section
variable {X : Cx} {W : WX} {τ : Type} [Sto τ] {K : Fg}
abbrev ME (τ α : Type) := Rho → τ → Res τ α

def eVar (i : Nat) : ME τ D := fun ρ t => match ρ[i]? with
  | some (.val d) => .ok d t
  | _ => .bad
theorem me_var {i : Nat} {e : Expr} (h : PE X e (tVar i)) : PE X e (tE X.K W (eVar (τ := τ) i)) := PE.imp h fun σ H Q ⟨C, ρ, t, A, p⟩ => by
  unfold eVar at p
  cases e : ρ[i]? with
  | none => rw [e] at p; exact p.elim
  | some s => cases s with
    | no => rw [e] at p; exact p.elim
    | own xs => rw [e] at p; exact p.elim
    | dct ks xs => rw [e] at p; exact p.elim
    | val d =>
      rw [e] at p
      obtain ⟨v, h1, h2⟩ := A.val i d e
      exact ⟨v, h1, p v H (Sm.refl _ _) A.st h2⟩
def eVarW (i : Nat) : ME τ D := fun ρ t => match ρ[i]? with
  | some (.val d) => .ok d t
  | some (.own xs) => .ok (.lst xs) t
  | some (.dct ks xs) => .ok (.dct ks xs) t
  | _ => .bad
theorem me_varW {i : Nat} {e : Expr} (h : PE X e (tVar i)) : PE X e (tW X.K W (eVarW (τ := τ) i)) := PE.imp h fun σ H Q ⟨C, ρ, t, A, p⟩ => by
  unfold eVarW at p
  cases e : ρ[i]? with
  | none => rw [e] at p; exact p.elim
  | some s => cases s with
    | no => rw [e] at p; exact p.elim
    | own xs =>
      rw [e] at p
      obtain ⟨a, vs, h1, h2, h3, h4⟩ := A.own i xs e
      exact ⟨.ref a, h1, p _ H (Sm.refl _ _) A.st (.lst ⟨h2, .inl h3⟩ h4)⟩
    | dct ks xs =>
      rw [e] at p
      obtain ⟨a, u, h1, h2, h3, h4⟩ := A.dct i ks xs e
      exact ⟨.ref a, h1, p _ H (Sm.refl _ _) A.st (.dct h2 h3 h4)⟩
    | val d =>
      rw [e] at p
      obtain ⟨v, h1, h2⟩ := A.val i d e
      exact ⟨v, h1, p v H (Sm.refl _ _) A.st (.of h2)⟩
theorem weak {e : Expr} {m : ME τ D} (h : PE X e (tE K W m)) : PE X e (tW K W m) := PE.imp h fun σ H Q ⟨C, ρ, t, A, p⟩ => by
  refine ⟨C, ρ, t, A, ?_⟩
  cases e : m ρ t with
  | ok d t' => rw [e] at p; exact fun v H' s i r => p v H' s i (.of r)
  | ex n fs t' => rw [e] at p; exact p
  | bad => rw [e] at p; exact p
def eC (d : D) : ME τ D := fun _ t => .ok d t
theorem me_c {e : Expr} {v : V} {d : D} (h : PE X e (tC v)) (r : ∀ F H, Rep X.K F H v d) : PE X e (tE X.K W (eC (τ := τ) d)) := PE.imp h fun σ H Q ⟨C, ρ, t, A, p⟩ => p v H (Sm.refl _ _) A.st (r _ _)
theorem me_int {i j pos} : PE X (.Constant (.int i) j pos) (tE X.K W (eC (τ := τ) (.int i))) := me_c pe_int fun _ _ => .int i
theorem me_bl {i j pos} : PE X (.Constant (.bool i) j pos) (tE X.K W (eC (τ := τ) (.bl i))) := me_c pe_bl fun _ _ => .bl i
theorem me_str {i j pos} : PE X (.Constant (.str i) j pos) (tE X.K W (eC (τ := τ) (.str i))) := me_c pe_str fun _ _ => .str i
theorem me_non {j pos} : PE X (.Constant .none j pos) (tE X.K W (eC (τ := τ) .non)) := me_c pe_non fun _ _ => .non

def e1 {α β : Type} (f : α → Option β) (a : ME τ α) : ME τ β := fun ρ t => (a ρ t).bind fun d t => opt (f d) t
def e2 {α β γ : Type} (f : α → β → Option γ) (a : ME τ α) (b : ME τ β) : ME τ γ := fun ρ t => (a ρ t).bind fun d t => (b ρ t).bind fun e t => opt (f d e) t
abbrev Dom (F : Fp) (H : Hp) : Prop := ∀ b, F b → H b ≠ none
def DOp2 (K : Fg) (r : R2) (f : D → D → Option D) : Prop := ∀ (F0 F : Fp) (H : Hp) (x y : V) (d e z : D) (Q : VK), Dom F H → RepW K F0 F H x d → RepW K F0 F H y e → f d e = some z →
  (∀ v H', Same H H' → Rep K F H' v z → Q v H') → r x y H Q
theorem run2 {a b : Expr} {r : R2} {f : D → D → Option D} {ma mb : ME τ D} {σ : L2.St} {H : Hp} {Q : VK} (hf : DOp2 K r f) (p : tE K W (e2 f ma mb) σ H Q) : tOp r (tW K W ma) (tW K W mb) σ H Q := by
  obtain ⟨C, ρ, t, A, p⟩ := p
  refine use okE A p fun d t1 v H1 e1 s1 A1 r1 p1 => ?_
  refine use okE A1 p1 fun d2 t2 v2 H2 e2 s2 A2 r2 p2 => ?_
  cases e : f d d2 with
  | none => rw [e] at p2; exact p2.elim
  | some z =>
    rw [e] at p2
    exact hf C.F _ H2 v v2 d d2 z Q A2.dom (r1.same s2 fun _ => Fo.base) r2 e fun v' H' sm rr => p2 v' H' (Sm.of_same sm) (C.stay A2.st sm) rr
theorem me_op2 {op : Operator} {a b : Expr} {r : R2} {f : D → D → Option D} {ma mb : ME τ D} {pos : Pos} (ho : OpR X (binaryOp op) r) (hf : DOp2 X.K r f) (ha : PE X a (tW X.K W ma)) (hb : PE X b (tW X.K W mb)) :
    PE X (.BinOp a op b pos) (tE X.K W (e2 f ma mb)) := PE.imp (pe_op ho ha hb) fun σ H Q p => run2 (a := a) (b := b) hf p
theorem me_cmp2 {op : CmpOp} {a b : Expr} {r : R2} {f : D → D → Option D} {ma mb : ME τ D} {pos : Pos} (ho : OpR X (compareOp op) r) (hf : DOp2 X.K r f) (ha : PE X a (tW X.K W ma)) (hb : PE X b (tW X.K W mb)) (hm : behindInMarks op b = false) :
    PE X (.Compare a [op] [b] pos) (tE X.K W (e2 f ma mb)) := PE.imp (pe_cmpR ho ha hb hm) fun σ H Q p => run2 (a := a) (b := b) hf p
theorem me_ix {a b : Expr} {r : R2} {f : D → D → Option D} {ma mb : ME τ D} {pos : Pos} (ho : IxR X r) (hf : DOp2 X.K r f) (ha : PE X a (tW X.K W ma)) (hb : PE X b (tW X.K W mb)) (hs : PlainIx b) :
    PE X (.Subscript a b pos) (tE X.K W (e2 f ma mb)) := PE.imp (pe_ix ho ha hb hs) fun σ H Q p => run2 (a := a) (b := b) hf p
def DOp1 (K : Fg) (r : V → Hp → VK → Prop) (f : D → Option D) : Prop := ∀ (F0 F : Fp) (H : Hp) (x : V) (d z : D) (Q : VK), Dom F H → RepW K F0 F H x d → f d = some z →
  (∀ v H', Same H H' → Rep K F H' v z → Q v H') → r x H Q
theorem me_un {op : UnaryOp} {a : Expr} {r : V → Hp → VK → Prop} {f : D → Option D} {ma : ME τ D} {pos : Pos} (ho : UnR X (unaryOp op) r) (hf : DOp1 X.K r f) (ha : PE X a (tW X.K W ma)) : PE X (.UnaryOp op a pos) (tE X.K W (e1 f ma)) :=
  PE.imp (pe_un ho ha) fun σ H Q ⟨C, ρ, t, A, p⟩ => by
    refine use okE A p fun d t1 v H1 e1 s1 A1 r1 p1 => ?_
    cases e : f d with
    | none => rw [e] at p1; exact p1.elim
    | some z =>
      rw [e] at p1
      exact hf C.F _ H1 v d z Q A1.dom r1 e fun v' H' sm rr => p1 v' H' (Sm.of_same sm) (C.stay A1.st sm) rr

def asB : D → Option Bool
  | .bl b => some b
  | _ => none
theorem mt_cmp2 {op : CmpOp} {a b : Expr} {r : R2} {f : D → D → Option D} {ma mb : ME τ D} {pos : Pos} (ho : OpR X (compareOp op) r) (hf : DOp2 X.K r f) (ha : PE X a (tW X.K W ma)) (hb : PE X b (tW X.K W mb)) (hm : behindInMarks op b = false) :
    PT X (.Compare a [op] [b] pos) (tT X.K W (e1 asB (e2 f ma mb))) := by
  refine PT.imp (pt_cmpR ho ha hb hm) fun σ H Q ⟨C, ρ, t, A, p⟩ => ?_
  refine run2 (a := a) (b := b) (K := X.K) (W := W) hf ?_
  refine use okB A p fun d t1 v H1 e1 s1 A1 r1 p1 => ?_
  cases d <;> first
    | exact p1.elim
    | (cases r1; exact ⟨_, rfl, p1 _ H1 (Sm.refl _ _) A1.st rfl⟩)
def tNot1 (a : ME τ Bool) : ME τ Bool := fun ρ t => (a ρ t).bind fun b t => .ok (!b) t
def tAnd2 (a b : ME τ Bool) : ME τ Bool := fun ρ t => (a ρ t).bind fun c t => if c = true then b ρ t else .ok false t
def tOr2 (a b : ME τ Bool) : ME τ Bool := fun ρ t => (a ρ t).bind fun c t => if c = true then .ok true t else b ρ t
theorem mt_not {a : Expr} {ma : ME τ Bool} {pos : Pos} (h : PT X a (tT X.K W ma)) : PT X (.UnaryOp .Not a pos) (tT X.K W (tNot1 ma)) := PT.imp (pt_not h) fun σ H Q ⟨C, ρ, t, A, p⟩ => by
  refine use okB A p fun d t1 v H1 e1 s1 A1 r1 p1 => ?_
  cases r1
  exact p1 _ H1 (Sm.refl _ _) A1.st rfl
theorem and_red {ta tb : ME τ Bool} {σ : L2.St} {H : Hp} {Q : Bool → Hp → Prop} (p : tT K W (tAnd2 ta tb) σ H Q) : tAnd (tT K W ta) (tT K W tb) σ H Q := by
  obtain ⟨C, ρ, t, A, p⟩ := p
  refine use okB A p fun d t1 v H1 e1 s1 A1 r1 p1 => ?_
  cases r1
  cases d with
  | true => exact ⟨C, ρ, t1, A1, p1⟩
  | false => exact p1 _ H1 (Sm.refl _ _) A1.st rfl
theorem or_red {ta tb : ME τ Bool} {σ : L2.St} {H : Hp} {Q : Bool → Hp → Prop} (p : tT K W (tOr2 ta tb) σ H Q) : tOr (tT K W ta) (tT K W tb) σ H Q := by
  obtain ⟨C, ρ, t, A, p⟩ := p
  refine use okB A p fun d t1 v H1 e1 s1 A1 r1 p1 => ?_
  cases r1
  cases d with
  | false => exact ⟨C, ρ, t1, A1, p1⟩
  | true => exact p1 _ H1 (Sm.refl _ _) A1.st rfl
theorem mw_and1 {a : Expr} {ma : ME τ Bool} {pos : Pos} (h : PT X a (tT X.K W ma)) : PW X (.BoolOp .And [a] pos) (tT X.K W ma) := pw_and1 h
theorem mw_or1 {a : Expr} {ma : ME τ Bool} {pos : Pos} (h : PT X a (tT X.K W ma)) : PW X (.BoolOp .Or [a] pos) (tT X.K W ma) := pw_or1 h
theorem mw_and {a b : Expr} {rest : List Expr} {ma mb : ME τ Bool} {pos : Pos} (h : PT X a (tT X.K W ma)) (h2 : PW X (.BoolOp .And (b :: rest) pos) (tT X.K W mb)) : PW X (.BoolOp .And (a :: b :: rest) pos) (tT X.K W (tAnd2 ma mb)) :=
  PW.imp (pw_and h h2) fun _ _ _ p => and_red p
theorem mw_or {a b : Expr} {rest : List Expr} {ma mb : ME τ Bool} {pos : Pos} (h : PT X a (tT X.K W ma)) (h2 : PW X (.BoolOp .Or (b :: rest) pos) (tT X.K W mb)) : PW X (.BoolOp .Or (a :: b :: rest) pos) (tT X.K W (tOr2 ma mb)) :=
  PW.imp (pw_or h h2) fun _ _ _ p => or_red p
def eAnd2 (a : ME τ D) (b : ME τ D) : ME τ D := fun ρ t => ((e1 asB a) ρ t).bind fun c t => if c = true then b ρ t else .ok (.bl false) t
def eNot1 (a : ME τ D) : ME τ D := fun ρ t => ((e1 asB a) ρ t).bind fun c t => .ok (.bl (!c)) t
theorem Res.bind_assoc {α β γ : Type} (r : Res τ α) (f : α → τ → Res τ β) (g : β → τ → Res τ γ) : (r.bind f).bind g = r.bind fun a t => (f a t).bind g := by cases r <;> rfl
theorem me_one {op : BoolOp} {a : Expr} {ma : ME τ D} {pos : Pos} (h : PE X a (tE X.K W ma)) : PE X (.BoolOp op [a] pos) (tE X.K W ma) := pe_one h
theorem me_and {a b : Expr} {rest : List Expr} {ma mb : ME τ D} {pos : Pos} (h : PE X a (tE X.K W ma)) (h2 : PE X (.BoolOp .And (b :: rest) pos) (tE X.K W mb)) : PE X (.BoolOp .And (a :: b :: rest) pos) (tE X.K W (eAnd2 ma mb)) :=
  PE.imp (pe_and h h2) fun σ H Q ⟨C, ρ, t, A, p⟩ => by
    unfold eAnd2 MM.e1 at p
    rw [Res.bind_assoc] at p
    refine use okE A p fun d t1 v H1 e1 s1 A1 r1 p1 => ?_
    cases d <;> first
      | exact p1.elim
      | skip
    rename_i c
    cases r1
    refine ⟨c, rfl, ?_⟩
    cases c with
    | true => exact ⟨C, ρ, t1, A1, p1⟩
    | false => exact p1 _ H1 (Sm.refl _ _) A1.st (.bl false)
theorem me_not {a : Expr} {ma : ME τ D} {pos : Pos} (h : PE X a (tE X.K W ma)) : PE X (.UnaryOp .Not a pos) (tE X.K W (eNot1 ma)) :=
  PE.imp (pe_not h) fun σ H Q ⟨C, ρ, t, A, p⟩ => by
    unfold eNot1 MM.e1 at p
    rw [Res.bind_assoc] at p
    refine use okE A p fun d t1 v H1 e1 s1 A1 r1 p1 => ?_
    cases d <;> first
      | exact p1.elim
      | skip
    rename_i c
    cases r1
    exact ⟨c, rfl, p1 _ H1 (Sm.refl _ _) A1.st (.bl _)⟩
def aNil {α : Type} : ME τ (List α) := fun _ t => .ok [] t
def aCons {α : Type} (a : ME τ α) (b : ME τ (List α)) : ME τ (List α) := fun ρ t => (a ρ t).bind fun d t => (b ρ t).bind fun ds t => .ok (d :: ds) t
theorem ma_nil : PA X [] (tA X.K W (aNil (τ := τ))) := PA.imp pa_nil fun σ H Q ⟨C, ρ, t, A, p⟩ => p [] H (Sm.refl _ _) A.st .nil
theorem ma_cons {e : Expr} {es : List Expr} {m : ME τ D} {ms : ME τ (List D)} (h : PE X e (tE X.K W m)) (hs : PA X es (tA X.K W ms)) (hst : starEach (e :: es) X.env = (false, eval e X.env) :: starEach es X.env := by rfl) : PA X (e :: es) (tA X.K W (aCons m ms)) :=
  PA.imp (pa_cons h hs hst) fun σ H Q ⟨C, ρ, t, A, p⟩ => by
    refine use okA A p fun d t1 v H1 e1 s1 A1 r1 p1 => ?_
    refine use okA A1 p1 fun d2 t2 v2 H2 e2 s2 A2 r2 p2 => ?_
    exact p2 _ H2 (Sm.refl _ _) A2.st (.cons (r1.same (s2.mono fun _ => Fo.base)) r2)
theorem maw_nil : PA X [] (tAW X.K W (aNil (τ := τ))) := PA.imp pa_nil fun σ H Q ⟨C, ρ, t, A, p⟩ => p [] H (Sm.refl _ _) A.st .nil
theorem maw_cons {e : Expr} {es : List Expr} {m : ME τ D} {ms : ME τ (List D)} (h : PE X e (tW X.K W m)) (hs : PA X es (tAW X.K W ms)) (hst : starEach (e :: es) X.env = (false, eval e X.env) :: starEach es X.env := by rfl) : PA X (e :: es) (tAW X.K W (aCons m ms)) :=
  PA.imp (pa_cons h hs hst) fun σ H Q ⟨C, ρ, t, A, p⟩ => by
    refine use okAW A p fun d t1 v H1 e1 s1 A1 r1 p1 => ?_
    refine use okAW A1 p1 fun d2 t2 v2 H2 e2 s2 A2 r2 p2 => ?_
    exact p2 _ H2 (Sm.refl _ _) A2.st (.cons (r1.same s2 fun _ => Fo.base) r2)
def lim {α : Type} (ds : List α) : Option (List α) := if ds.length ≤ 16777216 then some ds else none
theorem lim_le {α : Type} {ds es : List α} (h : lim ds = some es) : es = ds ∧ ds.length ≤ sizeLine := by
  unfold lim at h
  split at h
  · cases h; exact ⟨rfl, by assumption⟩
  · cases h
def eTup (a : ME τ (List D)) : ME τ D := e1 (fun ds => (lim ds).map D.tup) a
theorem Rep.newTup {F : Fp} {H : Hp} {vs : List V} {ds : List D} {p : Addr} (r : Reps K F H vs ds) (dm : Dom F H) (np : H p = none) : Rep K F (upd H p (.tup vs)) (.ref p) (.tup ds) :=
  .tup (.inl ⟨fun z => dm p z np, .inl upd_same⟩) (r.same fun b o _ e => by rw [upd_ne (ne_of_none e np)]; exact e)
theorem Rep.newLst {F : Fp} {H : Hp} {vs : List V} {ds : List D} {p : Addr} (r : Reps K F H vs ds) (dm : Dom F H) (np : H p = none) : Rep K F (upd H p (.lst vs)) (.ref p) (.lst ds) :=
    .lst ⟨fun z => dm p z np, .inl upd_same⟩ (r.same fun b o _ e => by rw [upd_ne (ne_of_none e np)]; exact e)
theorem same_upd {H : Hp} {p : Addr} {o : HO} (h : H p = none) : Same H (upd H p o) := fun b x e => by
  rw [upd_ne (ne_of_none e h)]
  exact e
theorem me_tup {es : List Expr} {x1} {pos : Pos} {ms : ME τ (List D)} (h : PA X es (tA X.K W ms)) : PE X (.Tuple es x1 pos) (tE X.K W (eTup ms)) := PE.imp (pe_tup h) fun σ H Q ⟨C, ρ, t, A, p⟩ => by
  refine use okE A p fun d t1 v H1 e1 s1 A1 r1 p1 => ?_
  dsimp only at p1
  cases e : lim d with
  | none => rw [e] at p1; exact p1.elim
  | some z =>
    rw [e] at p1
    obtain ⟨rfl, hz⟩ := lim_le e
    exact ⟨by rw [r1.length]; exact hz, fun a na => p1 _ _ (Sm.of_same (same_upd na)) (C.stay A1.st (same_upd na)) (Rep.newTup r1 A1.dom na)⟩
theorem mf_lst {es : List Expr} {pos : Pos} {ms : ME τ (List D)} (h : PA X es (tA X.K W ms)) : PE X (.List es pos) (tF X.K W (e1 lim ms)) := PE.imp (pe_lst h) fun σ H Q ⟨C, ρ, t, A, p⟩ => by
  refine use okF A p fun d t1 v H1 e1 s1 A1 r1 p1 => ?_
  cases e : lim d with
  | none => rw [e] at p1; exact p1.elim
  | some z =>
    rw [e] at p1
    obtain ⟨rfl, hz⟩ := lim_le e
    refine ⟨by rw [r1.length]; exact hz, fun a na => p1 _ _ (Sm.of_same (same_upd na)) (C.stay A1.st (same_upd na)) ⟨a, v, rfl, fun z => A1.dom a z na, na, upd_same, ?_⟩⟩
    have sp : Stp (Fo C.F ρ σ) H1 (fun b => Fo C.F ρ σ b ∨ b = a) (upd H1 a (.lst v)) := ⟨fun b o _ e => by rw [upd_ne (ne_of_none e na)]; exact e, fun b h => h.elim .inl fun e => .inr (by rw [e]; exact na)⟩
    exact ⟨Reps.step sp r1, C.step _ _ _ _ _ A1.st (fun b o _ e => by rw [upd_ne (ne_of_none e na)]; exact e) sp⟩
def eLst (a : ME τ (List D)) : ME τ D := fun ρ t => (a ρ t).bind fun ds t => .ok (.lst ds) t
theorem me_new {e : Expr} {m : ME τ (List D)} (h : PE X e (tF K W m)) : PE X e (tE K W (eLst m)) := PE.imp h fun σ H Q ⟨C, ρ, t, A, p⟩ => by
  refine ⟨C, ρ, t, A, ?_⟩
  unfold eLst at p
  cases e : m ρ t with
  | ok d t' =>
    rw [e] at p
    intro v H' s i r
    obtain ⟨a, vs, rfl, n, q, l, r, _⟩ := r
    exact p _ H' s i (.lst ⟨n, .inl l⟩ (r.anti fun _ => .inl))
  | ex n fs t' => rw [e] at p; exact p
  | bad => rw [e] at p; exact p

def DCall (K : Fg) (r : List V → Hp → VK → Prop) (f : List D → Option D) : Prop := ∀ (F0 F : Fp) (H : Hp) (xs : List V) (ds : List D) (z : D) (Q : VK), Dom F H → RepsW K F0 F H xs ds → f ds = some z →
  (∀ v H', Same H H' → Rep K F H' v z → Q v H') → r xs H Q
theorem runC {r : List V → Hp → VK → Prop} {f : List D → Option D} {ms : ME τ (List D)} {σ : L2.St} {H : Hp} {Q : VK} (hf : DCall K r f) (p : tE K W (MM.e1 f ms) σ H Q) : tCB r (tAW K W ms) σ H Q := by
  obtain ⟨C, ρ, t, A, p⟩ := p
  refine use okE A p fun d t1 v H1 e1 s1 A1 r1 p1 => ?_
  cases e : f d with
  | none => rw [e] at p1; exact p1.elim
  | some z =>
    rw [e] at p1
    exact hf C.F _ H1 v d z Q A1.dom r1 e fun v' H' sm rr => p1 v' H' (Sm.of_same sm) (C.stay A1.st sm) rr
theorem me_callB {id : String} {x : Str} {e : Expr} {es : List Expr} {p pos : Pos} {r : List V → Hp → VK → Prop} {f : List D → Option D} {ms : ME τ (List D)} (hc : CallR X (.builtin id) r) (hf : DCall X.K r f) (hg : Gl X x) (hm : X.mg x = none) (hv : bootBuiltins x = some (.builtin id))
    (ha : PA X (e :: es) (tAW X.K W ms)) (hn : x ≠ "__name__" := by decide) (hdb : (x == ("__debug__" : Str)) = false := by decide)
    (he : starEach (e :: es) X.env = (false, eval e X.env) :: starEach es X.env := by rfl) (hpl : (backTo pos (starEach es X.env)).any (·.1) = false := by rfl) :
    PE X (.Call (.Name x p) (e :: es) [] pos) (tE X.K W (MM.e1 f ms)) := PE.imp (pe_callB hc hg hm hv ha hn hdb he hpl) fun σ H Q p => runC hf p
theorem me_callTy {id : String} {x : Str} {e : Expr} {es : List Expr} {p pos : Pos} {r : List V → Hp → VK → Prop} {f : List D → Option D} {ms : ME τ (List D)} (hc : CallR X (.type id) r) (hf : DCall X.K r f) (hg : Gl X x) (hm : X.mg x = none) (hv : bootBuiltins x = some (.type id))
    (ha : PA X (e :: es) (tAW X.K W ms)) (hn : x ≠ "__name__" := by decide) (hdb : (x == ("__debug__" : Str)) = false := by decide)
    (he : starEach (e :: es) X.env = (false, eval e X.env) :: starEach es X.env := by rfl) (hpl : (backTo pos (starEach es X.env)).any (·.1) = false := by rfl) :
    PE X (.Call (.Name x p) (e :: es) [] pos) (tE X.K W (MM.e1 f ms)) := PE.imp (pe_callTy hc hg hm hv ha hn hdb he hpl) fun σ H Q p => runC hf p
end
end MM

namespace MM
open PySem PySem.Spec PyProof.Rows L2
abbrev MS (τ : Type) := Rho → τ → Fl τ
abbrev Tgt := Rho → D → Option Rho
abbrev Tgts := Rho → List D → Option Rho

section
variable {τ : Type} [Sto τ] {K : Fg} {C : SC τ} {ρ : Rho} {t t' : τ} {σ : St} {H H' H1 : Hp}
theorem set_at {α : Type} {l : List α} {i j : Nat} {x y : α} (h : (l.set i x)[j]? = some y) : (i = j ∧ y = x ∧ i < l.length) ∨ (i ≠ j ∧ l[j]? = some y) := by
  by_cases e : i = j
  · subst e
    by_cases q : i < l.length
    · rw [List.getElem?_set_self q] at h
      exact .inl ⟨rfl, (Option.some.inj h).symm, q⟩
    · rw [List.getElem?_eq_none (by simpa using q)] at h
      cases h
  · rw [List.getElem?_set_ne e] at h
    exact .inr ⟨e, h⟩
theorem Fo.setVal {F : Fp} {i : Nat} {d : D} {v : Option V} {b : Addr} (h : Fo F (ρ.set i (.val d)) (σ.set i v) b) : Fo F ρ σ b := by
  rcases h with h | ⟨j, xs, ⟨h1, hm⟩, h2⟩
  · exact .inl h
  · rcases set_at h1 with ⟨_, e, _⟩ | ⟨ne, h1⟩
    · cases e; cases hm
    · rw [List.getElem?_set_ne ne] at h2
      exact .inr ⟨j, xs, ⟨h1, hm⟩, h2⟩
theorem At.setVal {i : Nat} {v : V} {d : D} (A : At K C ρ t σ H) (r : Rep K (Fo C.F ρ σ) H v d) : At K C (ρ.set i (.val d)) t (σ.set i (some v)) H where
  okC := A.okC
  st := C.less A.st fun _ => Fo.setVal
  len := by simp [A.len]
  val := fun j e h => by
    rcases set_at h with ⟨rfl, e1, hl⟩ | ⟨ne, h⟩
    · cases e1
      refine ⟨v, ?_, r.anti fun _ => Fo.setVal⟩
      rw [List.getElem?_set_self (by rw [A.len]; exact hl)]
    · obtain ⟨w, h1, h2⟩ := A.val j e h
      exact ⟨w, by rw [List.getElem?_set_ne ne]; exact h1, h2.anti fun _ => Fo.setVal⟩
  mine := fun j xs hh => by
    obtain ⟨h, hm⟩ := hh
    rcases set_at h with ⟨rfl, e1, hl⟩ | ⟨ne, h⟩
    · cases e1; cases hm
    · obtain ⟨a, vs, h1, h2, h3, h4⟩ := A.mine j xs ⟨h, hm⟩
      exact ⟨a, vs, by rw [List.getElem?_set_ne ne]; exact h1, h2, h3, h4.anti fun _ => Fo.setVal⟩
  dis := fun j k xs ys hh1 hh2 e => by
    obtain ⟨h1, m1⟩ := hh1
    obtain ⟨h2, m2⟩ := hh2
    rcases set_at h1 with ⟨_, e1, _⟩ | ⟨n1, h1⟩
    · cases e1; cases m1
    · rcases set_at h2 with ⟨_, e2, _⟩ | ⟨n2, h2⟩
      · cases e2; cases m2
      · rw [List.getElem?_set_ne n1, List.getElem?_set_ne n2] at e
        exact A.dis j k xs ys ⟨h1, m1⟩ ⟨h2, m2⟩ e
theorem Stp.setVal {i : Nat} {v : Option V} {d : D} {F : Fp} : Stp (Fo F ρ σ) H (Fo F (ρ.set i (.val d)) (σ.set i v)) H := Stp.less fun _ => Fo.setVal
end
end MM

namespace MM
open PySem PySem.Spec PyProof.Rows L2
section
variable {X : Cx} {W : WX} {τ : Type} [Sto τ] {K : Fg}
def sDo {α : Type} (m : ME τ α) (k : α → Rho → τ → Fl τ) : MS τ := fun ρ t => match m ρ t with
  | .ok d t' => k d ρ t'
  | .ex n fs t' => .ex n fs ρ t'
  | .bad => .bad
theorem useS {α β : Type} {R : Rel β α} {C : SC τ} {ρ : Rho} {t : τ} {σ : St} {H : Hp} {ma : ME τ α} {k : α → Rho → τ → Fl τ} {E : Ends} {Q : β → Hp → Prop} (A : At K C ρ t σ H) (h : SPost K W C (Fo C.F ρ σ) H (sDo ma k ρ t) E)
    (hk : ∀ d t1 v H1, ma ρ t = .ok d t1 → Sm C.F H H1 → At K C ρ t1 σ H1 → R K (C.Iv t1) C.F (Fo C.F ρ σ) H H1 v d → SPost K W C (Fo C.F ρ σ) H1 (k d ρ t1) E → Q v H1) : tG R K W ma σ H Q := by
  refine ⟨C, ρ, t, A, ?_⟩
  unfold sDo at h
  cases e : ma ρ t with
  | ok d t1 =>
    rw [e] at h
    exact fun v H1 s i r => hk d t1 v H1 e s (A.next s i) r (SPost.rebase h (Stp.of_sm s fun _ => .inl))
  | ex n fs t1 =>
    rw [e] at h
    exact fun cls dd H' s i x => h cls dd σ H' (Stp.of_sm s fun _ => .inl) (A.next s i) x
  | bad =>
    rw [e] at h
    exact h

def tTg (τ : Type) [Sto τ] (K : Fg) (g : Tgt) (vs : List Nat) : TG := fun v σ H Q => ∃ (C : SC τ) (ρ : Rho) (t : τ) (d : D), At K C ρ t σ H ∧ Rep K (Fo C.F ρ σ) H v d ∧ ∃ ρ', g ρ d = some ρ' ∧
  ∀ σ' H', (σ'.length = σ.length ∧ ∀ (j : Nat), j ∉ vs → σ'[j]? = σ[j]? ∧ ρ'[j]? = ρ[j]?) → Same H H' → Stp (Fo C.F ρ σ) H (Fo C.F ρ' σ') H' → At K C ρ' t σ' H' → Q σ' H'
def tTgs (τ : Type) [Sto τ] (K : Fg) (g : Tgts) (vs : List Nat) : TGs := fun v σ H Q => ∃ (C : SC τ) (ρ : Rho) (t : τ) (d : List D), At K C ρ t σ H ∧ Reps K (Fo C.F ρ σ) H v d ∧ ∃ ρ', g ρ d = some ρ' ∧
  ∀ σ' H', (σ'.length = σ.length ∧ ∀ (j : Nat), j ∉ vs → σ'[j]? = σ[j]? ∧ ρ'[j]? = ρ[j]?) → Same H H' → Stp (Fo C.F ρ σ) H (Fo C.F ρ' σ') H' → At K C ρ' t σ' H' → Q σ' H'
theorem PG.imp {e : Expr} {t t' : TG} (h : PG X e t) (i : ∀ v σ H Q, t' v σ H Q → t v σ H Q) : PG X e t' := ⟨fun pins s σ H v u Q I r q => h.run pins s σ H v u Q I r (i v σ H Q q)⟩
theorem PGs.imp {e : List Expr} {t t' : TGs} (h : PGs X e t) (i : ∀ v σ H Q, t' v σ H Q → t v σ H Q) : PGs X e t' := ⟨fun pins s σ H v u Q I r q => h.run pins s σ H v u Q I r (i v σ H Q q)⟩
def gN (i : Nat) : Tgt := fun ρ d => some (ρ.set i (.val d))
def gNil : Tgts := fun ρ ds => match ds with
  | [] => some ρ
  | _ => none
def gCons (g : Tgt) (gs : Tgts) : Tgts := fun ρ ds => match ds with
  | d :: ds => (g ρ d).bind fun ρ' => gs ρ' ds
  | [] => none
def gT (gs : Tgts) : Tgt := fun ρ d => match d with
  | .tup ds => gs ρ ds
  | _ => none
theorem mg_name {i : Nat} {e : Expr} (h : PG X e (L2.gName i)) : PG X e (tTg τ X.K (gN i) [i]) := PG.imp h fun v σ H Q ⟨C, ρ, t, d, A, r, ρ', e, k⟩ => by
  cases e
  exact k _ H ⟨by simp, fun j hj => ⟨by rw [List.getElem?_set_ne (fun e => hj (by simp [e]))], by rw [List.getElem?_set_ne (fun e => hj (by simp [e]))]⟩⟩ (Same.refl H) Stp.setVal (A.setVal r)
theorem mgs_nil : PGs X [] (tTgs τ X.K gNil []) := PGs.imp pgs_nil fun v σ H Q ⟨C, ρ, t, d, A, r, ρ', e, k⟩ => by
  cases r with
  | nil => cases e; exact ⟨rfl, k σ H ⟨rfl, fun _ _ => ⟨rfl, rfl⟩⟩ (Same.refl H) (Stp.refl _ _) A⟩
  | cons r t => cases e
theorem mgs_cons {e : Expr} {es : List Expr} {g : Tgt} {gs : Tgts} {v1 v2 : List Nat} (h1 : PG X e (tTg τ X.K g v1)) (h2 : PGs X es (tTgs τ X.K gs v2)) (hs : (assignEach (e :: es) X.env).map (·.2) = assign e X.env :: (assignEach es X.env).map (·.2) := by rfl) :
    PGs X (e :: es) (tTgs τ X.K (gCons g gs) (v1 ++ v2)) := PGs.imp (pgs_cons h1 h2 hs) fun v σ H Q ⟨C, ρ, t, d, A, r, ρ', e, k⟩ => by
  cases r with
  | nil => cases e
  | cons r1 r2 =>
    rename_i x xs dd ds _
    have e' : (g ρ dd).bind (fun ρ' => gs ρ' ds) = some ρ' := e
    cases q : g ρ dd with
    | none => rw [q] at e'; cases e'
    | some ρ1 =>
      rw [q] at e'
      exact ⟨x, xs, rfl, C, ρ, t, dd, A, r1, ρ1, q, fun σ1 H1 f1 m1 s1 A1 => ⟨C, ρ1, t, ds, A1, r2.step s1, ρ', e', fun σ2 H2 f2 m2 s2 A2 => k σ2 H2 ⟨f2.1.trans f1.1, fun j hj => ⟨(f2.2 j fun z => hj (List.mem_append_right _ z)).1.trans (f1.2 j fun z => hj (List.mem_append_left _ z)).1, (f2.2 j fun z => hj (List.mem_append_right _ z)).2.trans (f1.2 j fun z => hj (List.mem_append_left _ z)).2⟩⟩ (fun b o e => m2 b o (m1 b o e)) (s1.trans s2) A2⟩⟩
def glen (gs : Tgts) (n : Nat) : Prop := ∀ ρ ds ρ', gs ρ ds = some ρ' → ds.length = n
theorem glen_nil : glen gNil 0 := fun ρ ds ρ' e => by
  cases ds with
  | nil => rfl
  | cons => cases e
theorem glen_cons {g : Tgt} {gs : Tgts} {n : Nat} (h : glen gs n) : glen (gCons g gs) (n + 1) := fun ρ ds ρ' e => by
  cases ds with
  | nil => cases e
  | cons d ds =>
    have e' : (g ρ d).bind (fun ρ' => gs ρ' ds) = some ρ' := e
    cases q : g ρ d with
    | none => rw [q] at e'; cases e'
    | some ρ1 =>
      rw [q] at e'
      show ds.length + 1 = n + 1
      rw [h ρ1 ds ρ' e']
theorem mg_tup {es : List Expr} {k n : Nat} {pos : Pos} {gs : Tgts} (hc : X.calm = true) (hg : glen gs n) {vs : List Nat} (h : PGs X es (tTgs τ X.K gs vs)) (hn : (assignEach es X.env).length = n := by rfl) (hst : (assignEach es X.env).findIdx? (·.1) = none := by rfl) :
    PG X (.Tuple es k pos) (tTg τ X.K (gT gs) vs) := PG.imp (pg_tup hc h hn hst) fun v σ H Q ⟨C, ρ, t, d, A, r, ρ', e, k⟩ => by
  cases r with
  | tup tf rs =>
    have e' : gs ρ _ = some ρ' := e
    exact ⟨_, _, rfl, tf.sq, by rw [rs.length]; exact hg _ _ _ e', C, ρ, t, _, A, rs, ρ', e', k⟩
  | _ => cases e

def sSeq (a b : MS τ) : MS τ := fun ρ t => match a ρ t with
  | .nx ρ' t' => b ρ' t'
  | r => r
theorem mss_cons {s : Stmt} {rest : List Stmt} {a b : MS τ} (h1 : PS X s (tS X.K W a)) (h2 : PSs X rest (tS X.K W b)) : PSs X (s :: rest) (tS X.K W (sSeq a b)) := PSs.imp (pss_cons h1 h2) fun E σ H ⟨C, ρ, t, A, p⟩ => by
  refine ⟨C, ρ, t, A, ?_⟩
  unfold sSeq at p
  cases e : a ρ t with
  | nx ρ' t' => rw [e] at p; exact fun σ' H' s' A' => ⟨C, ρ', t', A', SPost.rebase p s'⟩
  | rt d t' => rw [e] at p; exact p
  | bk ρ' t' => rw [e] at p; exact p
  | ct ρ' t' => rw [e] at p; exact p
  | ex n fs ρ' t' => rw [e] at p; exact p
  | bad => rw [e] at p; exact p
theorem mss_one {s : Stmt} {a : MS τ} (h1 : PS X s (tS X.K W a)) : PSs X [s] (tS X.K W a) := pss_one h1
def sSkip : MS τ := fun ρ t => .nx ρ t
theorem mss_nil : PSs X [] (tS X.K W (sSkip (τ := τ))) := PSs.imp pss_nil fun E σ H ⟨C, ρ, t, A, p⟩ => p σ H (Stp.refl _ _) A
def sAsg (g : Tgt) (m : ME τ D) : MS τ := sDo m fun d ρ t => match g ρ d with
  | some ρ' => .nx ρ' t
  | none => .bad
theorem asg_red {g : Tgt} {vs : List Nat} {m : ME τ D} {E : Ends} {σ : St} {H : Hp} (p : tS K W (sAsg g m) E σ H) : tAsg (tE K W m) (tTg τ K g vs) E σ H := by
  obtain ⟨C, ρ, t, A, p⟩ := p
  refine useS A p fun d t1 v H1 e1 s1 A1 r1 p1 => ?_
  refine ⟨C, ρ, t1, d, A1, r1, ?_⟩
  cases e : g ρ d with
  | none => rw [e] at p1; exact p1.elim
  | some ρ' => rw [e] at p1; exact ⟨ρ', rfl, fun σ' H' _ _ s' A' => p1 σ' H' s' A'⟩
theorem ms_asg {tg e : Expr} {pos : Pos} {g : Tgt} {vs : List Nat} {m : ME τ D} (he : PE X e (tE X.K W m)) (hg : PG X tg (tTg τ X.K g vs)) (hs : swapsWithSole [tg] e pos.line X.env = pure false := by rfl) (hw : swappedStores [tg] e X.env = pure none := by rfl)
    (h1 : (assignEach [tg] X.env).map (·.2) = [assign tg X.env] := by rfl) : PS X (.Assign [tg] e pos) (tS X.K W (sAsg g m)) := PS.imp (ps_asg he hg hs hw h1) fun _ _ _ p => asg_red p
theorem ms_set {s : Stmt} {i : Nat} {m : ME τ D} (h : PS X s (tAsg (tE X.K W m) (gName i))) : PS X s (tS X.K W (sAsg (gN i) m)) := PS.imp h fun E σ H ⟨C, ρ, t, A, p⟩ => by
  refine useS A p fun d t1 v H1 e1 s1 A1 r1 p1 => ?_
  exact p1 _ H1 Stp.setVal (A1.setVal r1)
def sRet (m : ME τ D) : MS τ := sDo m fun d _ t => .rt d t
theorem ms_ret {e : Expr} {pos : Pos} {m : ME τ D} (h : PE X e (tE X.K W m)) : PS X (.Return (some e) pos) (tS X.K W (sRet m)) := PS.imp (ps_ret h) fun E σ H ⟨C, ρ, t, A, p⟩ => by
  refine useS A p fun d t1 v H1 e1 s1 A1 r1 p1 => ?_
  exact p1 v H1 (Sm.refl _ _) (C.less A1.st fun _ => .inl) (r1.anti fun _ => .inl)
def sIf (c : ME τ Bool) (a b : MS τ) : MS τ := sDo c fun k ρ t => if k = true then a ρ t else b ρ t
theorem ms_if {c : Expr} {sa sb : List Stmt} {pos : Pos} {mc : ME τ Bool} {a b : MS τ} (hc : PT X c (tT X.K W mc)) (ha : PSs X sa (tS X.K W a)) (hb : PSs X sb (tS X.K W b)) : PS X (.If c sa sb pos) (tS X.K W (sIf mc a b)) :=
  PS.imp (ps_if hc ha hb) fun E σ H ⟨C, ρ, t, A, p⟩ => by
    refine useS A p fun d t1 v H1 e1 s1 A1 r1 p1 => ?_
    cases r1
    cases d with
    | true => exact ⟨C, ρ, t1, A1, p1⟩
    | false => exact ⟨C, ρ, t1, A1, p1⟩
def sPar (i j : Nat) (a b : ME τ D) : MS τ := sDo (aCons a (aCons b aNil)) fun ds ρ t => match ds with
  | [d, e] => .nx ((ρ.set i (.val d)).set j (.val e)) t
  | _ => .bad
theorem ms_par {s : Stmt} {i j : Nat} {ma mb : ME τ D} (h : PS X s (tPar i j (tA X.K W (aCons ma (aCons mb aNil))))) : PS X s (tS X.K W (sPar i j ma mb)) := PS.imp h fun E σ H ⟨C, ρ, t, A, p⟩ => by
  refine useS A p fun d t1 v H1 e1 s1 A1 r1 p1 => ?_
  cases r1 with
  | nil => exact p1.elim
  | cons r1 r2 => cases r2 with
    | nil => exact p1.elim
    | cons r2 r3 => cases r3 with
      | cons => exact p1.elim
      | nil =>
        exact ⟨_, _, rfl, p1 _ H1 (Stp.setVal.trans Stp.setVal) ((A1.setVal r1).setVal (r2.anti fun _ => Fo.setVal))⟩
end
end MM

namespace MM
open PySem PySem.Spec PyProof.Rows L2
section
variable {X : Cx} {W : WX} {τ : Type} [Sto τ] {K : Fg}
def loopW (c : ME τ Bool) (b : MS τ) : Nat → MS τ
  | 0 => fun _ _ => .bad
  | n + 1 => sDo c fun k ρ t => if k = true then (match b ρ t with
      | .nx ρ' t' => loopW c b n ρ' t'
      | .ct ρ' t' => loopW c b n ρ' t'
      | .bk ρ' t' => .nx ρ' t'
      | r => r) else .nx ρ t
theorem loopW_mono {c : ME τ Bool} {b : MS τ} : ∀ {n m : Nat} {ρ : Rho} {t : τ}, n ≤ m → loopW c b n ρ t ≠ .bad → loopW c b m ρ t = loopW c b n ρ t
  | 0, _, _, _, _, h => absurd rfl h
  | n + 1, 0, _, _, hl, _ => absurd hl (by omega)
  | n + 1, m + 1, ρ, t, hl, h => by
    unfold loopW sDo at h ⊢
    cases e : c ρ t with
    | ok k t' =>
      rw [e] at h
      dsimp only at h ⊢
      cases k with
      | false => rfl
      | true =>
        rw [if_pos rfl] at h ⊢
        rw [if_pos rfl]
        cases e2 : b ρ t' with
        | nx ρ' t'' => rw [e2] at h; exact loopW_mono (by omega) h
        | ct ρ' t'' => rw [e2] at h; exact loopW_mono (by omega) h
        | _ => rfl
    | ex n fs t' => rfl
    | bad => rfl
open Classical in
noncomputable def sWhile (c : ME τ Bool) (b : MS τ) : MS τ := fun ρ t => if h : ∃ n, loopW c b n ρ t ≠ .bad then loopW c b h.choose ρ t else .bad
theorem sWhile_of {c : ME τ Bool} {b : MS τ} {n : Nat} {ρ : Rho} {t : τ} (h : loopW c b n ρ t ≠ .bad) : sWhile c b ρ t = loopW c b n ρ t := by
  have hx : ∃ n, loopW c b n ρ t ≠ .bad := ⟨n, h⟩
  unfold sWhile
  rw [dif_pos hx]
  have h1 := hx.choose_spec
  rcases Nat.le_total n hx.choose with q | q
  · exact loopW_mono q h
  · exact (loopW_mono q h1).symm
theorem sWhile_turn (c : ME τ Bool) (b : MS τ) (ρ : Rho) (t : τ) : sWhile c b ρ t = sDo c (fun k ρ t => if k = true then (match b ρ t with
      | .nx ρ' t' => sWhile c b ρ' t'
      | .ct ρ' t' => sWhile c b ρ' t'
      | .bk ρ' t' => .nx ρ' t'
      | r => r) else .nx ρ t) ρ t := by
  have inner : ∀ ρ' t', sWhile c b ρ' t' ≠ .bad → ∃ n, sWhile c b ρ' t' = loopW c b n ρ' t' := fun ρ' t' h => by
    unfold sWhile at h ⊢
    split at h
    · rename_i hx
      rw [dif_pos hx]
      exact ⟨_, rfl⟩
    · exact absurd rfl h
  have inner2 : ∀ ρ' t', sWhile c b ρ' t' = .bad → ∀ n, loopW c b n ρ' t' = .bad := fun ρ' t' h n => by
    cases q : loopW c b n ρ' t' with
    | bad => rfl
    | _ =>
      have := sWhile_of (c := c) (b := b) (n := n) (ρ := ρ') (t := t') (by rw [q]; intro z; cases z)
      rw [h, q] at this
      cases this
  unfold sDo
  cases e : c ρ t with
  | ok k t1 =>
    cases k with
    | false =>
      rw [sWhile_of (n := 1) (by unfold loopW sDo; rw [e]; intro z; cases z)]
      unfold loopW sDo
      rw [e]
      rfl
    | true =>
      dsimp only
      rw [if_pos rfl]
      have two : ∀ ρ' t', (∀ n, loopW c b (n + 1) ρ t = loopW c b n ρ' t') → sWhile c b ρ t = sWhile c b ρ' t' := fun ρ' t' h => by
        by_cases q : sWhile c b ρ' t' = .bad
        · rw [q]
          unfold sWhile
          rw [dif_neg]
          rintro ⟨n, hn⟩
          cases n with
          | zero => exact hn rfl
          | succ n => rw [h n, inner2 _ _ q n] at hn; exact hn rfl
        · obtain ⟨n, hn⟩ := inner _ _ q
          rw [hn, ← h n]
          exact sWhile_of (by rw [h n, ← hn]; exact q)
      cases e2 : b ρ t1 with
      | nx ρ' t2 => exact two ρ' t2 fun n => by rw [show loopW c b (n + 1) = sDo c _ from rfl]; unfold sDo; rw [e]; dsimp only; rw [if_pos rfl, e2]
      | ct ρ' t2 => exact two ρ' t2 fun n => by rw [show loopW c b (n + 1) = sDo c _ from rfl]; unfold sDo; rw [e]; dsimp only; rw [if_pos rfl, e2]
      | bk ρ' t2 =>
        have l : loopW c b 1 ρ t = .nx ρ' t2 := by unfold loopW sDo; rw [e]; dsimp only; rw [if_pos rfl, e2]
        rw [sWhile_of (n := 1) (by rw [l]; intro z; cases z), l]
      | rt d t2 =>
        have l : loopW c b 1 ρ t = .rt d t2 := by unfold loopW sDo; rw [e]; dsimp only; rw [if_pos rfl, e2]
        rw [sWhile_of (n := 1) (by rw [l]; intro z; cases z), l]
      | ex n fs ρ' t2 =>
        have l : loopW c b 1 ρ t = .ex n fs ρ' t2 := by unfold loopW sDo; rw [e]; dsimp only; rw [if_pos rfl, e2]
        rw [sWhile_of (n := 1) (by rw [l]; intro z; cases z), l]
      | bad =>
        unfold sWhile
        rw [dif_neg]
        rintro ⟨n, hn⟩
        cases n with
        | zero => exact hn rfl
        | succ n => exact hn (by unfold loopW sDo; rw [e]; dsimp only; rw [if_pos rfl, e2])
  | ex n fs t1 =>
    have l : loopW c b 1 ρ t = .ex n fs ρ t1 := by unfold loopW sDo; rw [e]
    rw [sWhile_of (n := 1) (by rw [l]; intro z; cases z), l]
  | bad =>
    unfold sWhile
    rw [dif_neg]
    rintro ⟨n, hn⟩
    cases n with
    | zero => exact hn rfl
    | succ n => exact hn (by unfold loopW sDo; rw [e])
theorem while_red {c : ME τ Bool} {b : MS τ} {E : Ends} {σ : St} {H : Hp} (p : tS K W (sWhile c b) E σ H) : tWhile (tT K W c) (tS K W b) E σ H := by
  obtain ⟨C, ρ, t, A, p⟩ := p
  unfold sWhile at p
  split at p
  · rename_i hx
    refine ⟨fun n σ H => ∃ ρ t, At K C ρ t σ H ∧ SPost K W C (Fo C.F ρ σ) H (loopW c b n ρ t) E, ⟨_, ρ, t, A, p⟩, ?_⟩
    rintro n σ H ⟨ρ, t, A, p⟩
    cases n with
    | zero => exact p.elim
    | succ n =>
      refine useS A p fun k t1 v H1 e1 s1 A1 r1 p1 => ?_
      cases r1
      cases k with
      | false => exact p1 σ H1 (Stp.refl _ _) A1
      | true =>
        rw [if_pos rfl] at p1
        refine ⟨fun σ' H' => ∃ ρ t, At K C ρ t σ' H' ∧ SPost K W C (Fo C.F ρ σ') H' (loopW c b n ρ t) E, fun σ' H' h => ⟨n, Nat.lt_succ_self n, h⟩, C, ρ, t1, A1, ?_⟩
        cases e2 : b ρ t1 with
        | nx ρ' t2 => rw [e2] at p1; exact fun σ' H' s' A' => ⟨ρ', t2, A', SPost.rebase p1 s'⟩
        | ct ρ' t2 => rw [e2] at p1; exact fun σ' H' s' A' => ⟨ρ', t2, A', SPost.rebase p1 s'⟩
        | bk ρ' t2 => rw [e2] at p1; exact p1
        | rt d t2 => rw [e2] at p1; exact p1
        | ex n fs ρ' t2 => rw [e2] at p1; exact p1
        | bad => rw [e2] at p1; exact p1
  · exact p.elim
theorem ms_while {c : Expr} {body : List Stmt} {pos : Pos} {mc : ME τ Bool} {b : MS τ} (hp : PassesOwn (model X.prog X.w) X.A X.env X.xe) (hc : PT X c (tT X.K W mc)) (hb : PSs X body (tS X.K W b)) : PS X (.While c body [] pos) (tS X.K W (sWhile mc b)) :=
  PS.imp (ps_while hp hc hb) fun _ _ _ p => while_red p

def rIt : Rel It (List D) := fun K _ _ F _ H' J ds => ∃ (G : Hp → Prop) (Y : Nat → Hp → V → Hp → Prop), Walk J ds.length G Y ∧ (∀ H2, Sm F H' H2 → G H2) ∧
  ∀ (Fc : Fp) (i : Nat) (H2 : Hp) (x : V) (H3 : Hp), i < ds.length → Stp F H' Fc H2 → Dom Fc H2 → Y i H2 x H3 → Same H2 H3 ∧ ∃ d, ds[i]? = some d ∧ Rep K Fc H3 x d
theorem okI : RelOk rIt := ⟨fun _ _ _ _ _ _ _ _ _ _ h => h⟩
abbrev tI {τ : Type} [Sto τ] (K : Fg) (W : WX) (m : ME τ (List D)) : TI := tG rIt K W m
theorem PI.imp {tg e : Expr} {t t' : TI} (h : PI X tg e t) (i : ∀ σ H Q, t' σ H Q → t σ H Q) : PI X tg e t' := ⟨fun pins s σ H R I q => h.run pins s σ H R I (i σ H R q)⟩
def itD : D → Option (List D)
  | .lst ds => some ds
  | .tup ds => some ds
  | .scr ns => some (ns.map .int)
  | _ => none
theorem rIt_list {K : Fg} {I : Fp → Hp → Prop} {F0 F : Fp} {H H' : Hp} {a : Addr} {vs : List V} {ds : List D} (hl : LstF K F H' a vs) (r : Reps K F H' vs ds) : rIt K I F0 F H H' (Itl K a) ds := by
  have w : Walk (Itl K a) ds.length (fun H => SqL K H a vs) (YAt vs) := by rw [← r.length]; exact walk_list
  refine ⟨_, _, w, fun H2 s => (hl.step ⟨s, fun _ z => .inl z⟩).sq, fun Fc i H2 x H3 hi s dm y => ?_⟩
  obtain ⟨rfl, y⟩ := y
  obtain ⟨d, e, q⟩ := (r.step s).getV y
  exact ⟨fun _ _ e => e, d, e, q⟩
theorem rIt_scr {K : Fg} {I : Fp → Hp → Prop} {F0 F : Fp} {H H' : Hp} {a : Addr} {ns : List Int} (hl : ScrF K F H' a (ns.map V.int)) : rIt K I F0 F H H' (Itl K a) (ns.map .int) := by
  have w : Walk (Itl K a) (ns.map D.int).length (fun H => SqL K H a (ns.map V.int)) (YAt (ns.map V.int)) := by rw [List.length_map, ← List.length_map (f := V.int)]; exact walk_list
  refine ⟨_, _, w, fun H2 s => (hl.step ⟨s, fun _ z => .inl z⟩).sq, fun Fc i H2 x H3 hi s dm y => ?_⟩
  obtain ⟨rfl, y⟩ := y
  rw [List.getElem?_map] at y ⊢
  cases e : ns[i]? with
  | none => rw [e] at y; cases y
  | some n => rw [e] at y; cases y; exact ⟨fun _ _ e => e, _, rfl, .int n⟩
theorem rIt_tup {K : Fg} {I : Fp → Hp → Prop} {F0 F : Fp} {H H' : Hp} {a : Addr} {vs : List V} {ds : List D} (hl : TupF K F H' a vs) (r : Reps K F H' vs ds) : rIt K I F0 F H H' (Itt K a) ds := by
  have w : Walk (Itt K a) ds.length (fun H => SqT K H a vs) (YAt vs) := by rw [← r.length]; exact walk_tup
  refine ⟨_, _, w, fun H2 s => (hl.step ⟨s, fun _ z => .inl z⟩).sq, fun Fc i H2 x H3 hi s dm y => ?_⟩
  obtain ⟨rfl, y⟩ := y
  obtain ⟨d, e, q⟩ := (r.step s).getV y
  exact ⟨fun _ _ e => e, d, e, q⟩
def iSeq (K : Fg) (tl : TE) : TI := fun σ H R => tl σ H fun x H1 => (∃ a, x = .ref a ∧ (∃ xs, SqL K H1 a xs) ∧ R (Itl K a) H1) ∨ (∃ a, x = .ref a ∧ (∃ xs, SqT K H1 a xs) ∧ R (Itt K a) H1)
theorem pi_seq {tg l : Expr} {tl : TE} (hl : PE X l tl) : PI X tg l (iSeq X.K tl) := by
  refine ⟨fun pins s σ H R I h => ?_⟩
  refine thn (hl.run pins s σ H _ I h) fun v s1 ⟨x, H1, I1, r1, q1⟩ => ?_
  rcases q1 with ⟨a, e, ⟨xs, hq⟩, q⟩ | ⟨a, e, ⟨xs, hq⟩, q⟩
  · subst e
    cases r1
    obtain ⟨its, rv, p, hz⟩ := I1.list hq
    refine wpAny_pyIter_list p.isList ?_
    refine ⟨s1.heap.objs.size, [s1.heap.objs.size], _, _, H1, rfl, I1.kept (t' := s1.toks) fun b o e => Heap.get?_push_of_some _ e, turn_list a _, ⟨_, Heap.get?_push_size _ rfl, rfl, rfl⟩, fun b hb => ?_, q⟩
    have e : b = s1.heap.objs.size := by simpa using hb
    subst e
    exact I1.fpOk (Nat.le_refl _) (I1.hok.fresh (Nat.le_refl _))
  · subst e
    cases r1
    obtain ⟨its, rv, p, hz⟩ := I1.tuple hq
    refine wpAny_pyIter_tuple (show s1.heap.IsTuple a its.toArray from p) ?_
    refine ⟨s1.heap.objs.size, [s1.heap.objs.size], _, _, H1, rfl, I1.kept (t' := s1.toks) fun b o e => Heap.get?_push_of_some _ e, turn_tuple a _, ⟨_, Heap.get?_push_size _ rfl, rfl, rfl⟩, fun b hb => ?_, q⟩
    have e : b = s1.heap.objs.size := by simpa using hb
    subst e
    exact I1.fpOk (Nat.le_refl _) (I1.hok.fresh (Nat.le_refl _))
theorem mi_seq {tg l : Expr} {m : ME τ D} (h : PE X l (tE X.K W m)) : PI X tg l (tI X.K W (e1 itD m)) := PI.imp (pi_seq h) fun σ H R ⟨C, ρ, t, A, p⟩ => by
  refine use okI A p fun d t1 v H1 e1 s1 A1 r1 p1 => ?_
  cases d <;> first
    | exact p1.elim
    | skip
  · cases r1 with
    | tup hl r => exact .inr ⟨_, rfl, ⟨_, hl.sq⟩, p1 _ H1 (Sm.refl _ _) A1.st (rIt_tup hl r)⟩
  · cases r1 with
    | lst hl r => exact .inl ⟨_, rfl, ⟨_, hl.sq⟩, p1 _ H1 (Sm.refl _ _) A1.st (rIt_list hl r)⟩
  · cases r1 with
    | scr hl => exact .inl ⟨_, rfl, ⟨_, hl.sq⟩, p1 _ H1 (Sm.refl _ _) A1.st (rIt_scr hl)⟩
def rngD (lo : Int) (n : Nat) : List D := (List.range n).map fun i => .int (lo + (i : Nat))
theorem rIt_rng {K : Fg} {I : Fp → Hp → Prop} {F0 F : Fp} {H H' : Hp} {lo : Int} {n : Nat} : rIt K I F0 F H H' (Itr lo n) (rngD lo n) := by
  have w : Walk (Itr lo n) (rngD lo n).length (fun _ => True) (YFn fun i => .int (lo + i)) := by
    rw [show (rngD lo n).length = n by simp [rngD]]
    exact walk_range
  refine ⟨_, _, w, fun _ _ => trivial, fun Fc i H2 x H3 hi s dm y => ?_⟩
  obtain ⟨rfl, rfl⟩ := y
  have hn : i < n := by simpa [rngD] using hi
  exact ⟨fun _ _ e => e, .int (lo + i), by simp [rngD, hn], .int _⟩
def fRng1 : List D → Option (List D)
  | [.int j] => if -(2 ^ 62) ≤ j ∧ j < 2 ^ 62 then some (rngD 0 j.toNat) else none
  | _ => none
theorem mi_range1 {tg a : Expr} {p pos : Pos} {m : ME τ (List D)} (hg : Gl X "range") (hm : X.mg "range" = none) (ha : PA X [a] (tAW X.K W m)) (hs : starEach [a] X.env = [(false, eval a X.env)] := by rfl) : PI X tg (.Call (.Name "range" p) [a] [] pos) (tI X.K W (e1 fRng1 m)) :=
  PI.imp (pi_range1 hg hm ha hs) fun σ H R ⟨C, ρ, t, A, p⟩ => by
    refine use okI A p fun d t1 v H1 e1 s1 A1 r1 p1 => ?_
    unfold fRng1 at p1
    split at p1
    · rename_i j
      obtain ⟨x, rfl, rx⟩ := RepsW.one r1
      cases rx.intOf
      split at p1
      · rename_i hj
        exact ⟨j, rfl, hj.1, hj.2, p1 _ H1 (Sm.refl _ _) A1.st rIt_rng⟩
      · exact p1.elim
    · exact p1.elim
def loopF (g : Tgt) (b : MS τ) : List D → MS τ
  | [] => fun ρ t => .nx ρ t
  | d :: ds => fun ρ t => match g ρ d with
    | some ρ1 => (match b ρ1 t with
      | .nx ρ' t' => loopF g b ds ρ' t'
      | .ct ρ' t' => loopF g b ds ρ' t'
      | .bk ρ' t' => .nx ρ' t'
      | r => r)
    | none => .bad
def sFor (m : ME τ (List D)) (g : Tgt) (b : MS τ) : MS τ := sDo m fun ds ρ t => loopF g b ds ρ t
theorem for_red {m : ME τ (List D)} {g : Tgt} {vs : List Nat} {b : MS τ} {E : Ends} {σ : St} {H : Hp} (p : tS K W (sFor m g b) E σ H) : tFor (tI K W m) (tTg τ K g vs) (tS K W b) E σ H := by
  obtain ⟨C, ρ0, t0, A0, p⟩ := p
  refine useS A0 p fun ds t1 J H1 e1 s1 A1 r1 p1 => ?_
  obtain ⟨G, Y, w, hG, hY⟩ := r1
  refine for_it w (fun i σ' H' => ∃ ρ t, At K C ρ t σ' H' ∧ Stp (Fo C.F ρ0 σ) H1 (Fo C.F ρ σ') H' ∧ SPost K W C (Fo C.F ρ σ') H' (loopF g b (ds.drop i) ρ t) E) ⟨ρ0, t1, A1, Stp.refl _ _, p1⟩ ?_ ?_ ?_
  · rintro i σ' H' hi ⟨ρ, t, A, s, q⟩
    exact hG H' s.keep
  · rintro i x σ' H' H'' hi ⟨ρ, t, A, s, q⟩ y
    obtain ⟨sm, d, ed, r⟩ := hY (Fo C.F ρ σ') i H' x H'' hi s A.dom y
    have A' := A.next (Sm.of_same sm) (C.stay A.st sm)
    have dr : ds.drop i = d :: ds.drop (i + 1) := by
      obtain ⟨hl, e⟩ := List.getElem?_eq_some_iff.mp ed
      rw [List.drop_eq_getElem_cons hl, e]
    rw [dr] at q
    unfold loopF at q
    cases eg : g ρ d with
    | none => rw [eg] at q; exact q.elim
    | some ρ1 =>
      rw [eg] at q
      refine ⟨C, ρ, t, d, A', r, ρ1, eg, fun σ2 Hg _ _ s2 A2 => ⟨C, ρ1, t, A2, ?_⟩⟩
      have s02 : Stp (Fo C.F ρ σ') H' (Fo C.F ρ1 σ2) Hg := Stp.trans (Stp.of_sm (Sm.of_same (F := C.F) sm) fun _ => .inl) s2
      dsimp only at q
      cases eb : b ρ1 t with
      | nx ρ' t' => rw [eb] at q; exact fun σ3 H3 s3 A3 => ⟨ρ', t', A3, s.trans (s02.trans s3), SPost.rebase q (s02.trans s3)⟩
      | ct ρ' t' => rw [eb] at q; exact fun σ3 H3 s3 A3 => ⟨ρ', t', A3, s.trans (s02.trans s3), SPost.rebase q (s02.trans s3)⟩
      | bk ρ' t' => rw [eb] at q; exact SPost.rebase (K := K) (W := W) (E := E) (r := .nx ρ' t') q s02
      | rt v t' => rw [eb] at q; exact SPost.rebase (K := K) (W := W) (r := .rt v t') (E := E) q s02
      | ex n fs ρ' t' => rw [eb] at q; exact SPost.rebase (K := K) (W := W) (r := .ex n fs ρ' t') (E := E) q s02
      | bad => rw [eb] at q; exact q.elim
  · rintro σ' H' ⟨ρ, t, A, s, q⟩
    rw [List.drop_length] at q
    exact q σ' H' (Stp.refl _ _) A
theorem ms_for {tg iter : Expr} {body : List Stmt} {pos : Pos} {m : ME τ (List D)} {g : Tgt} {vs : List Nat} {b : MS τ} (hp : PassesOwn (model X.prog X.w) X.A X.env X.xe) (hc : X.calm = true) (hi : PI X tg iter (tI X.K W m)) (hg : PG X tg (tTg τ X.K g vs)) (hb : PSs X body (tS X.K W b))
    (hs : ∀ x, foldedSetIterable iter X.env x = pure x := by intro _; rfl) : PS X (.For tg iter body [] pos) (tS X.K W (sFor m g b)) := PS.imp (ps_for hp hc hi hg hb hs) fun _ _ _ p => for_red p
end
end MM

namespace MM
open PySem PySem.Spec PyProof.Rows L2
abbrev W0 : WX := fun _ _ _ _ => False
section
variable {X : Cx} {W : WX} {τ : Type} [Sto τ] {K : Fg}
def wipeR (ρ : Rho) : List Nat → Rho
  | [] => ρ
  | v :: vs => (wipeR ρ vs).set v .no
theorem wipeR_some {ρ : Rho} {i : Nat} {x : Slot} : ∀ {vs : List Nat}, (wipeR ρ vs)[i]? = some x → x ≠ .no → ρ[i]? = some x ∧ i ∉ vs
  | [], h, _ => ⟨h, by simp⟩
  | v :: vs, h, hn => by
    unfold wipeR at h
    rcases set_at h with ⟨_, e, _⟩ | ⟨ne, h⟩
    · exact absurd e hn
    · obtain ⟨h1, h2⟩ := wipeR_some h hn
      exact ⟨h1, by simp only [List.mem_cons, not_or]; exact ⟨fun e => ne e.symm, h2⟩⟩
theorem wipeR_length (ρ : Rho) : ∀ vs : List Nat, (wipeR ρ vs).length = ρ.length
  | [] => rfl
  | v :: vs => by unfold wipeR; rw [List.length_set, wipeR_length ρ vs]
theorem wipe_keep {σ : St} {i : Nat} : ∀ {vs : List Nat}, i ∉ vs → (wipe σ vs)[i]? = σ[i]?
  | [], _ => rfl
  | v :: vs, h => by
    simp only [List.mem_cons, not_or] at h
    unfold wipe
    rw [List.getElem?_set_ne (fun e => h.1 e.symm), wipe_keep h.2]
def noEx {α : Type} (r : Res τ α) : Res τ α := match r with
  | .ok a t => .ok a t
  | _ => .bad
def compL (g : Tgt) (tt : ME τ Bool) (te : ME τ D) (ρ : Rho) : List D → τ → Res τ (List D)
  | [], t => .ok [] t
  | d :: ds, t => match g ρ d with
    | some ρ1 => (noEx (tt ρ1 t)).bind fun b t => if b = true then (noEx (te ρ1 t)).bind fun y t => (compL g tt te ρ ds t).bind fun ys t => .ok (y :: ys) t else compL g tt te ρ ds t
    | none => .bad
theorem wipe_eq {σ σ' : St} {vs ws : List Nat} (hl : σ'.length = σ.length) (h : ∀ j, j ∉ vs → σ'[j]? = σ[j]?) (hs : ∀ j, j ∈ vs → j ∈ ws) : wipe σ' ws = wipe σ ws := by
  have wn : ∀ (τ0 : St) (us : List Nat) (j : Nat), j ∈ us → j < τ0.length → (wipe τ0 us)[j]? = some none := fun τ0 us => by
    induction us with
    | nil => intro j h; cases h
    | cons u us ih =>
      intro j hj hl
      unfold wipe
      by_cases e : u = j
      · subst e
        rw [List.getElem?_set_self (by rw [wipe_length]; exact hl)]
      · rw [List.getElem?_set_ne e]
        exact ih j ((List.mem_cons.mp hj).resolve_left fun q => e q.symm) hl
  refine List.ext_getElem? fun j => ?_
  by_cases q : j ∈ ws
  · by_cases l : j < σ.length
    · rw [wn σ' ws j q (by rw [hl]; exact l), wn σ ws j q l]
    · rw [List.getElem?_eq_none (by rw [wipe_length, hl]; omega), List.getElem?_eq_none (by rw [wipe_length]; omega)]
  · rw [wipe_keep q, wipe_keep q]
    exact h j fun z => q (hs j z)
def noOwn (ρ : Rho) (vs : List Nat) : Bool := vs.all fun v => match ρ[v]? with
  | some (.own _) => false
  | some (.dct ..) => false
  | _ => true
theorem noOwn_mine {ρ : Rho} {vs : List Nat} (hno : noOwn ρ vs = true) {j : Nat} {x : Slot} (h : ρ[j]? = some x ∧ x.mine = true) (hj : j ∈ vs) : False := by
  have z := List.all_eq_true.mp hno j hj
  rw [h.1] at z
  cases x with
  | own _ => cases z
  | dct _ _ => cases z
  | no => cases h.2
  | val _ => cases h.2
def eComp (mi : ME τ (List D)) (vs : List Nat) (g : Tgt) (tt : ME τ Bool) (te : ME τ D) : ME τ (List D) := fun ρ t => (mi ρ t).bind fun ds t => if ds.length ≤ 16777216 ∧ noOwn ρ vs = true then compL g tt te (wipeR ρ vs) ds t else .bad
theorem At.blk {C : SC τ} {ρ : Rho} {t : τ} {σ : St} {H1 H' : Hp} {D0 : Addr} {acc : HO} {vs : List Nat} {t' : τ} (A : At K C ρ t σ H1) (nD : H1 D0 = none) (s : Sm C.F H1 H') (iv : C.Iv t' (fun b => Fo C.F ρ σ b ∨ b = D0) H') (hD : H' D0 = some acc) :
    At K (C.cmp D0 acc) (wipeR ρ vs) t' (wipe σ vs) H' ∧ ∀ b, Fo (C.cmp D0 acc).F (wipeR ρ vs) (wipe σ vs) b → Fo C.F ρ σ b ∨ b = D0 := by
  have tr : ∀ {j : Nat} {x : Slot}, ((wipeR ρ vs)[j]? = some x ∧ x.mine = true) → (ρ[j]? = some x ∧ x.mine = true) ∧ j ∉ vs := fun {j x} h => by
    obtain ⟨q1, q2⟩ := wipeR_some h.1 (by intro z; rw [z] at h; cases h.2)
    exact ⟨⟨q1, h.2⟩, q2⟩
  have fo : ∀ b, Fo (C.cmp D0 acc).F (wipeR ρ vs) (wipe σ vs) b → Fo C.F ρ σ b ∨ b = D0 := fun b h => by
    rcases h with (h | h) | ⟨j, xs, h1, h2⟩
    · exact .inl (.inl h)
    · exact .inr h
    · obtain ⟨h3, h4⟩ := tr h1
      exact .inl (.inr ⟨j, xs, h3, by rw [← wipe_keep h4]; exact h2⟩)
  have sp : Stp (Fo C.F ρ σ) H1 (Fo (C.cmp D0 acc).F (wipeR ρ vs) (wipe σ vs)) H' := ⟨fun b o n e => s b o (fun z => n (.inl z)) e, fun b h => (fo b h).elim .inl fun e => .inr (by rw [e]; exact nD)⟩
  refine ⟨⟨Sto.cmp _ _ _ _ (fun z => C.dom _ _ _ _ A.st z nD) A.okC, ⟨C.less iv fo, hD⟩, by rw [wipe_length, wipeR_length, A.len], fun j d h => ?_, fun j xs h => ?_, fun i j xs ys h1 h2 e => ?_⟩, fo⟩
  · obtain ⟨h3, h4⟩ := wipeR_some h (by intro z; cases z)
    obtain ⟨v, h5, h6⟩ := A.val j d h3
    exact ⟨v, by rw [wipe_keep h4]; exact h5, h6.step sp⟩
  · obtain ⟨h3, h4⟩ := tr h
    obtain ⟨a, ws, h5, h6, h7, h8⟩ := A.mine j xs h3
    refine ⟨a, ws, by rw [wipe_keep h4]; exact h5, fun z => z.elim h6 fun e => ?_, s a _ h6 h7, h8.step sp⟩
    rw [e, nD] at h7; cases h7
  · obtain ⟨h3, h4⟩ := tr h1
    obtain ⟨h5, h6⟩ := tr h2
    rw [wipe_keep h4, wipe_keep h6] at e
    exact A.dis i j xs ys h3 h5 e
def rItO : Rel It (List D) := fun K _ F0 F _ H' J ds => ∃ (G : Hp → Prop) (Y : Nat → Hp → V → Hp → Prop), Walk J ds.length G Y ∧ (∀ H2, Sm F0 H' H2 → G H2) ∧
  ∀ (Fc : Fp) (i : Nat) (H2 : Hp) (x : V) (H3 : Hp), i < ds.length → Stp F H' Fc H2 → Dom Fc H2 → Y i H2 x H3 → Same H2 H3 ∧ ∃ d, ds[i]? = some d ∧ Rep K Fc H3 x d
abbrev tIO {τ : Type} [Sto τ] (K : Fg) (W : WX) (m : ME τ (List D)) : TI := tG rItO K W m
theorem toO {tg e : Expr} {m : ME τ (List D)} (h : PI X tg e (tI X.K W m)) : PI X tg e (tIO X.K W m) := PI.imp h fun σ H Q ⟨C, ρ, t, A, p⟩ => ⟨C, ρ, t, A, by
  cases q : m ρ t with
  | ok ds t' =>
    rw [q] at p
    exact fun J H' s i ⟨G, Y, w, hG, hY⟩ => p J H' s i ⟨G, Y, w, fun H2 s2 => hG H2 fun b o n e => s2 b o (fun z => n (.inl z)) e, hY⟩
  | ex n fs t' => rw [q] at p; exact p
  | bad => rw [q] at p; exact p⟩
theorem lc_red {mi : ME τ (List D)} {vs ws : List Nat} {g : Tgt} {tt : ME τ Bool} {te : ME τ D} {σ : St} {H : Hp} {Q : VK} (hv : ∀ j, j ∈ ws → j ∈ vs) (p : tF K W (eComp mi vs g tt te) σ H Q) : tLc (tIO K W mi) (tTg τ K g ws) (tT K W0 tt) (tE K W0 te) vs σ H Q := by
  obtain ⟨C, ρ, t0, A0, p⟩ := p
  refine use okF A0 p fun ds t1 J H1 e1 s1 A1 r1 p1 => ?_
  intro D0 nD
  split at p1
  · rename_i hlo
    obtain ⟨hlen, hno⟩ := hlo
    have own_out : ∀ (j : Nat) (x : Slot), (ρ[j]? = some x ∧ x.mine = true) → j ∉ vs := fun j x h hj => noOwn_mine hno h hj
    obtain ⟨G, Y, w, hG, hY⟩ := r1
    have nF0 : ¬ Fo C.F ρ σ D0 := fun z => A1.dom D0 z nD
    have s0 : Sm C.F H1 (upd H1 D0 (.lst [])) := Sm.of_same (same_upd nD)
    have sp0 : Stp (Fo C.F ρ σ) H1 (fun b => Fo C.F ρ σ b ∨ b = D0) (upd H1 D0 (.lst [])) := ⟨fun b o _ e => same_upd nD b o e, fun b h => h.elim .inl fun e => .inr (by rw [e]; exact nD)⟩
    refine lc_it w (fun i H' => ∃ (t : τ) (av : List V) (ad : List D), C.Iv t (fun b => Fo C.F ρ σ b ∨ b = D0) H' ∧ H' D0 = some (.lst av) ∧ Reps K (fun b => Fo C.F ρ σ b ∨ b = D0) H' av ad ∧ av.length ≤ i ∧ Sm C.F H1 H' ∧
        Post rF K W C (Fo C.F ρ σ) σ H1 ((compL g tt te (wipeR ρ vs) (ds.drop i) t).bind fun ys t => .ok (ad ++ ys) t) Q)
      ⟨t1, [], [], C.step _ _ _ _ _ A1.st (fun b o _ e => same_upd nD b o e) sp0, upd_same, .nil, Nat.le_refl _, s0, ?_⟩ ?_ ?_ ?_
    · rw [List.drop_zero]
      cases q : compL g tt te (wipeR ρ vs) ds t1 with
      | ok d t => rw [q] at p1; exact p1
      | ex n fs t => rw [q] at p1; exact p1
      | bad => rw [q] at p1; exact p1
    · rintro i H' hi ⟨t, av, ad, iv, hD, ra, hl, sm, q⟩
      exact hG H' sm
    · rintro i x H' H'' hi ⟨t, av, ad, iv, hD, ra, hl, sm, q⟩ y
      obtain ⟨AB, fo⟩ := At.blk (vs := vs) A1 nD sm iv hD
      have sp : Stp (Fo C.F ρ σ) H1 (Fo (C.cmp D0 (.lst av)).F (wipeR ρ vs) (wipe σ vs)) H' := ⟨fun b o n e => sm b o (fun z => n (.inl z)) e, fun b h => (fo b h).elim .inl fun e => .inr (by rw [e]; exact nD)⟩
      obtain ⟨sy, d, ed, r⟩ := hY _ i H' x H'' hi sp AB.dom y
      have AB2 := AB.next (Sm.of_same sy) ((C.cmp D0 (.lst av)).stay AB.st sy)
      have dr : ds.drop i = d :: ds.drop (i + 1) := by
        obtain ⟨hl, e⟩ := List.getElem?_eq_some_iff.mp ed
        rw [List.drop_eq_getElem_cons hl, e]
      rw [dr] at q
      unfold compL at q
      cases eg : g (wipeR ρ vs) d with
      | none => rw [eg] at q; exact q.elim
      | some ρ1 =>
        rw [eg] at q
        dsimp only at q
        refine ⟨C.cmp D0 (.lst av), wipeR ρ vs, t, d, AB2, r, ρ1, eg, fun σ2 Hg f2 mg s2 A2 => ⟨(wipe_eq (ws := vs) f2.1 (fun j hj => (f2.2 j hj).1) hv).trans (wipe_eq (ws := vs) (vs := vs) (wipe_length σ vs) (fun j hj => wipe_keep hj) fun _ h => h), ?_⟩⟩
        have sy : Same H' Hg := fun b o e => mg b o (sy b o e)
        have sm2 : Sm C.F H1 Hg := sm.trans (Sm.of_same sy)
        have smB : ∀ {H3 : Hp}, Sm (C.cmp D0 (.lst av)).F Hg H3 → Sm C.F H1 H3 := fun {H3} s3 b o n e => s3 b o (fun z => z.elim n fun q => by rw [q, nD] at e; cases e) (sm2 b o n e)
        have big : ∀ b, (Fo C.F ρ σ b ∨ b = D0) → Fo (C.cmp D0 (.lst av)).F ρ1 σ2 b := fun b h => by
          rcases h with (h | ⟨j, xs, h1, h2⟩) | h
          · exact .inl (.inl h)
          · have hj := own_out j xs h1
            have hj2 : j ∉ ws := fun z => hj (hv j z)
            refine .inr ⟨j, xs, ⟨?_, h1.2⟩, ?_⟩
            · rw [(f2.2 j hj2).2]
              have : ∀ us : List Nat, j ∉ us → (wipeR ρ us)[j]? = ρ[j]? := fun us => by
                induction us with
                | nil => intro _; rfl
                | cons u us ih =>
                  intro hu
                  simp only [List.mem_cons, not_or] at hu
                  unfold wipeR
                  rw [List.getElem?_set_ne (fun e => hu.1 e.symm), ih hu.2]
              rw [this vs hj]; exact h1.1
            · rw [(f2.2 j hj2).1, wipe_keep hj, h2]
          · exact .inl (.inr h)
        have raB : ∀ {H3 : Hp}, Sm (C.cmp D0 (.lst av)).F Hg H3 → Reps K (fun b => Fo C.F ρ σ b ∨ b = D0) H3 av ad := fun {H3} s3 => (ra.same (Sm.of_same sy)).same (s3.mono fun b h => h.elim (fun z => .inl (.inl z)) .inr)
        refine ⟨C.cmp D0 (.lst av), ρ1, t, A2, ?_⟩
        unfold noEx at q
        cases et : tt ρ1 t with
        | bad => rw [et] at q; exact q.elim
        | ex n fs t' => rw [et] at q; exact q.elim
        | ok c t3 =>
          rw [et] at q
          intro c' H3 s3 i3 ec
          cases ec
          cases c with
          | false =>
            rw [if_neg Bool.false_ne_true]
            exact ⟨t3, av, ad, C.less i3.1 big, i3.2, raB s3, Nat.le_succ_of_le hl, smB s3, q⟩
          | true =>
            rw [if_pos rfl]
            have A3 := A2.next s3 i3
            refine ⟨C.cmp D0 (.lst av), ρ1, t3, A3, ?_⟩
            simp only [Res.bind_ok, if_true] at q
            cases ee : te ρ1 t3 with
            | bad => rw [ee] at q; exact q.elim
            | ex n fs t' => rw [ee] at q; exact q.elim
            | ok y t4 =>
              rw [ee] at q
              intro yv H4 s4 i4 ry
              have s34 : Sm (C.cmp D0 (.lst av)).F Hg H4 := s3.trans s4
              have yB : Rep K (fun b => Fo C.F ρ σ b ∨ b = D0) H4 yv y := Rep.anti ry big
              refine ⟨av, i4.2, Nat.lt_of_le_of_lt hl (Nat.lt_of_lt_of_le hi hlen), t4, av ++ [yv], ad ++ [y], ?_, upd_same, ?_, by rw [List.length_append]; exact Nat.succ_le_succ hl, ?_, ?_⟩
              · refine C.step _ _ _ _ _ (C.less i4.1 big) (fun b o h e => ?_) ⟨fun b o n e => by rw [upd_ne (fun z => n (.inr z))]; exact e, fun b h => .inl h⟩
                rw [upd_ne (fun z => nF0 (by rw [← z]; exact .inl h))]
                exact e
              · have sp4 : Stp (fun b => Fo C.F ρ σ b ∨ b = D0) H4 (fun b => Fo C.F ρ σ b ∨ b = D0) (upd H4 D0 (.lst (av ++ [yv]))) := ⟨fun b o n e => by rw [upd_ne (fun z => n (.inr z))]; exact e, fun b h => .inl h⟩
                exact Reps.step sp4 ((raB s34).snoc yB)
              · intro b o n e
                have nb : b ≠ D0 := fun z => by rw [z, nD] at e; cases e
                rw [upd_ne nb]
                exact smB s34 b o n e
              · simp only [noEx, Res.bind_ok] at q
                cases ec : compL g tt te (wipeR ρ vs) (ds.drop (i + 1)) t4 with
                | ok zs t5 => rw [ec] at q; simp only [Res.bind_ok, List.append_assoc, List.singleton_append] at q ⊢; exact q
                | ex n fs t5 => rw [ec] at q; exact q
                | bad => rw [ec] at q; exact q
    · rintro H' ⟨t, av, ad, iv, hD, ra, hl, sm, q⟩
      rw [List.drop_length] at q
      simp only [compL, Res.bind_ok, List.append_nil] at q
      exact q (.ref D0) H' sm (C.less iv fun _ => .inl) ⟨D0, av, rfl, nF0, nD, hD, ra, iv⟩
  · exact p1.elim
theorem mf_lc {elt tg iter : Expr} {ifs : List Expr} {scope : Scope} {own : List (Str × Nat)} {ws : List Nat} {pos : Pos} {mi : ME τ (List D)} {g : Tgt} {tt : ME τ Bool} {te : ME τ D} (hc : X.calm = true) (hN : X.N.Nodup) (hi : PI X tg iter (tIO X.K W mi)) (ok : BlkOk X.N X.env.scope scope own)
    (hv : ∀ j, j ∈ ws → j ∈ own.map (·.2))
    (hg : ∀ (s : Shared) (H : Hp) (C : Addr) (cl : List (Str × Addr)) (fp : List Addr), PG (X.blk s H scope (compEnvC scope cl C X.env) fp) tg (tTg τ X.K g ws)) (ht : ∀ (s : Shared) (H : Hp) (C : Addr) (cl : List (Str × Addr)) (fp : List Addr), PTs (X.blk s H scope (compEnvC scope cl C X.env) fp) ifs (tT X.K W0 tt))
    (he : ∀ (s : Shared) (H : Hp) (C : Addr) (cl : List (Str × Addr)) (fp : List Addr), PE (X.blk s H scope (compEnvC scope cl C X.env) fp) elt (tE X.K W0 te)) (hs : ∀ x, foldedSetIterable iter X.env x = pure x := by intro _; rfl) :
    PE X (.ListComp elt [⟨tg, iter, ifs, 0⟩] scope pos) (tF X.K W (eComp mi (own.map (·.2)) g tt te)) := PE.imp (pe_lc hc hN hi ok hg ht he hs) fun _ _ _ p => lc_red hv p
theorem mts_one {c : Expr} {m : ME τ Bool} (h : PT X c (tT X.K W m)) : PTs X [c] (tT X.K W m) := pts_one h
end

section
variable {τ : Type} [Sto τ]
def FPost (K : Fg) (C : SC τ) (H : Hp) (r : Res τ D) (Q : VK) (E : XK) : Prop := match r with
  | .ok d t' => ∀ v H', Sm C.F H H' → C.Iv t' C.F H' → Rep K C.F H' v d → Q v H'
  | .ex n fs t' => ∀ cls dd H', Sm C.F H H' → C.Iv t' C.F H' → XRep K C.F H' n fs cls dd → E cls dd H'
  | .bad => False
def spF (np : Nat) (K : Fg) (m : List D → τ → Res τ D) : Sp := fun vs H Q E => ∃ (C : SC τ) (ds : List D) (t : τ), Sto.ok K C ∧ C.Iv t C.F H ∧ Reps K C.F H vs ds ∧ ds.length = np ∧ FPost K C H (m ds t) Q E
def runB (n : Nat) (mb : MS τ) : List D → τ → Res τ D := fun ds t => match mb (ds.map Slot.val ++ List.replicate (n - ds.length) .no) t with
  | .nx _ t' => .ok .non t'
  | .rt d t' => .ok d t'
  | .ex n fs _ t' => .ex n fs t'
  | _ => .bad
theorem noOwnStart {ds : List D} {n i : Nat} {x : Slot} : ¬ ((ds.map Slot.val ++ List.replicate n Slot.no)[i]? = some x ∧ x.mine = true) := fun ⟨h, hm⟩ => by
  rw [List.getElem?_append] at h
  split at h
  · rw [List.getElem?_map] at h
    cases e : ds[i]? with
    | none => rw [e] at h; cases h
    | some d => rw [e] at h; cases h; cases hm
  · rw [List.getElem?_replicate] at h
    split at h
    · cases h; cases hm
    · cases h
theorem FoStart {F : Fp} {ds : List D} {n : Nat} {σ : St} {b : Addr} (h : Fo F (ds.map Slot.val ++ List.replicate n .no) σ b) : F b := by
  rcases h with h | ⟨i, xs, h1, _⟩
  · exact h
  · exact absurd h1 noOwnStart
theorem At.start {K : Fg} {C : SC τ} {N : List Str} {vs : List V} {ds : List D} {t : τ} {H : Hp} (okC : Sto.ok K C) (iv : C.Iv t C.F H) (r : Reps K C.F H vs ds) (hl : ds.length ≤ N.length) : At K C (ds.map Slot.val ++ List.replicate (N.length - ds.length) .no) t (start N vs) H where
  okC := okC
  st := C.less iv fun _ => FoStart
  len := by
    unfold L2.start
    rw [List.length_append, List.length_append, List.length_map, List.length_map, List.length_replicate, List.length_replicate, r.length]
  val := fun i d h => by
    rw [List.getElem?_append] at h
    split at h
    · rename_i hi
      rw [List.getElem?_map] at h
      cases e : ds[i]? with
      | none => rw [e] at h; cases h
      | some d' =>
        rw [e] at h
        cases h
        obtain ⟨v, h1, h2⟩ := r.get e
        refine ⟨v, ?_, h2.anti fun _ => FoStart⟩
        unfold L2.start
        rw [List.getElem?_append_left (by rw [List.length_map]; exact (List.getElem?_eq_some_iff.mp h1).1), List.getElem?_map, h1]
        rfl
    · rw [List.getElem?_replicate] at h
      split at h <;> cases h
  mine := fun i xs h => absurd h noOwnStart
  dis := fun i j xs ys h => absurd h noOwnStart
theorem fn_mk {P : Program} {w : World} {K : Fg} {mg : Str → Option Value} {base : Heap} {x qual : Str} {params : Arguments} {body : List Stmt} {scope : Scope} {dvs : List V} {kws : List (Str × V)} {f : Addr} {fd : FuncData} {N ps : List Str} {k : Nat}
    (F : FunD K x qual params body scope dvs kws f fd) (S : FnScope N ps scope) (mb : MS τ)
    (hb : ∀ (cdv : Value) (A : Around) (outer : List Env) (s : Shared) (H : Hp) (E : XK), Room k (A.deeper (envOfC qual scope s.heap.objs.size f cdv)) →
      PSs (cxOf (L2.CX P w) P w K mg base N qual scope f cdv A outer s H E) body (tS K (fun cls d _ H => E cls d H) mb)) : FnOk P w K mg base (L2.CX P w) (k + 1) f fd ps (spF ps.length K (runB N.length mb)) := by
  have hpl : ps.length ≤ N.length := by have := congrArg List.length S.pre; rw [List.length_take] at this; omega
  refine F.ok S (fun vs H Q E ⟨C, ds, t, _, _, r, hl, _⟩ => r.length.trans hl) fun cdv A outer s H vs Q E hr ⟨C, ds, t, okC, iv, r, hl, p⟩ => ⟨_, hb cdv A outer s H E hr, C, _, t, At.start okC iv r (by rw [hl]; exact hpl), ?_⟩
  unfold runB at p
  cases e : mb (ds.map Slot.val ++ List.replicate (N.length - ds.length) .no) t with
  | nx ρ' t' =>
    rw [e] at p
    exact fun σ' H' s' A' => p .non H' (fun b o n e => s'.keep b o (fun z => n (FoStart z)) e) (C.less A'.st fun _ => .inl) .non
  | rt d t' =>
    rw [e] at p
    exact fun v H' s' i r => p v H' (fun b o n e => s' b o (fun z => n (FoStart z)) e) i r
  | ex n fs ρ' t' =>
    rw [e] at p
    exact fun cls dd σ' H' s' A' x => p cls dd H' (fun b o n e => s'.keep b o (fun z => n (FoStart z)) e) (C.less A'.st fun _ => .inl) (x.anti fun _ => .inl)
  | bk ρ' t' => rw [e] at p; exact p.elim
  | ct ρ' t' => rw [e] at p; exact p.elim
  | bad => rw [e] at p; exact p.elim

structure Def (P : Program) (w : World) (K : Fg) (mg : Str → Option Value) (base : Heap) (k : Nat) (x : Str) (np : Nat) (df : List D) (m : List D → τ → Res τ D) : Prop where
  ex : ∃ (fd : FuncData) (ps : List Str) (ds : List Value) (dvs : List V), FnOk P w K mg base (L2.CX P w) k (He.ga K x) fd ps (spF np K m) ∧ mg x = some (.ref (He.ga K x)) ∧ PySem.W.keepIn K (.ref (He.ga K x)) = true ∧ Binds K fd ps ds ∧ Vals dvs ds ∧ (∀ F H, Reps K F H dvs df)

section
variable {X : Cx} {W : WX} {σc : Type}
def ALen {α : Type} (a : ME τ (List α)) (n : Nat) : Prop := ∀ ρ t ds t', a ρ t = .ok ds t' → ds.length = n
theorem alen_nil {α : Type} : ALen (aNil (τ := τ) (α := α)) 0 := fun _ _ _ _ e => by cases e; rfl
theorem alen_cons {α : Type} {a : ME τ α} {b : ME τ (List α)} {n : Nat} (h : ALen b n) : ALen (aCons a b) (n + 1) := fun ρ t ds t' e => by
  unfold aCons at e
  cases e1 : a ρ t with
  | ok d t1 =>
    rw [e1, Res.bind_ok] at e
    cases e2 : b ρ t1 with
    | ok es t2 =>
      rw [e2, Res.bind_ok] at e
      cases e
      show es.length + 1 = n + 1
      rw [h _ _ _ _ e2]
    | ex n fs t2 => rw [e2] at e; cases e
    | bad => rw [e2] at e; cases e
  | ex n fs t1 => rw [e1] at e; cases e
  | bad => rw [e1] at e; cases e
def eCall (m : List D → Unit → Res Unit D) (df : List D) (a : ME τ (List D)) : ME τ D := fun ρ t => (a ρ t).bind fun ds t => match m (ds ++ df) () with
  | .ok d _ => .ok d t
  | .ex n fs _ => .ex n fs t
  | .bad => .bad
def SC.pure (F : Fp) (H1 : Hp) (dm : Dom F H1) : SC Unit where
  F := F
  Iv := fun _ G H' => Stp F H1 G H' ∧ ∀ b o, F b → H1 b = some o → H' b = some o
  dom := fun _ G H' b h hb => by
    cases e : H1 b with
    | none => exact absurd e (dm b hb)
    | some o => rw [h.2 b o hb e]; intro z; cases z
  step := fun _ G H G' H' h1 h2 s => ⟨h1.1.trans s, fun b o hb e => h2 b o hb (h1.2 b o hb e)⟩
theorem SC.pure_same {F : Fp} {H1 : Hp} {dm : Dom F H1} {G : Fp} {H' : Hp} (h : (SC.pure F H1 dm).Iv () G H') : Same H1 H' := fun b o e => by
  by_cases q : F b
  · exact h.2 b o q e
  · exact h.1.keep b o q e
theorem call_red {np j : Nat} {K : Fg} {m : List D → Unit → Res Unit D} {df : List D} {dvs : List V} {a : ME τ (List D)} {σ : St} {H : Hp} {Q : VK} (hd : ∀ F H, Reps K F H dvs df) (hn : ALen a j) (hj : j + df.length = np) (p : tE K W (eCall m df a) σ H Q) :
    tCallSD (spF np K m) dvs (WE W) (tA K W a) σ H Q := by
  obtain ⟨C, ρ, t, A, p⟩ := p
  refine use okE A p fun ds t1 vs H1 e1 s1 A1 r1 p1 => ?_
  refine ⟨SC.pure (Fo C.F ρ σ) H1 A1.dom, ds ++ df, (), trivial, ⟨Stp.refl _ _, fun _ _ _ e => e⟩, Reps.append r1 (hd _ _), by rw [List.length_append, hn _ _ _ _ e1, hj], ?_⟩
  cases e : m (ds ++ df) () with
  | ok d u =>
    rw [e] at p1
    exact fun v H' s i r => p1 v H' (Sm.of_same (SC.pure_same i)) (C.stay A1.st (SC.pure_same i)) r
  | ex n fs u =>
    rw [e] at p1
    exact fun cls dd H' s i x => p1 cls dd H' (Sm.of_same (SC.pure_same i)) (C.stay A1.st (SC.pure_same i)) x
  | bad =>
    rw [e] at p1
    exact p1.elim
theorem me_call {k np j : Nat} {x : Str} {df : List D} {m : List D → Unit → Res Unit D} {e : Expr} {es : List Expr} {p pos : Pos} {a : ME τ (List D)} (Df : Def X.prog X.w X.K X.mg X.base k x np df m) (hr : Room k X.A) (tk : Takes X W) (hg : Gl X x) (hn : ALen a j)
    (ha : PA X (e :: es) (tA X.K W a)) (hdb : (x == ("__debug__" : Str)) = false := by decide) (hj : j + df.length = np := by rfl) (he : starEach (e :: es) X.env = (false, eval e X.env) :: starEach es X.env := by rfl) (hpl : (backTo pos (starEach es X.env)).any (·.1) = false := by rfl) :
    PE X (.Call (.Name x p) (e :: es) [] pos) (tE X.K W (eCall m df a)) := by
  obtain ⟨fd, ps, ds, dvs, F, hm, hk, hb, hd, hdf⟩ := Df.ex
  exact PE.imp (pe_callSD F hr hg hm hk hb hd (fun σ => passAt tk σ) ha hdb he hpl) fun _ _ _ p => call_red hdf hn hj p
def eCallS (m : List D → τ → Res τ D) (df : List D) (a : ME τ (List D)) : ME τ D := fun ρ t => (a ρ t).bind fun ds t => m (ds ++ df) t
theorem SC.ov_sm {C : SC τ} {F : Fp} {H1 : Hp} {hF : ∀ b, C.F b → F b} {dm : Dom F H1} {t : τ} {G : Fp} {H' : Hp} (h : (SC.ov C F H1 hF dm).Iv t G H') : Sm C.F H1 H' := fun b o n e => by
  by_cases q : F b
  · exact h.2.2 b o q n e
  · exact h.2.1.keep b o q e
theorem callS_red {np j : Nat} {K : Fg} {m : List D → τ → Res τ D} {df : List D} {dvs : List V} {a : ME τ (List D)} {σ : St} {H : Hp} {Q : VK} (hd : ∀ F H, Reps K F H dvs df) (hn : ALen a j) (hj : j + df.length = np) (p : tE K W (eCallS m df a) σ H Q) :
    tCallSD (spF np K m) dvs (WE W) (tA K W a) σ H Q := by
  obtain ⟨C, ρ, t, A, p⟩ := p
  refine use okE A p fun ds t1 vs H1 e1 s1 A1 r1 p1 => ?_
  refine ⟨SC.ov C (Fo C.F ρ σ) H1 (fun _ => Fo.base) A1.dom, ds ++ df, t1, Sto.ov _ _ _ _ _ _ A1.okC, ⟨A1.st, Stp.refl _ _, fun _ _ _ _ e => e⟩, Reps.append r1 (hd _ _), by rw [List.length_append, hn _ _ _ _ e1, hj], ?_⟩
  cases e : m (ds ++ df) t1 with
  | ok d u =>
    rw [e] at p1
    exact fun v H' s i r => p1 v H' (SC.ov_sm i) i.1 r
  | ex n fs u =>
    rw [e] at p1
    exact fun cls dd H' s i x => p1 cls dd H' (SC.ov_sm i) i.1 x
  | bad =>
    rw [e] at p1
    exact p1.elim
theorem me_callS {k np j : Nat} {x : Str} {df : List D} {m : List D → τ → Res τ D} {e : Expr} {es : List Expr} {p pos : Pos} {a : ME τ (List D)} (Df : Def X.prog X.w X.K X.mg X.base k x np df m) (hr : Room k X.A) (tk : Takes X W) (hg : Gl X x) (hn : ALen a j)
    (ha : PA X (e :: es) (tA X.K W a)) (hdb : (x == ("__debug__" : Str)) = false := by decide) (hj : j + df.length = np := by rfl) (he : starEach (e :: es) X.env = (false, eval e X.env) :: starEach es X.env := by rfl) (hpl : (backTo pos (starEach es X.env)).any (·.1) = false := by rfl) :
    PE X (.Call (.Name x p) (e :: es) [] pos) (tE X.K W (eCallS m df a)) := by
  obtain ⟨fd, ps, ds, dvs, F, hm, hk, hb, hd, hdf⟩ := Df.ex
  exact PE.imp (pe_callSD F hr hg hm hk hb hd (fun σ => passAt tk σ) ha hdb he hpl) fun _ _ _ p => callS_red hdf hn hj p

def sRaise (n : Str) : MS τ := fun ρ t => .ex n none ρ t
theorem ms_raise {e : Expr} {n : Str} {pos : Pos} (hc : X.calm = true) (tk : Takes X W) (h : PMk X e (fun _ H Q => Q (.ref (He.ga X.K n)) none H)) : PS X (.Raise (some e) none pos) (tS X.K W (sRaise (τ := τ) n)) := PS.imp (ps_raise hc tk h) fun E σ H ⟨C, ρ, t, A, p⟩ =>
  p _ _ σ H (Stp.refl _ _) A ⟨rfl, rfl⟩
end
end
end MM

namespace MM
open PySem PySem.Spec PyProof.Rows L2
section
variable {X : Cx} {K : Fg}
theorem DOp2.int0 {g : Int → Int → V} {f : Int → Int → D} (h : ∀ i j F H, Rep K F H (g i j) (f i j)) : DOp2 K (rI0 g) (fun d e => match d, e with
    | .int i, .int j => some (f i j)
    | _, _ => none) := fun F0 F H x y d e z Q dm rx ry q k => by
  dsimp only at q
  split at q
  · cases q
    exact ⟨_, _, rx.intOf, ry.intOf, k _ _ (Same.refl H) (h _ _ _ _)⟩
  · cases q
theorem DOp2.intC {g : Int → Int → V} {f : Int → Int → D} {C : Int → Int → Prop} {c : Int → Int → Bool} (hc : ∀ i j, c i j = true → C i j) (h : ∀ i j F H, c i j = true → Rep K F H (g i j) (f i j)) : DOp2 K (rI C g) (fun d e => match d, e with
    | .int i, .int j => if c i j = true then some (f i j) else none
    | _, _ => none) := fun F0 F H x y d e z Q dm rx ry q k => by
  dsimp only at q
  split at q
  · split at q
    · rename_i hcc
      cases q
      exact ⟨_, _, rx.intOf, ry.intOf, hc _ _ hcc, k _ _ (Same.refl H) (h _ _ _ _ hcc)⟩
    · cases q
  · cases q
def mulOk (i j : Int) : Bool := decide (i.natAbs.log2 + j.natAbs.log2 < 1000000)
def divOk (_ j : Int) : Bool := decide (j ≠ 0 ∧ j.natAbs.log2 < 9000)
def modOk (_ j : Int) : Bool := decide (j ≠ 0)
def powOk (i j : Int) : Bool := decide (0 ≤ j ∧ j ≤ 1000000 ∧ i.natAbs < 2 ^ 64)
def dSub : D → D → Option D := fun d e => match d, e with
  | .int i, .int j => some (.int (i - j))
  | _, _ => none
def dMulI : D → D → Option D := fun d e => match d, e with
  | .int i, .int j => if mulOk i j = true then some (.int (i * j)) else none
  | _, _ => none
def dDiv : D → D → Option D := fun d e => match d, e with
  | .int i, .int j => if divOk i j = true then some (.int (i.fdiv j)) else none
  | _, _ => none
def dMod : D → D → Option D := fun d e => match d, e with
  | .int i, .int j => if modOk i j = true then some (.int (i.fmod j)) else none
  | _, _ => none
def dPow : D → D → Option D := fun d e => match d, e with
  | .int i, .int j => if powOk i j = true then some (.int (i ^ j.toNat)) else none
  | _, _ => none
theorem o_sub : DOp2 K (rI0 fun i j => .int (i - j)) dSub := DOp2.int0 fun _ _ _ _ => .int _
theorem o_mul : DOp2 K (rI CMulW fun i j => .int (i * j)) dMulI := DOp2.intC (fun i j h => (of_decide_eq_true h : i.natAbs.log2 + j.natAbs.log2 < 1000000)) fun _ _ _ _ _ => .int _
def CDivB (_ j : Int) : Prop := j ≠ 0 ∧ j.natAbs.log2 < 9000
theorem op_fdivB : OpR X (binaryOp .FloorDiv) (rI CDivB fun i j => .int (i.fdiv j)) := opI fun i j _ _ _ _ _ hc q => floordiv_int hc.1 q (.inl (PyProof.noPylong_of_log2 hc.2))
theorem o_div : DOp2 K (rI CDivB fun i j => .int (i.fdiv j)) dDiv := DOp2.intC (fun i j h => (of_decide_eq_true h : j ≠ 0 ∧ j.natAbs.log2 < 9000)) fun _ _ _ _ _ => .int _
theorem o_mod : DOp2 K (rI (fun _ j => j ≠ 0) fun i j => .int (i.fmod j)) dMod := DOp2.intC (fun i j h => of_decide_eq_true h) fun _ _ _ _ _ => .int _
theorem o_pow : DOp2 K (rI CPow fun i j => .int (i ^ j.toNat)) dPow := DOp2.intC (fun i j h => (of_decide_eq_true h : 0 ≤ j ∧ j ≤ 1000000 ∧ i.natAbs < 2 ^ 64)) fun _ _ _ _ _ => .int _
def dLt : D → D → Option D := fun d e => match d, e with
  | .int i, .int j => some (.bl (decide (i < j)))
  | _, _ => none
def dGt : D → D → Option D := fun d e => match d, e with
  | .int i, .int j => some (.bl (decide (j < i)))
  | _, _ => none
def dGe : D → D → Option D := fun d e => match d, e with
  | .int i, .int j => some (.bl (decide (j ≤ i)))
  | _, _ => none
theorem o_lt : DOp2 K (rI0 fun i j => .bl (decide (i < j))) dLt := DOp2.int0 fun _ _ _ _ => .bl _
theorem o_gt : DOp2 K (rI0 fun i j => .bl (decide (j < i))) dGt := DOp2.int0 fun _ _ _ _ => .bl _
theorem o_ge : DOp2 K (rI0 fun i j => .bl (decide (j ≤ i))) dGe := DOp2.int0 fun _ _ _ _ => .bl _
def lim2 (n : Nat) : Bool := decide (n ≤ 16777216)
def dAdd : D → D → Option D := fun d e => match d, e with
  | .int i, .int j => some (.int (i + j))
  | .str x, .str y => if lim2 (x.length + y.length) = true then some (.str (x ++ y)) else none
  | .lst xs, .lst ys => if lim2 (xs.length + ys.length) = true then some (.lst (xs ++ ys)) else none
  | .tup xs, .tup ys => if lim2 (xs.length + ys.length) = true then some (.tup (xs ++ ys)) else none
  | _, _ => none
theorem lim2_le {n : Nat} (h : lim2 n = true) : n ≤ sizeLine := of_decide_eq_true h
theorem Inv.lstR {pins : List (Addr × Obj)} {σ : L2.St} {H : Hp} {s : Shared} {l : Addr} {xs : List V} (I : Inv X pins σ H s) (hH : LsR X.K H l xs) : xs.length ≤ sizeLine ∧ ∃ (its : List Value) (n : Nat), Vals xs its ∧ xs.length = its.length ∧ s.heap.get? l = some { cls := .type "list", data := .seq its.toArray n } := by
  obtain ⟨z, its, n, r, e⟩ := hH.ok I.hok
  exact ⟨z, its, n, r, r.length, e⟩
def rCatL (K : Fg) : R2 := fun x y H Q => ∃ l b xs zs, x = .ref l ∧ y = .ref b ∧ LsR K H l xs ∧ LsR K H b zs ∧ xs.length + zs.length ≤ sizeLine ∧ ∀ p, H p = none → Q (.ref p) (upd H p (.lst (xs ++ zs)))
theorem op_catL : OpR X (binaryOp .Add) (rCatL X.K) := by
  intro pins s σ H x y v u Q I rx ry h
  obtain ⟨l, b, xs, zs, rfl, rfl, hH, hB, hz, q⟩ := h
  cases rx
  cases ry
  obtain ⟨z, its, n, r, hl, e⟩ := Inv.lstR I hH
  obtain ⟨z2, its2, n2, r2, hl2, e2⟩ := Inv.lstR I hB
  refine PySem.P.add_list e e2 ?_ (by rw [List.size_toArray, List.size_toArray]; omega)
  have ea : its.toArray ++ its2.toArray = (its ++ its2).toArray := by simp
  rw [ea]
  exact ⟨.ref _, _, I.lnew (t' := s.toks) (r.append r2) (by rw [List.length_append]; omega), rfl, q _ I.fresh⟩
def rAdd4 (K : Fg) : R2 := fun x y H Q => rI0 (fun i j => V.int (i + j)) x y H Q ∨ (fun x y H Q => (∃ i j, x = .str i ∧ y = .str j ∧ i.length + j.length ≤ sizeLine ∧ Q (.str (i ++ j)) H) ∨ (fun x y H Q => rCatL K x y H Q ∨ rCatA K x y H Q) x y H Q) x y H Q
theorem op_add4 : OpR X (binaryOp .Add) (rAdd4 X.K) := op_add.or (op_add_str.or (op_catL.or op_catA))
theorem o_add : DOp2 K (rAdd4 K) dAdd := fun F0 F H x y d e z Q dm rx ry q k => by
  unfold dAdd at q
  split at q
  · cases q
    exact .inl ⟨_, _, rx.intOf, ry.intOf, k _ _ (Same.refl H) (.int _)⟩
  · split at q
    · rename_i hl
      cases q
      exact .inr (.inl ⟨_, _, rx.strOf, ry.strOf, lim2_le hl, k _ _ (Same.refl H) (.str _)⟩)
    · cases q
  · split at q
    · rename_i hl
      cases q
      obtain ⟨a, vs, rfl, h1, r1⟩ := rx.lstOf
      obtain ⟨b, ws, rfl, h2, r2⟩ := ry.lstOf
      exact .inr (.inr (.inl ⟨a, b, vs, ws, rfl, rfl, h1, h2, by rw [r1.length, r2.length]; exact lim2_le hl, fun p np => k _ _ (same_upd np) (Rep.newLst (r1.append r2) dm np)⟩))
    · cases q
  · split at q
    · rename_i hl
      cases q
      obtain ⟨a, vs, rfl, h1, r1⟩ := rx.tupOf
      obtain ⟨b, ws, rfl, h2, r2⟩ := ry.tupOf
      refine .inr (.inr (.inr ⟨a, b, vs, ws, rfl, rfl, h1.sq, h2.sq, by rw [r1.length, r2.length]; exact lim2_le hl, fun e => ?_, fun _ e => ?_, fun _ _ p np => k _ _ (same_upd np) (Rep.newTup (r1.append r2) dm np)⟩))
      · subst e
        cases r1
        exact k _ _ (Same.refl H) (.tup h2 r2)
      · subst e
        cases r2
        rw [List.append_nil] at k
        exact k _ _ (Same.refl H) (.tup h1 r1)
    · cases q
  · cases q
def dIx : D → D → Option D := fun d e => match d, e with
  | .lst ds, .int i => atI ds i
  | .tup ds, .int i => atI ds i
  | .scr ns, .int i => (atI ns i).map .int
  | .str z, .int i => if lim2 z.length = true then (atI z.cps.toList i).map fun c => .str ⟨#[c]⟩ else none
  | _, _ => none
theorem Reps.atI {F : Fp} {H : Hp} {vs : List V} {ds : List D} {i : Int} {d : D} (r : Reps K F H vs ds) (h : L2.atI ds i = some d) : ∃ v, L2.atI vs i = some v ∧ Rep K F H v d := by
  unfold L2.atI at h ⊢
  rw [r.length]
  cases e : ixN ds.length i with
  | none => rw [e] at h; cases h
  | some j =>
    rw [e] at h
    exact r.get h
theorem o_ix : DOp2 K (rIx K) dIx := fun F0 F H x y d e z Q dm rx ry q k => by
  unfold dIx at q
  split at q
  · obtain ⟨a, vs, rfl, h1, r1⟩ := rx.lstOf
    obtain ⟨v, h2, r2⟩ := r1.atI q
    exact .inl ⟨a, vs, _, v, rfl, ry.intOf, h1.sq, h2, k _ _ (Same.refl H) r2⟩
  · obtain ⟨a, vs, rfl, h1, r1⟩ := rx.tupOf
    obtain ⟨v, h2, r2⟩ := r1.atI q
    exact .inr (.inl ⟨a, vs, _, v, rfl, ry.intOf, h1.sq, h2, k _ _ (Same.refl H) r2⟩)
  · obtain ⟨a, rfl, h1⟩ := rx.scrOf
    rename_i ns i
    cases e : L2.atI ns i with
    | none => rw [e] at q; cases q
    | some n =>
      rw [e] at q
      cases q
      refine .inl ⟨a, _, _, .int n, rfl, ry.intOf, h1.sq, ?_, k _ _ (Same.refl H) (.int n)⟩
      unfold L2.atI at e ⊢
      rw [List.length_map]
      cases e2 : ixN ns.length i with
      | none => rw [e2] at e; cases e
      | some j =>
        rw [e2] at e
        have e' : ns[j]? = some n := e
        show (ns.map V.int)[j]? = some (V.int n)
        rw [List.getElem?_map, e']
        rfl
  · split at q
    · rename_i zs i hl
      cases e : atI zs.cps.toList i with
      | none => rw [e] at q; cases q
      | some c =>
        rw [e] at q
        cases q
        exact .inr (.inr ⟨_, _, c, rx.strOf, ry.intOf, lim2_le hl, e, k _ _ (Same.refl H) (.str _)⟩)
    · cases q
  · cases q
mutual
def py : D → Option PyData
  | .non => some .none
  | .bl b => some (.bool b)
  | .int i => some (.int i)
  | .str x => some (.str x)
  | .tup ds => (pys ds).map .tuple
  | .lst ds => (pys ds).map .list
  | _ => none
def pys : List D → Option (List PyData)
  | [] => some []
  | d :: ds => (py d).bind fun p => (pys ds).map (p :: ·)
end
mutual
theorem dp_of {F0 F : Fp} {H : Hp} : ∀ {d : D} {v : V} {p : PyData}, Rep K F H v d → py d = some p → Dp K H v p
  | .non, _, _, .non, e => by unfold py at e; cases e; exact .non
  | .bl b, _, _, .bl _, e => by unfold py at e; cases e; exact .bl b
  | .int b, _, _, .int _, e => by unfold py at e; cases e; exact .int b
  | .str b, _, _, .str _, e => by unfold py at e; cases e; exact .str b
  | .tup ds, _, _, .tup h r, e => by
    unfold py at e
    cases q : pys ds with
    | none => rw [q] at e; cases e
    | some ps => rw [q] at e; cases e; exact .tup h.sq (dps_of (F0 := F0) r q)
  | .lst ds, _, _, .lst h r, e => by
    unfold py at e
    cases q : pys ds with
    | none => rw [q] at e; cases e
    | some ps => rw [q] at e; cases e; exact .lst h.sq (dps_of (F0 := F0) r q)
theorem dps_of {F0 F : Fp} {H : Hp} : ∀ {ds : List D} {vs : List V} {ps : List PyData}, Reps K F H vs ds → pys ds = some ps → DpAll K H vs ps
  | [], _, _, .nil, e => by unfold pys at e; cases e; exact .nil
  | d :: ds, _, _, .cons r t, e => by
    unfold pys at e
    cases q : py d with
    | none => rw [q] at e; cases e
    | some p =>
      rw [q] at e
      cases q2 : pys ds with
      | none =>
        have e' : (pys ds).map (p :: ·) = some _ := e
        rw [q2] at e'
        cases e'
      | some ps =>
        have e' : (pys ds).map (p :: ·) = some _ := e
        rw [q2] at e'
        cases e'
        exact .cons (dp_of (F0 := F0) r q) (dps_of (F0 := F0) t q2)
end
theorem RepW.dp {F0 F : Fp} {H : Hp} {d : D} {v : V} {p : PyData} (r : RepW K F0 F H v d) (e : py d = some p) : Dp K H v p := by
  cases r with
  | of r => exact dp_of (F0 := F0) r e
  | dct n h r => unfold py at e; cases e
  | lst h r =>
    unfold py at e
    rename_i a vs ds
    cases q : pys ds with
    | none => rw [q] at e; cases e
    | some ps => rw [q] at e; cases e; exact .lst h.sq (dps_of (F0 := F0) r q)
def eqD (d e : D) : Option Bool := match py d, py e with
  | some p, some q => if SeqAt.shaped p = true ∧ SeqAt.shaped q = true then some (PyData.eqv p q) else none
  | _, _ => none
def dEq : D → D → Option D := fun d e => (eqD d e).map .bl
def dNe : D → D → Option D := fun d e => (eqD d e).map fun b => .bl (!b)
theorem eqD_of {d e : D} {b : Bool} (h : eqD d e = some b) : ∃ p q, py d = some p ∧ py e = some q ∧ SeqAt.shaped p = true ∧ SeqAt.shaped q = true ∧ b = PyData.eqv p q := by
  unfold eqD at h
  split at h
  · rename_i p q h1 h2
    split at h
    · rename_i hs
      cases h
      exact ⟨p, q, h1, h2, hs.1, hs.2, rfl⟩
    · cases h
  · cases h
theorem o_eq : DOp2 K (rEqD K) dEq := fun F0 F H x y d e z Q dm rx ry q k => by
  unfold dEq at q
  cases h : eqD d e with
  | none => rw [h] at q; cases q
  | some b =>
    rw [h] at q
    cases q
    obtain ⟨p, p2, h1, h2, h3, h4, rfl⟩ := eqD_of h
    exact ⟨p, p2, rx.dp h1, ry.dp h2, h3, h4, k _ _ (Same.refl H) (.bl _)⟩
theorem o_ne : DOp2 K (rNeD K) dNe := fun F0 F H x y d e z Q dm rx ry q k => by
  unfold dNe at q
  cases h : eqD d e with
  | none => rw [h] at q; cases q
  | some b =>
    rw [h] at q
    cases q
    obtain ⟨p, p2, h1, h2, h3, h4, rfl⟩ := eqD_of h
    exact ⟨p, p2, rx.dp h1, ry.dp h2, h3, h4, k _ _ (Same.refl H) (.bl _)⟩
def isN : D → Bool
  | .non => true
  | _ => false
theorem RepW.isN {F0 F : Fp} {H : Hp} {d : D} {v : V} (r : RepW K F0 F H v d) : decide (v = .non) = MM.isN d := by
  cases r with
  | of r => cases r <;> rfl
  | lst h r => rfl
  | dct n h r => rfl
def dIs : D → D → Option D := fun d e => match e with
  | .non => some (.bl (isN d))
  | _ => none
theorem o_is : DOp2 K (fun x y H Q => y = .non ∧ Q (.bl (decide (x = .non))) H) dIs := fun F0 F H x y d e z Q dm rx ry q k => by
  unfold dIs at q
  split at q
  · cases q
    exact ⟨ry.nonOf, by rw [rx.isN]; exact k _ _ (Same.refl H) (.bl _)⟩
  · cases q
def dNeg : D → Option D
  | .int i => some (.int (-i))
  | _ => none
theorem o_neg : DOp1 K (rU fun i => .int (-i)) dNeg := fun F0 F H x d z Q dm rx q k => by
  unfold dNeg at q
  split at q
  · cases q
    exact ⟨_, rx.intOf, k _ _ (Same.refl H) (.int _)⟩
  · cases q
def fAbs : List D → Option D
  | [.int i] => some (.int (if i < 0 then -i else i))
  | _ => none
theorem c_abs : DCall K (fun xs H Q => ∃ i, xs = [.int i] ∧ Q (.int (if i < 0 then -i else i)) H) fAbs := fun F0 F H xs ds z Q dm r q k => by
  unfold fAbs at q
  split at q
  · cases q
    obtain ⟨v, rfl, r1⟩ := r.one
    exact ⟨_, by rw [r1.intOf], k _ _ (Same.refl H) (.int _)⟩
  · cases q
def fMax2 : List D → Option D
  | [.int i, .int j] => some (.int (if j > i then j else i))
  | _ => none
theorem c_max2 : DCall K (fun xs H Q => ∃ i j, xs = [.int i, .int j] ∧ Q (.int (if j > i then j else i)) H) fMax2 := fun F0 F H xs ds z Q dm r q k => by
  unfold fMax2 at q
  split at q
  · cases q
    obtain ⟨v, w, rfl, r1, r2⟩ := r.two
    exact ⟨_, _, by rw [r1.intOf, r2.intOf], k _ _ (Same.refl H) (.int _)⟩
  · cases q
def fLen : List D → Option D
  | [.lst xs] => some (.int (xs.length : Nat))
  | [.tup xs] => some (.int (xs.length : Nat))
  | [.scr xs] => some (.int (xs.length : Nat))
  | [.str x] => if lim2 x.length = true then some (.int (x.length : Nat)) else none
  | _ => none
def rLen3 (K : Fg) : List V → Hp → VK → Prop := fun xs H Q => (∃ p ys, xs = [.ref p] ∧ (SqL K H p ys ∨ SqT K H p ys) ∧ Q (.int ys.length) H) ∨ ∃ z, xs = [.str z] ∧ z.length ≤ sizeLine ∧ Q (.int z.length) H
theorem call_len3 : CallR X (.builtin "len") (rLen3 X.K) := call_len_seq.or call_len_str
theorem c_len : DCall K (rLen3 K) fLen := fun F0 F H xs ds z Q dm r q k => by
  unfold fLen at q
  split at q
  · cases q
    obtain ⟨v, rfl, r0⟩ := r.one
    obtain ⟨a, vs, rfl, h1, r1⟩ := r0.lstOf
    exact .inl ⟨a, vs, rfl, .inl h1.sq, k _ _ (Same.refl H) (by rw [r1.length]; exact .int _)⟩
  · cases q
    obtain ⟨v, rfl, r0⟩ := r.one
    obtain ⟨a, vs, rfl, h1, r1⟩ := r0.tupOf
    exact .inl ⟨a, vs, rfl, .inr h1.sq, k _ _ (Same.refl H) (by rw [r1.length]; exact .int _)⟩
  · cases q
    obtain ⟨v, rfl, r0⟩ := r.one
    obtain ⟨a, rfl, h1⟩ := r0.scrOf
    exact .inl ⟨a, _, rfl, .inl h1.sq, k _ _ (Same.refl H) (by rw [List.length_map]; exact .int _)⟩
  · split at q
    · rename_i hl
      cases q
      obtain ⟨v, rfl, r1⟩ := r.one
      exact .inr ⟨_, by rw [r1.strOf], lim2_le hl, k _ _ (Same.refl H) (.int _)⟩
    · cases q
  · cases q
def keyOf : D → Option Key
  | .int i => some (.inl i)
  | .str x => some (.inr x)
  | _ => none
theorem keyOf_keyD (k : Key) : keyOf (keyD k) = some k := by cases k <;> rfl
theorem all_keyD (kvs : List (Key × V)) : ((kvs.map fun p => keyD p.1).all fun k => (keyOf k).isSome) = true := by
  rw [List.all_map, List.all_eq_true]
  intro p _
  show (keyOf (keyD p.1)).isSome = true
  rw [keyOf_keyD]; rfl
theorem not_all_tup {es : List EX} (h : es ≠ []) : ((es.map fun p => D.tup (p.1.map D.int)).all fun k => (keyOf k).isSome) ≠ true := by
  cases es with
  | nil => exact absurd rfl h
  | cons p es => simp [keyOf]
def tyN : D → Option String
  | .non => some "NoneType"
  | .bl _ => some "bool"
  | .int _ => some "int"
  | .str _ => some "str"
  | .tup _ => some "tuple"
  | .lst _ => some "list"
  | .dct ks _ => if (ks.all fun k => (keyOf k).isSome) = true then some "dict" else none
  | _ => none
theorem tyX_of {F0 F : Fp} {H : Hp} {v : V} {d : D} {n : String} (r : RepW K F0 F H v d) (h : tyN d = some n) : TyX K H v (.type n) := by
  have lst : ∀ {a : Addr} {vs : List V}, LsR K H a vs → TyX K H (.ref a) (.type "list") := fun {a vs} h => by
    rcases h with h | ⟨o, h⟩
    · exact .base (.lst h)
    · exact .base (.frz h)
  cases r with
  | lst q r => unfold tyN at h; cases h; exact lst q.ls
  | dct n q r =>
    unfold tyN at h
    cases r with
    | k r => dsimp only at h; rw [if_pos (all_keyD _)] at h; cases h; exact .base (.dK q)
    | x ne ox kt r => dsimp only at h; rw [if_neg (not_all_tup ne)] at h; cases h
  | of r =>
    cases r with
    | non => cases h; exact .base .non
    | bl => cases h; exact .base (.bl _)
    | int => cases h; exact .base (.int _)
    | str => cases h; exact .base (.str _)
    | tup q r =>
      cases h
      rcases q with ⟨_, q | ⟨o, q⟩⟩ | ⟨o, its, n, q, q2, _⟩
      · exact .base (.tup q)
      · exact .fTuple q
      · exact .kTuple q q2
    | lst q r => cases h; exact lst q.ls
    | dK n q r => unfold tyN at h; dsimp only at h; rw [if_pos (all_keyD _)] at h; cases h; exact .base (.dK q)
    | dX n ne q ox kt r => unfold tyN at h; dsimp only at h; rw [if_neg (not_all_tup ne)] at h; cases h
    | _ => cases h
def kitN (a b : String) : Option Bool :=
  if (["NoneType", "bool", "int", "str", "tuple", "list", "dict"].contains a && ["int", "bool", "tuple", "list", "str", "dict"].contains b) = true then some (a == b || (a == "bool" && b == "int")) else none
theorem kitN_ok {a b : String} {r : Bool} (h : kitN a b = some r) : kitB a b = some r := by
  unfold kitN at h
  split at h
  · rename_i hc
    have e : (a == b || (a == "bool" && b == "int")) = r := Option.some.inj h
    subst e
    rw [Bool.and_eq_true, List.contains_iff_mem, List.contains_iff_mem] at hc
    obtain ⟨h1, h2⟩ := hc
    simp only [List.mem_cons, List.not_mem_nil, or_false] at h1 h2
    rcases h1 with rfl | rfl | rfl | rfl | rfl | rfl | rfl <;> rcases h2 with rfl | rfl | rfl | rfl | rfl | rfl <;> decide +kernel
  · cases h
def isi (d : D) (n : String) : Option Bool := (tyN d).bind fun a => kitN a n
def fIsi : List D → Option D
  | [d, .ty n] => (isi d n).map .bl
  | _ => none
theorem isi_of {F0 F : Fp} {H : Hp} {v : V} {d : D} {n : String} {b : Bool} (r : RepW K F0 F H v d) (h : isi d n = some b) : ∃ t, TyX K H v t ∧ PySem.W.kitOne K t (.type n) = some b := by
  unfold isi at h
  cases e : tyN d with
  | none => rw [e] at h; cases h
  | some a =>
    rw [e] at h
    exact ⟨_, tyX_of r e, kit_ty (kitN_ok h)⟩
theorem c_isi : DCall K (rIsi K) fIsi := fun F0 F H xs ds z Q dm r q k => by
  unfold fIsi at q
  split at q
  · rename_i d n
    obtain ⟨v, w, rfl, r1, r2⟩ := r.two
    cases e : isi d n with
    | none => rw [e] at q; cases q
    | some b =>
      rw [e] at q
      cases q
      obtain ⟨t, h1, h2⟩ := isi_of r1 e
      cases r2 with
      | of r2 =>
        cases r2
        exact ⟨v, _, t, _, b, rfl, .ty n, h1, h2, k _ _ (Same.refl H) (.bl _)⟩
  · cases q
def strOf (i : Int) : Str := toString i
def fStrI : List D → Option D
  | [.int i] => if decide (i.natAbs.log2 < 1920) = true then some (.str (strOf i)) else none
  | _ => none
theorem c_strI : DCall K (fun xs H Q => ∃ i, xs = [.int i] ∧ i.natAbs.log2 < 1920 ∧ Q (.str (toString i)) H) fStrI := fun F0 F H xs ds z Q dm r q k => by
  unfold fStrI at q
  split at q
  · split at q
    · rename_i hl
      cases q
      obtain ⟨v, rfl, r1⟩ := r.one
      exact ⟨_, by rw [r1.intOf], of_decide_eq_true hl, k _ _ (Same.refl H) (.str _)⟩
    · cases q
  · cases q
def cutD (xs : List D) (lo hi : Option Int) : List D := (xs.drop (HT.sIx xs.length 0 lo)).take (HT.sIx xs.length xs.length hi - HT.sIx xs.length 0 lo)
theorem Reps.cut {F : Fp} {H : Hp} {vs : List V} {ds : List D} (r : Reps K F H vs ds) (lo hi : Option Int) : Reps K F H (cutV vs lo hi) (cutD ds lo hi) := by
  unfold cutV cutD
  rw [r.length]
  exact (r.drop _).take _
end
end MM

namespace MM
open PySem PySem.Spec PyProof.Rows L2
section
variable {X : Cx} {W : WX} {τ : Type} [Sto τ] {K : Fg}
def truth : D → Option Bool
  | .non => some false
  | .bl b => some b
  | .int i => some (i != 0)
  | .str x => if lim2 x.length = true then some ((x.length : Int) != 0) else none
  | .lst xs => some (!xs.isEmpty)
  | .tup xs => some (!xs.isEmpty)
  | _ => none
theorem Reps.isEmpty {F : Fp} {H : Hp} {vs : List V} {ds : List D} (r : Reps K F H vs ds) : vs.isEmpty = ds.isEmpty := by cases r <;> rfl
theorem RepW.truV {F0 F : Fp} {H : Hp} {v : V} {d : D} {b : Bool} (r : RepW K F0 F H v d) (h : truth d = some b) : TruV K v H b := by
  cases d <;> first
    | (cases h; done)
    | skip
  · cases h; rw [r.nonOf]; exact rfl
  · cases h; rw [r.blOf]; exact rfl
  · cases h; rw [r.intOf]; exact rfl
  · rw [r.strOf]
    rename_i z
    have h' : (if lim2 z.length = true then some ((z.length : Int) != 0) else none) = some b := h
    split at h'
    · rename_i hl
      cases h'
      exact ⟨lim2_le hl, rfl⟩
    · cases h'
  · cases h
    obtain ⟨a, vs, rfl, q, rs⟩ := r.tupOf
    exact .inr (.inl ⟨vs, q.sq, by rw [rs.isEmpty]⟩)
  · cases h
    obtain ⟨a, vs, rfl, q, rs⟩ := r.lstOf
    exact .inl ⟨vs, q.sq, by rw [rs.isEmpty]⟩
theorem mt_truth {e : Expr} {m : ME τ D} (h : PE X e (tW X.K W m)) (he : ∀ whole, isTrue e X.env whole = (do let v ← whole; standAt e.pos; holding [v] (truthy v)) := by intro _; rfl) : PT X e (tT X.K W (e1 truth m)) :=
  PT.imp (pt_truth h he) fun σ H Q ⟨C, ρ, t, A, p⟩ => by
    refine use okB A p fun d t1 v H1 e1 s1 A1 r1 p1 => ?_
    cases e : truth d with
    | none => rw [e] at p1; exact p1.elim
    | some b =>
      rw [e] at p1
      exact ⟨b, RepW.truV r1 e, p1 _ H1 (Sm.refl _ _) A1.st rfl⟩
def oNone : ME τ (Option Int) := fun _ t => .ok none t
def oSome (m : ME τ D) : ME τ (Option Int) := e1 (fun d => match d with
  | .int i => some (some i)
  | _ => none) m
def rO : Rel (Option Int) (Option Int) := fun _ _ _ _ _ _ v d => v = d
theorem okO : RelOk rO := ⟨fun _ _ _ _ _ _ _ _ _ _ h => h⟩
abbrev tO (K : Fg) (W : WX) (m : ME τ (Option Int)) : TO := tG rO K W m
theorem mo_none : PO X none (tO X.K W (oNone (τ := τ))) := ⟨fun pins s σ H Q I ⟨C, ρ, t, A, p⟩ => po_none.run pins s σ H Q I (p none H (Sm.refl _ _) A.st rfl)⟩
theorem mo_some {e : Expr} {m : ME τ D} (h : PE X e (tE X.K W m)) : PO X (some e) (tO X.K W (oSome m)) := ⟨fun pins s σ H Q I ⟨C, ρ, t, A, p⟩ => (po_some h).run pins s σ H Q I (by
  refine use okO A p fun d t1 v H1 e1 s1 A1 r1 p1 => ?_
  cases d <;> first
    | exact p1.elim
    | (cases r1; exact ⟨_, rfl, p1 _ H1 (Sm.refl _ _) A1.st rfl⟩))⟩
def e3 {α β γ δ : Type} (f : α → β → γ → Option δ) (a : ME τ α) (b : ME τ β) (c : ME τ γ) : ME τ δ := fun ρ t => (a ρ t).bind fun d t => (b ρ t).bind fun e t => (c ρ t).bind fun g t => opt (f d e g) t
theorem me_glob {x : Str} {v : V} {u : Value} {d : D} {pos : Pos} (hg : Gl X x) (hm : X.mg x = some u) (r : RelV v u) (rd : ∀ F H, Rep X.K F H v d) (hd : (x == ("__debug__" : Str)) = false := by decide) : PE X (.Name x pos) (tE X.K W (eC (τ := τ) d)) := me_c (pe_glob hg hm r hd) rd
theorem me_type {x : Str} {n : String} {pos : Pos} (hg : Gl X x) (hm : X.mg x = none) (hv : bootBuiltins x = some (.type n)) (hn : x ≠ "__name__" := by decide) (hd : (x == ("__debug__" : Str)) = false := by decide) : PE X (.Name x pos) (tE X.K W (eC (τ := τ) (.ty n))) :=
  me_c (pe_bltn (v := .ty n) hg hm hv rfl hn hd) fun _ _ => .ty n
end
theorem Def.mk' {τ : Type} [Sto τ] {P : Program} {w : World} {K : Fg} {mg : Str → Option Value} {base : Heap} {x qual : Str} {params : Arguments} {body : List Stmt} {scope : Scope} {dvs : List V} {kws : List (Str × V)} {fd : FuncData} {N ps : List Str} {k : Nat} {df : List D}
    (F : FunD K x qual params body scope dvs kws (He.ga K x) fd) (hm : mg x = some (.ref (He.ga K x))) (S : FnScope N ps scope) (mb : MS τ) (hb : ∃ ds dv, Vals dv ds ∧ Binds K fd ps ds ∧ ∀ F H, Reps K F H dv df)
    (hbody : ∀ (cdv : Value) (A : Around) (outer : List Env) (s : Shared) (H : Hp) (E : XK), Room k (A.deeper (envOfC qual scope s.heap.objs.size (He.ga K x) cdv)) →
      PSs (cxOf (L2.CX P w) P w K mg base N qual scope (He.ga K x) cdv A outer s H E) body (tS K (fun cls d _ H => E cls d H) mb)) : Def P w K mg base (k + 1) x ps.length df (runB N.length mb) := by
  obtain ⟨ds, dv, h1, h2, h3⟩ := hb
  exact ⟨fd, ps, ds, dv, fn_mk F S mb hbody, hm, F.kp, h2, h1, h3⟩
theorem Def.mono {τ : Type} [Sto τ] {P : Program} {w : World} {K : Fg} {mg : Str → Option Value} {base : Heap} {j k : Nat} {x : Str} {np : Nat} {df : List D} {m : List D → τ → Res τ D} (F : Def P w K mg base j x np df m) (h : j ≤ k) : Def P w K mg base k x np df m := by
  obtain ⟨fd, ps, ds, dv, F, r⟩ := F.ex
  exact ⟨fd, ps, ds, dv, F.mono h, r⟩
end MM

namespace MM
open PySem PySem.Spec PyProof.Rows L2
def Glc (K : Fg) (mg : Str → Option Value) (x : Str) (d : D) : Prop := ∃ v u, mg x = some u ∧ RelV v u ∧ ∀ F H, Rep K F H v d
section
variable {X : Cx} {W : WX} {τ : Type} [Sto τ] {K : Fg}
theorem me_g {x : Str} {d : D} {pos : Pos} (g : Glc X.K X.mg x d) (hg : Gl X x) (hd : (x == ("__debug__" : Str)) = false := by decide) : PE X (.Name x pos) (tE X.K W (eC (τ := τ) d)) := by
  obtain ⟨v, u, h1, h2, h3⟩ := g
  exact me_glob hg h1 h2 h3 hd
end
structure ExcF (K : Fg) (mg : Str → Option Value) (n : Str) : Prop where
  x : PySem.W.excIn K (He.ga K n) He.veBase "ValueError.__new__" = true
  g : mg n = some (.ref (He.ga K n))
  k : PySem.W.keepIn K (.ref (He.ga K n)) = true
  b : PySem.W.subIn K (.ref (He.ga K n)) (.type "BaseException") = some true
  t : PySem.W.typeIn K (.ref (He.ga K n)) = some (.type "type")
theorem tk_cx {P : Program} {w : World} {K : Fg} {mg : Str → Option Value} {base : Heap} {N : List Str} {qual : Str} {scope : Scope} {f : Addr} {cd : Value} {A : Around} {outer : List Env} {s : Shared} {H : Hp} {E : XK} :
    Takes (cxOf (L2.CX P w) P w K mg base N qual scope f cd A outer s H E) (fun cls d _ H => E cls d H) := takes_of rfl rfl rfl rfl
theorem po_cx {P : Program} {w : World} {K : Fg} {mg : Str → Option Value} {base : Heap} {N : List Str} {qual : Str} {scope : Scope} {f : Addr} {cd : Value} {A : Around} {outer : List Env} {s : Shared} {H : Hp} {E : XK} :
    PassesOwn (model (cxOf (L2.CX P w) P w K mg base N qual scope f cd A outer s H E).prog (cxOf (L2.CX P w) P w K mg base N qual scope f cd A outer s H E).w) (cxOf (L2.CX P w) P w K mg base N qual scope f cd A outer s H E).A (cxOf (L2.CX P w) P w K mg base N qual scope f cd A outer s H E).env (cxOf (L2.CX P w) P w K mg base N qual scope f cd A outer s H E).xe := PassesOwn.leaving
end MM

namespace MM
open PySem PySem.Spec PyProof.Rows L2
structure Dk where
  a : Addr
  b : Addr
  scr : D
  big : List Int
  pos : Nat
  cnt : Nat
structure DkAt (K : Fg) (F : Fp) (t : Dk) (G : Fp) (H : Hp) : Prop where
  fa : F t.a
  fb : F t.b
  ne : t.a ≠ t.b
  cells : ∃ sv, Rep K G H sv t.scr ∧ H t.a = some (.lst [sv, .ref t.b, .int (t.pos : Nat), .int (t.cnt : Nat)]) ∧ H t.b = some (.lst (t.big.map V.int))
structure DkOk (K : Fg) (C : SC Dk) : Prop where
  at_ : ∀ t G H, C.Iv t G H → DkAt K C.F t G H
  up : ∀ (t t' : Dk) (G : Fp) (H H' : Hp) (sv : V), C.Iv t G H → t'.a = t.a → t'.b = t.b → t'.scr = t.scr → H t.a = some (.lst [sv, .ref t.b, .int (t.pos : Nat), .int (t.cnt : Nat)]) → (∀ x, x ≠ t.a → x ≠ t.b → H' x = H x) →
    H' t.a = some (.lst [sv, .ref t.b, .int (t'.pos : Nat), .int (t'.cnt : Nat)]) → H' t.b = some (.lst (t'.big.map V.int)) → C.Iv t' G H'
instance : Sto Dk where
  ok := DkOk
  cmp := fun K C D0 acc nF h => {
    at_ := fun t G H i => by
      have q := h.at_ t G H i.1
      exact ⟨.inl q.fa, .inl q.fb, q.ne, q.cells⟩
    up := fun t t' G H H' sv i e1 e2 e3 ha ho h1 h2 => by
      have q := h.at_ t G H i.1
      refine ⟨h.up t t' G H H' sv i.1 e1 e2 e3 ha ho h1 h2, ?_⟩
      rw [ho D0 (fun z => nF (by rw [z]; exact q.fa)) (fun z => nF (by rw [z]; exact q.fb))]
      exact i.2 }
  ov := fun K C F H1 hF dm h => {
    at_ := fun t G H i => by
      have q := h.at_ t G H i.1
      exact ⟨hF _ q.fa, hF _ q.fb, q.ne, q.cells⟩
    up := fun t t' G H H' sv i e1 e2 e3 ha ho h1 h2 => by
      have q := h.at_ t G H i.1
      have ot : ∀ x, ¬ C.F x → H' x = H x := fun x n => ho x (fun z => n (by rw [z]; exact q.fa)) (fun z => n (by rw [z]; exact q.fb))
      refine ⟨h.up t t' G H H' sv i.1 e1 e2 e3 ha ho h1 h2, ⟨fun b o n e => ?_, i.2.1.new⟩, fun b o hb n e => ?_⟩
      · rw [ot b fun z => n (hF b z)]; exact i.2.1.keep b o n e
      · rw [ot b n]; exact i.2.2 b o hb n e }
  lend := fun K C O H1 hO dm h => {
    at_ := fun t G H i => by
      have q := h.at_ t _ H i.1
      obtain ⟨sv, r, e⟩ := q.cells
      exact ⟨q.fa, q.fb, q.ne, sv, r.anti fun _ => .inl, e⟩
    up := fun t t' G H H' sv i e1 e2 e3 ha ho h1 h2 => by
      have q := h.at_ t _ H i.1
      refine ⟨h.up t t' _ H H' sv i.1 e1 e2 e3 ha ho h1 h2, i.2.1, fun b o hb e => ?_⟩
      rw [ho b (fun z => hO b hb (by rw [z]; exact q.fa)) (fun z => hO b hb (by rw [z]; exact q.fb))]
      exact i.2.2 b o hb e }
section
variable {X : Cx} {W : WX} {K : Fg}
def isDk (i : Nat) (ρ : Rho) (t : Dk) : Bool := match ρ[i]? with
  | some (.val (.at a)) => decide (a = t.a)
  | _ => false
theorem isDk_slot {i : Nat} {ρ : Rho} {t : Dk} {C : SC Dk} {σ : St} {H : Hp} (h : isDk i ρ t = true) (A : At K C ρ t σ H) : σ[i]? = some (some (.ref t.a)) := by
  unfold isDk at h
  split at h
  · rename_i a e
    obtain ⟨v, h1, h2⟩ := A.val i _ e
    cases h2
    rw [h1, of_decide_eq_true h]
  · cases h
def eDk (i j : Nat) : ME Dk D := fun ρ t => if isDk i ρ t = true then (match j with
  | 0 => .ok t.scr t
  | 2 => .ok (.int t.pos) t
  | 3 => .ok (.int t.cnt) t
  | _ => .bad) else .bad
theorem At.dk {C : SC Dk} {ρ : Rho} {t : Dk} {σ : St} {H : Hp} (A : At K C ρ t σ H) : DkAt K C.F t (Fo C.F ρ σ) H := (show DkOk K C from A.okC).at_ _ _ _ A.st
theorem me_dk {i j : Nat} {e : Expr} (h : PE X e (tOp (rIxL X.K) (tVar i) (tC (.int (j : Nat))))) : PE X e (tE X.K W (eDk i j)) := PE.imp h fun σ H Q ⟨C, ρ, t, A, p⟩ => by
  unfold eDk at p
  split at p
  · rename_i hi
    obtain ⟨sv, hs, ha, hb⟩ := A.dk.cells
    refine ⟨_, isDk_slot hi A, ?_⟩
    split at p
    · exact ⟨t.a, _, _, sv, rfl, rfl, .inl (.inl ha), atI_nat (j := 0) rfl, p _ H (Sm.refl _ _) A.st hs⟩
    · exact ⟨t.a, _, _, _, rfl, rfl, .inl (.inl ha), atI_nat (j := 2) rfl, p _ H (Sm.refl _ _) A.st (.int _)⟩
    · exact ⟨t.a, _, _, _, rfl, rfl, .inl (.inl ha), atI_nat (j := 3) rfl, p _ H (Sm.refl _ _) A.st (.int _)⟩
    · exact p.elim
  · exact p.elim
def eDkLen (i : Nat) : ME Dk D := fun ρ t => if isDk i ρ t = true then .ok (.int (t.big.length : Nat)) t else .bad
theorem me_dkLen {i : Nat} {e : Expr} (h : PE X e (tCB (rLen3 X.K) (tCons (tOp (rIxL X.K) (tVar i) (tC (.int 1))) tNil))) : PE X e (tE X.K W (eDkLen i)) := PE.imp h fun σ H Q ⟨C, ρ, t, A, p⟩ => by
  unfold eDkLen at p
  split at p
  · rename_i hi
    obtain ⟨sv, hs, ha, hb⟩ := A.dk.cells
    refine ⟨_, isDk_slot hi A, t.a, _, _, _, rfl, rfl, .inl (.inl ha), atI_nat (j := 1) rfl, .inl ⟨t.b, _, rfl, .inl (.inl (.inl hb)), ?_⟩⟩
    rw [List.length_map]
    exact p _ H (Sm.refl _ _) A.st (.int _)
  · exact p.elim
def eDkAt (i : Nat) : ME Dk D := fun ρ t => if isDk i ρ t = true then (match t.big[t.pos]? with
  | some c => .ok (.int c) t
  | none => .bad) else .bad
theorem me_dkAt {i : Nat} {e : Expr} (h : PE X e (tOp (rIxL X.K) (tOp (rIxL X.K) (tVar i) (tC (.int 1))) (tOp (rIxL X.K) (tVar i) (tC (.int 2))))) : PE X e (tE X.K W (eDkAt i)) := PE.imp h fun σ H Q ⟨C, ρ, t, A, p⟩ => by
  unfold eDkAt at p
  split at p
  · rename_i hi
    split at p
    · rename_i c hc
      obtain ⟨sv, hs, ha, hb⟩ := A.dk.cells
      have si := isDk_slot hi A
      refine ⟨_, si, t.a, _, _, _, rfl, rfl, .inl (.inl ha), atI_nat (j := 1) rfl, _, si, t.a, _, _, _, rfl, rfl, .inl (.inl ha), atI_nat (j := 2) rfl, t.b, _, _, _, rfl, rfl, .inl (.inl hb), atI_nat (v := V.int c) ?_, p _ H (Sm.refl _ _) A.st (.int _)⟩
      rw [List.getElem?_map, hc]
      rfl
    · exact p.elim
  · exact p.elim
def sDkBig (i : Nat) (m : ME Dk D) : MS Dk := sDo m fun d ρ t => match d with
  | .int c => if isDk i ρ t = true ∧ t.pos < t.big.length then .nx ρ { t with big := t.big.set t.pos c } else .bad
  | _ => .bad
theorem dk_write {C : SC Dk} {ρ : Rho} {t t' : Dk} {σ : St} {H H' : Hp} {sv : V} (A : At K C ρ t σ H) (e1 : t'.a = t.a) (e2 : t'.b = t.b) (e3 : t'.scr = t.scr) (ha : H t.a = some (.lst [sv, .ref t.b, .int (t.pos : Nat), .int (t.cnt : Nat)])) (ho : ∀ x, x ≠ t.a → x ≠ t.b → H' x = H x)
    (h1 : H' t.a = some (.lst [sv, .ref t.b, .int (t'.pos : Nat), .int (t'.cnt : Nat)])) (h2 : H' t.b = some (.lst (t'.big.map V.int))) : At K C ρ t' σ H' ∧ Sm C.F H H' := by
  have q := A.dk
  have sm : Sm C.F H H' := fun b o n e => by rw [ho b (fun z => n (by rw [z]; exact q.fa)) (fun z => n (by rw [z]; exact q.fb))]; exact e
  exact ⟨A.next sm ((show DkOk K C from A.okC).up t t' _ H H' sv A.st e1 e2 e3 ha ho h1 h2), sm⟩
theorem ms_dkBig {s : Stmt} {i : Nat} {m : ME Dk D} (h : PS X s (tAsg (tE X.K W m) (gSub (tOp (rIxL X.K) (tVar i) (tC (.int 1))) (tOp (rIxL X.K) (tVar i) (tC (.int 2))) rSetL))) : PS X s (tS X.K W (sDkBig i m)) := PS.imp h fun E σ H ⟨C, ρ, t, A, p⟩ => by
  refine useS A p fun d t1 v H1 e1 s1 A1 r1 p1 => ?_
  cases d <;> first
    | exact p1.elim
    | skip
  rename_i c
  cases r1
  dsimp only at p1
  split at p1
  · rename_i hi
    obtain ⟨sv, hs, ha, hb⟩ := A1.dk.cells
    have si := isDk_slot hi.1 A1
    have ne := A1.dk.ne
    refine ⟨_, si, t1.a, _, _, _, rfl, rfl, .inl (.inl ha), atI_nat (j := 1) rfl, _, si, t1.a, _, _, _, rfl, rfl, .inl (.inl ha), atI_nat (j := 2) rfl, t1.b, _, _, t1.pos, rfl, rfl, hb, ?_, ?_⟩
    · unfold ixN
      rw [if_pos (by omega), List.length_map, if_pos (by omega)]
      simp
    · have e : (t1.big.map V.int).set t1.pos (V.int c) = (t1.big.set t1.pos c).map V.int := by rw [List.map_set]
      rw [e]
      obtain ⟨A2, sm⟩ := dk_write (t' := { t1 with big := t1.big.set t1.pos c }) (H' := upd H1 t1.b (.lst ((t1.big.set t1.pos c).map V.int))) A1 rfl rfl rfl ha (fun x _ n => upd_ne n) (by rw [upd_ne ne]; exact ha) upd_same
      exact p1 σ _ (Stp.of_sm sm fun _ => Fo.base) A2
  · exact p1.elim
def sDkSet (i j : Nat) (m : ME Dk D) : MS Dk := sDo m fun d ρ t => match d with
  | .int c => if isDk i ρ t = true ∧ 0 ≤ c then (match j with
    | 2 => .nx ρ { t with pos := c.toNat }
    | 3 => .nx ρ { t with cnt := c.toNat }
    | _ => .bad) else .bad
  | _ => .bad
theorem ms_dkSet {s : Stmt} {i j : Nat} {m : ME Dk D} (h : PS X s (tAsg (tE X.K W m) (gSub (tVar i) (tC (.int (j : Nat))) rSetL))) : PS X s (tS X.K W (sDkSet i j m)) := PS.imp h fun E σ H ⟨C, ρ, t, A, p⟩ => by
  refine useS A p fun d t1 v H1 e1 s1 A1 r1 p1 => ?_
  cases d <;> first
    | exact p1.elim
    | skip
  rename_i c
  cases r1
  dsimp only at p1
  split at p1
  · rename_i hi
    obtain ⟨sv, hs, ha, hb⟩ := A1.dk.cells
    have si := isDk_slot hi.1 A1
    have ne := A1.dk.ne
    have ec : c = (c.toNat : Nat) := by omega
    refine ⟨_, si, ?_⟩
    split at p1
    · refine ⟨t1.a, _, _, 2, rfl, rfl, ha, rfl, ?_⟩
      obtain ⟨A2, sm⟩ := dk_write (t' := { t1 with pos := c.toNat }) (H' := upd H1 t1.a (.lst [sv, .ref t1.b, .int c, .int (t1.cnt : Nat)])) A1 rfl rfl rfl ha (fun x n _ => upd_ne n) (by rw [upd_same]; rw [← ec]) (by rw [upd_ne (Ne.symm ne)]; exact hb)
      exact p1 σ _ (Stp.of_sm sm fun _ => Fo.base) A2
    · refine ⟨t1.a, _, _, 3, rfl, rfl, ha, rfl, ?_⟩
      obtain ⟨A2, sm⟩ := dk_write (t' := { t1 with cnt := c.toNat }) (H' := upd H1 t1.a (.lst [sv, .ref t1.b, .int (t1.pos : Nat), .int c])) A1 rfl rfl rfl ha (fun x n _ => upd_ne n) (by rw [upd_same]; rw [← ec]) (by rw [upd_ne (Ne.symm ne)]; exact hb)
      exact p1 σ _ (Stp.of_sm sm fun _ => Fo.base) A2
    · exact p1.elim
  · exact p1.elim
end
end MM

namespace MM
open PySem PySem.Spec PyProof.Rows L2
section
variable {X : Cx} {W : WX} {τ : Type} [Sto τ] {K : Fg}
theorem PSs.pure {sts : List Stmt} {t : TS} {P : Prop} (h : P → PSs X sts t) : PSs X sts (fun E σ H => P ∧ t E σ H) := ⟨fun pins s σ H D I ⟨p, q⟩ => (h p).run pins s σ H D I q⟩
theorem Fo.setNo {F : Fp} {ρ : Rho} {σ : St} {i : Nat} {v : Option V} {b : Addr} (h : Fo F (ρ.set i .no) (σ.set i v) b) : Fo F ρ σ b := by
  rcases h with h | ⟨j, xs, ⟨h1, hm⟩, h2⟩
  · exact .inl h
  · rcases set_at h1 with ⟨_, e, _⟩ | ⟨ne, h1⟩
    · cases e; cases hm
    · rw [List.getElem?_set_ne ne] at h2
      exact .inr ⟨j, xs, ⟨h1, hm⟩, h2⟩
theorem At.clear {C : SC τ} {ρ : Rho} {t : τ} {σ : St} {H : Hp} (A : At K C ρ t σ H) (i : Nat) (v : Option V) : At K C (ρ.set i .no) t (σ.set i v) H where
  okC := A.okC
  st := C.less A.st fun _ => Fo.setNo
  len := by simp [A.len]
  val := fun j e h => by
    rcases set_at h with ⟨_, e1, _⟩ | ⟨ne, h⟩
    · cases e1
    · obtain ⟨w, h1, h2⟩ := A.val j e h
      exact ⟨w, by rw [List.getElem?_set_ne ne]; exact h1, h2.anti fun _ => Fo.setNo⟩
  mine := fun j xs hh => by
    obtain ⟨h, hm⟩ := hh
    rcases set_at h with ⟨_, e1, _⟩ | ⟨ne, h⟩
    · cases e1; cases hm
    · obtain ⟨a, vs, h1, h2, h3, h4⟩ := A.mine j xs ⟨h, hm⟩
      exact ⟨a, vs, by rw [List.getElem?_set_ne ne]; exact h1, h2, h3, h4.anti fun _ => Fo.setNo⟩
  dis := fun j k xs ys hh1 hh2 e => by
    obtain ⟨h1, m1⟩ := hh1
    obtain ⟨h2, m2⟩ := hh2
    rcases set_at h1 with ⟨_, e1, _⟩ | ⟨n1, h1⟩
    · cases e1; cases m1
    · rcases set_at h2 with ⟨_, e2, _⟩ | ⟨n2, h2⟩
      · cases e2; cases m2
      · rw [List.getElem?_set_ne n1, List.getElem?_set_ne n2] at e
        exact A.dis j k xs ys ⟨h1, m1⟩ ⟨h2, m2⟩ e
theorem Stp.setNo {F : Fp} {ρ : Rho} {σ : St} {i : Nat} {v : Option V} {H : Hp} : Stp (Fo F ρ σ) H (Fo F (ρ.set i .no) (σ.set i v)) H := Stp.less fun _ => Fo.setNo
theorem its_is {a D : Addr} {oe : Obj} {pn : List (Addr × Obj)} {i : Nat} {b : Bool} {c : V} {cv : Value} {p pos : Pos} {e1 e2 : Expr} (EC : ExcC X.K D) (hz : Zc (.ref D) none oe) (hf : ∃ vs, oe.data = .fields vs) (hg : Gl (X.suite a ((a, oe) :: pn)) "isinstance") (hm : X.mg "isinstance" = none)
    (h1 : PE (X.suite a ((a, oe) :: pn)) e1 (tVar i)) (h2 : PE (X.suite a ((a, oe) :: pn)) e2 (tC c)) (hc : ∀ u, RelV c u → u = cv) (hk : PySem.W.kitOne X.K (.ref D) cv = some b)
    (hst : starEach [e1, e2] (X.suite a ((a, oe) :: pn)).env = (false, eval e1 (X.suite a ((a, oe) :: pn)).env) :: starEach [e2] (X.suite a ((a, oe) :: pn)).env := by rfl) (hst2 : starEach [e2] (X.suite a ((a, oe) :: pn)).env = (false, eval e2 (X.suite a ((a, oe) :: pn)).env) :: starEach [] (X.suite a ((a, oe) :: pn)).env := by rfl)
    (hpl : (backTo pos (starEach [e2] (X.suite a ((a, oe) :: pn)).env)).any (·.1) = false := by rfl) :
    PE (X.suite a ((a, oe) :: pn)) (.Call (.Name "isinstance" p) [e1, e2] [] pos) (fun σ H Q => σ[i]? = some (some (.ref a)) ∧ Q (.bl b) H) :=
  PE.imp (pe_callB (call_isE EC hz hf) hg hm (by decide +kernel) (pa_cons h1 (pa_cons h2 pa_nil hst2) hst) (by decide) (by decide) hst hpl) fun σ H Q ⟨e, q⟩ => ⟨_, e, c, cv, b, rfl, hc, hk, q⟩
end
end MM

namespace MM
open PySem PySem.Spec PyProof.Rows L2 PySem.NumText PySem.Calls
def repS (x : Str) (n : Int) : Str := Txt.mul x n
def mulSOk (x : Str) (n : Int) : Bool := decide (2 ≤ n) && decide (n ≤ 1000000) && decide (1 ≤ x.length) && decide (x.length * n.toNat ≤ 1000000)
def dMulS : D → D → Option D := fun d e => match d, e with
  | .str x, .int n => if mulSOk x n = true then some (.str (repS x n)) else none
  | _, _ => none
def rMulS : R2 := fun v u H Q => ∃ x n, v = .str x ∧ u = .int n ∧ mulSOk x n = true ∧ Q (.str (repS x n)) H
section
variable {X : Cx} {W : WX} {τ : Type} [Sto τ] {K : Fg}
theorem sizeLine_big : 1000000 < sizeLine := by decide
theorem op_mulS : OpR X (binaryOp .Mult) rMulS := by
  intro pins s σ H x y v u Q I rx ry h
  obtain ⟨a, n, rfl, rfl, hc, q⟩ := h
  obtain ⟨t, rfl⟩ := rx
  obtain ⟨t', rfl⟩ := ry
  unfold mulSOk at hc
  simp only [Bool.and_eq_true, decide_eq_true_eq] at hc
  obtain ⟨⟨⟨h2, h3⟩, h4⟩, h5⟩ := hc
  have hd : a.length * n.toNat < sizeLine := Nat.lt_of_le_of_lt h5 sizeLine_big
  refine PySem.SB.mul ⟨?_, fun _ _ => ?_, fun _ _ => ?_⟩ fun t1 k => ⟨.str (repS a n), H, I.tok _, ⟨_, rfl⟩, q⟩
  · rw [decide_eq_false (by omega), decide_eq_false (by omega)] <;> rfl
  · have e1 : (a.length : Int) ≤ 1000000 := by
      have : a.length ≤ a.length * n.toNat := Nat.le_mul_of_pos_right _ (by omega)
      omega
    have : (1000000 : Int) ≤ (2 ^ 63 - 1) / n := by
      rw [Int.le_ediv_iff_mul_le (by omega)]
      have : (1000000 : Int) * n ≤ 1000000 * 1000000 := Int.mul_le_mul_of_nonneg_left h3 (by decide)
      omega
    omega
  · exact decide_eq_false (by show ¬ a.length * n.toNat > sizeLine; omega)
theorem o_mulS : DOp2 K rMulS dMulS := fun F0 F H x y d e z Q dm rx ry q k => by
  unfold dMulS at q
  split at q
  · split at q
    · rename_i hc
      cases q
      exact ⟨_, _, rx.strOf, ry.intOf, hc, k _ _ (Same.refl H) (.str _)⟩
    · cases q
  · cases q
def allDig (x : Str) : Bool := x.cps.toList.all fun c => decide (48 ≤ c) && decide (c ≤ 57)
theorem allDig_ok {x : Str} (h : allDig x = true) : AllDigits x.cps.toList := fun c hc => by
  have := List.all_eq_true.mp h c hc
  simp only [Bool.and_eq_true, decide_eq_true_eq] at this
  exact this
def fIntS : List D → Option D
  | [.str x] => if decide (x.length ≤ 640) = true then (PySem.intText? x).map .int else if (allDig x && decide (x.length ≤ 4300)) = true then some (.int ((digitsVal x.cps.toList : Nat) : Int)) else none
  | _ => none
abbrev NoLim (K : Fg) : Prop := PySem.W.nsIn K cStatics "sys.int_max_str_digits" = some none
def rIntS : List V → Hp → VK → Prop := fun xs H Q => ∃ a n, xs = [.str a] ∧ ((PySem.intText? a = some n ∧ a.length ≤ 640) ∨ (¬ a.length ≤ 640 ∧ a.length ≤ 4300 ∧ allDig a = true ∧ n = ((digitsVal a.cps.toList : Nat) : Int))) ∧ Q (.int n) H
theorem c_intS : DCall K rIntS fIntS := fun F0 F H xs ds z Q dm r q k => by
  unfold fIntS at q
  split at q
  · obtain ⟨v, rfl, r1⟩ := r.one
    split at q
    · rename_i x hl
      cases e : PySem.intText? x with
      | none => rw [e] at q; cases q
      | some n =>
        rw [e] at q
        cases q
        exact ⟨_, n, by rw [r1.strOf], .inl ⟨e, of_decide_eq_true hl⟩, k _ _ (Same.refl H) (.int _)⟩
    · rename_i x hl
      split at q
      · rename_i h2
        cases q
        obtain ⟨h3, h4⟩ := Bool.and_eq_true_iff.mp h2
        exact ⟨_, _, by rw [r1.strOf], .inr ⟨fun z => hl (decide_eq_true z), of_decide_eq_true h4, h3, rfl⟩, k _ _ (Same.refl H) (.int _)⟩
      · cases q
  · cases q
def px10 : List Nat → Option Nat
  | 48 :: d :: _ => if d == 120 || d == 88 then some 16 else if d == 111 || d == 79 then some 8 else (if d == 98 || d == 66 then some 2 else none)
  | _ => none
theorem read_long {cs : List Nat} (h : AllDigits cs) (hne : cs ≠ []) (hl : cs.length ≤ 4300) : (int_private% "readNumeral") 4300 10 cs = (int_private% "Numeral.value") ((digitsVal cs : Nat) : Int) := by
  refine (readNumeral_eq 4300 10 cs).trans ?_
  have hb : ∀ l : List Nat, AllDigits l → based 10 l = (10, false, l) := fun l hl => by
    unfold based
    split
    · rename_i p e
      have e' : px10 l = some p := e
      unfold px10 at e'
      have hp : p ≠ 10 := by
        split at e'
        · split at e'
          · cases e'; decide
          · split at e'
            · cases e'; decide
            · split at e'
              · cases e'; decide
              · cases e'
        · cases e'
      have hne : ((10 : Nat) == 0 || (10 : Nat) == p) = false := Bool.or_eq_false_iff.mpr ⟨rfl, beq_eq_false_iff_ne.mpr fun z => hp z.symm⟩
      rw [if_neg (by rw [hne]; intro z; cases z)]
    · rfl
  have hs : sign cs = (false, cs) := by
    cases cs with
    | nil => rfl
    | cons c cs => exact sign_of (by have := h.head; omega) (by have := h.head; omega)
  rw [dropWhile_digits h, hs]
  show judge 4300 false (based 10 cs).1 (based 10 cs).2.1 (digits? (based 10 cs).1 (((based 10 cs).2.2.reverse.dropWhile blank).reverse)) = _
  rw [hb cs h]
  show judge 4300 false 10 false (digits? 10 ((cs.reverse.dropWhile blank).reverse)) = _
  rw [dropWhile_digits h.reverse, List.reverse_reverse, digits_of h hne]
  have hsz := push_size cs #[]
  unfold judge
  dsimp only
  rw [if_neg (by
    rw [hsz]
    simp only [Array.size_empty]
    intro z
    have := of_decide_eq_true (Bool.and_eq_true_iff.mp z).2
    omega), if_neg (by
    rw [hsz]
    simp only [Array.size_empty]
    intro z
    have := of_decide_eq_true (Bool.and_eq_true_iff.mp z).2
    omega)]
  have hv := push_foldl cs #[]
  rw [hv]
  rfl
theorem wp_textL {M : Model} {A : Around} {E : Value → Shared → Prop} {s : Shared} {Q : Value → Shared → Prop} {v : Value} {text : List Nat} {n : Int} (hk : K.In s.heap) (e : NoLim K)
    (hs : ¬ (text.takeWhile (· != 0)).length ≤ 640) (hr : (int_private% "readNumeral") 4300 10 (text.takeWhile (· != 0)) = (int_private% "Numeral.value") n)
    (ha : ((text.takeWhile (· != 0)).length == text.length) = true) (h : Q (.int n s.toks) { s with toks := s.toks + 1 }) :
    wpAny M A ((int_private% "intFromText") v text 10) Q E s := by
  obtain ⟨hp, g, d, tk, os⟩ := s
  have lk := PySem.W.looks_nsIn (M := M) hk e
  show wpAny M A (ite _ _ _) Q E _
  rw [if_neg hs]
  unfold Builtin.intMaxStrDigits
  refine wpAny_bind (wpAny_bind (lk.here ?_))
  dsimp only
  refine wpAny_pure ?_
  rw [hr]
  dsimp only
  rw [if_pos ha]
  repeat (any_goals (first
    | assumption
    | wp_step))
structure HidL (p : Prop) : Prop where
  out : p
theorem meets_long {x : PySem.Str} {u : Tok} (e : NoLim K) (hd : allDig x = true) (h6 : ¬ x.length ≤ 640) (h4 : x.length ≤ 4300) :
    Meets (Builtin.«int.__new__» ⟨[.type "int", .str x u], []⟩) (fun _ R s => K.In s.heap ∧ R (.ok (.ret (.int ((digitsVal x.cps.toList : Nat) : Int) s.toks))) { s with toks := s.toks + 1 }) := by
  intro prog w A R s hR
  obtain ⟨hk, hR⟩ := hR
  have ad := allDig_ok hd
  obtain ⟨e1, e2⟩ := numText_signs (x := x) fun c hc => .inr (ad c hc)
  have len : x.cps.toList.length = x.length := Array.length_toList
  obtain ⟨hp, g, d, tk, os⟩ := s
  have f1 := F.conv_sub_int
  have f2 := F.madeHere_int
  have f3 := PySem.W.KIN.str_int
  have f4 := PySem.W.KIN.str_idx
  have f5 := PySem.W.KIN.str_trunc
  have f6 : typeOf (.str x u) = pure (.type "str") := rfl
  have hs : ¬ (numSeenOf x).length ≤ 640 := by rw [e2, len]; exact h6
  have hr : (int_private% "readNumeral") 4300 10 (numSeenOf x) = (int_private% "Numeral.value") ((digitsVal x.cps.toList : Nat) : Int) := by
    rw [e2]
    exact read_long ad (fun z => by rw [z] at len; simp at len; omega) (by rw [len]; exact h4)
  have ha : ((numSeenOf x).length == (numTextOf x).length) = true := by rw [e1, e2]; exact beq_self_eq_true _
  have hh := HidL.mk (And.intro hs (And.intro hr (And.intro ha (And.intro hk e))))
  clear hs hr ha e1 e2 len h6 h4 hd ad hk e
  repeat (any_goals (first
    | assumption
    | ((with_reducible show wpAny _ _ ((int_private% "intFromText") _ _ _) _ _ _); refine wp_textL hh.out.2.2.2.1 hh.out.2.2.2.2 hh.out.1 hh.out.2.1 hh.out.2.2.1 ?_)
    | wp_step))
theorem call_intS (e : NoLim X.K) : CallR X (.type "int") (rIntS) := by
  intro pins s σ H xs us Q I rs h
  obtain ⟨a, n, rfl, hn, h⟩ := h
  cases rs with
  | cons r1 rs =>
    cases rs
    obtain ⟨t, rfl⟩ := r1
    rcases hn with ⟨hn, hl⟩ | ⟨h6, h4, hd, rfl⟩
    · exact PySem.W.KIN.call_text hn hl ⟨.int n, H, I.tok _, ⟨_, rfl⟩, h⟩
    · exact call_int_1 (meets_long e hd h6 h4) ⟨I.kIn, rfl, ⟨.int _, H, I.tok _, ⟨_, rfl⟩, h⟩⟩
def aVar (i : Nat) : Rho → Option D := fun ρ => match ρ[i]? with
  | some (.val d) => some d
  | _ => none
end
end MM

namespace MM
open PySem PySem.Spec PyProof.Rows L2
abbrev MSd := Rho → Option (D × List Int)
section
variable {X : Cx} {W : WX} {K : Fg}
def SPostD (K : Fg) (C : SC Unit) (F1 : Fp) (H : Hp) (r : Option (D × List Int)) (Q : VK) : Prop := match r with
  | some (d, big) => ∀ sv a b H', Stp F1 H (fun x => C.F x ∨ x = a ∨ x = b) H' → Rep K (fun x => C.F x ∨ x = a ∨ x = b) H' sv d → a ≠ b → H' a = some (.lst [sv, .ref b, .int 0, .int 0]) → H' b = some (.lst (big.map V.int)) → Q (.ref a) H'
  | none => False
theorem SPostD.rebase {C : SC Unit} {F1 F2 : Fp} {H H1 : Hp} {r : Option (D × List Int)} {Q : VK} (h : SPostD K C F1 H r Q) (s : Stp F1 H F2 H1) : SPostD K C F2 H1 r Q := by
  cases r with
  | none => exact h
  | some p =>
    obtain ⟨d, big⟩ := p
    exact fun sv a b H' s' r ne ha hb => h sv a b H' (s.trans s') r ne ha hb
def tSd (K : Fg) (m : MSd) : TS := fun E σ H => ∃ (C : SC Unit) (ρ : Rho), At K C ρ () σ H ∧ SPostD K C (Fo C.F ρ σ) H (m ρ) E.rt
theorem mss_oneD {s : Stmt} {b : MSd} (h : PS X s (tSd X.K b)) : PSs X [s] (tSd X.K b) := pss_one h
def intsD : List D → Option (List Int)
  | [] => some []
  | .int i :: r => (intsD r).map (i :: ·)
  | _ => none
theorem intsD_ok {F : Fp} {H : Hp} : ∀ {vs : List V} {ds : List D} {ns : List Int}, Reps K F H vs ds → intsD ds = some ns → vs = ns.map V.int
  | _, _, ns, .nil, e => by cases e; rfl
  | _, _, ns, .cons (v := v) (vs := vs) (d := d) (ds := ds) r t, e => by
    cases d <;> first
      | (cases e; done)
      | skip
    rename_i i
    cases q : intsD ds with
    | none =>
      have e' : (intsD ds).map (i :: ·) = some ns := e
      rw [q] at e'; cases e'
    | some l =>
      have e' : (intsD ds).map (i :: ·) = some ns := e
      rw [q] at e'
      cases e'
      cases r
      rw [intsD_ok t q]
      rfl
def retD (i : Nat) (m : ME Unit (List D)) : MSd := fun ρ => match aVar i ρ, m ρ () with
  | some d, .ok ds _ => (intsD ds).map fun l => (d, l)
  | _, _ => none
theorem ms_retDk {i : Nat} {n c : Expr} {j1 j2 : Nat} {p1 p2 pos pos' : Pos} {m : ME Unit (List D)} (hn : PE X n (tVar i)) (hc : PE X c (tF X.K W m)) (h1 : starEach [n, c, .Constant (.int 0) j1 p1, .Constant (.int 0) j2 p2] X.env = (false, eval n X.env) :: starEach [c, .Constant (.int 0) j1 p1, .Constant (.int 0) j2 p2] X.env := by rfl)
    (h2 : starEach [c, .Constant (.int 0) j1 p1, .Constant (.int 0) j2 p2] X.env = (false, eval c X.env) :: starEach [.Constant (.int 0) j1 p1, .Constant (.int 0) j2 p2] X.env := by rfl) :
    PS X (.Return (some (.List [n, c, .Constant (.int 0) j1 p1, .Constant (.int 0) j2 p2] pos)) pos') (tSd X.K (retD i m)) :=
  PS.imp (ps_ret (pe_lst (pa_cons hn (pa_cons hc (pa_cons pe_int (pa_cons pe_int pa_nil))  h2) h1))) fun E σ H ⟨C, ρ, A, p⟩ => by
    unfold retD aVar at p
    split at p
    · rename_i d ds u ed em
      split at ed
      · rename_i d' hr
        cases ed
        cases el : intsD ds with
        | none => rw [el] at p; exact p.elim
        | some l =>
          rw [el] at p
          obtain ⟨v, h1, h2⟩ := A.val i _ hr
          refine ⟨v, h1, C, ρ, (), A, ?_⟩
          rw [em]
          intro y H1 sm iv r
          obtain ⟨b, vs, rfl, nb, hb0, hb1, rr, _⟩ := r
          have ev := intsD_ok rr el
          subst ev
          refine ⟨by show 4 ≤ sizeLine; decide, fun a na => ?_⟩
          have ne : a ≠ b := fun z => by rw [z, hb1] at na; cases na
          have key : ∀ x, x = a → Fo C.F ρ σ x ∨ H x = none := fun x e => by
            by_cases q : Fo C.F ρ σ x
            · exact .inl q
            · right
              cases z : H x with
              | none => rfl
              | some o =>
                have := sm x o (fun w => q (.inl w)) z
                rw [e, na] at this; cases this
          have st : Stp (Fo C.F ρ σ) H (fun x => C.F x ∨ x = a ∨ x = b) (upd H1 a (.lst [v, .ref b, .int 0, .int 0])) := ⟨fun x o n e => by
            have e1 := sm x o (fun w => n (.inl w)) e
            rw [upd_ne (fun z => by rw [z, na] at e1; cases e1)]
            exact e1, fun x h => by
            rcases h with h | h | h
            · exact .inl (.inl h)
            · exact key x h
            · rw [h]; exact .inr hb0⟩
          exact p v a b _ st (h2.step st) ne upd_same (by rw [upd_ne (Ne.symm ne)]; exact hb1)
      · cases ed
    · exact p.elim
end
def spDk (np : Nat) (K : Fg) (m : List D → Option (D × List Int)) : Sp := fun vs H Q _ => ∃ (C : SC Unit) (ds : List D), C.Iv () C.F H ∧ Reps K C.F H vs ds ∧ ds.length = np ∧ SPostD K C C.F H (m ds) Q
def runD (n : Nat) (mb : MSd) : List D → Option (D × List Int) := fun ds => mb (ds.map Slot.val ++ List.replicate (n - ds.length) .no)
theorem fn_mkD {P : Program} {w : World} {K : Fg} {mg : Str → Option Value} {base : Heap} {x qual : Str} {params : Arguments} {body : List Stmt} {scope : Scope} {dvs : List V} {kws : List (Str × V)} {f : Addr} {fd : FuncData} {N ps : List Str} {k : Nat}
    (F : FunD K x qual params body scope dvs kws f fd) (S : FnScope N ps scope) (mb : MSd)
    (hb : ∀ (cdv : Value) (A : Around) (outer : List Env) (s : Shared) (H : Hp) (E : XK), Room k (A.deeper (envOfC qual scope s.heap.objs.size f cdv)) →
      PSs (cxOf (L2.CX P w) P w K mg base N qual scope f cdv A outer s H E) body (tSd K mb)) : FnOk P w K mg base (L2.CX P w) (k + 1) f fd ps (spDk ps.length K (runD N.length mb)) := by
  have hpl : ps.length ≤ N.length := by have := congrArg List.length S.pre; rw [List.length_take] at this; omega
  refine F.ok S (fun vs H Q E ⟨C, ds, _, r, hl, _⟩ => r.length.trans hl) fun cdv A outer s H vs Q E hr ⟨C, ds, iv, r, hl, p⟩ => ⟨_, hb cdv A outer s H E hr, C, _, At.start trivial iv r (by rw [hl]; exact hpl), ?_⟩
  unfold runD at p
  exact SPostD.rebase p ⟨fun b o n e => e, fun b h => .inl (FoStart h)⟩
structure DefD (P : Program) (w : World) (K : Fg) (mg : Str → Option Value) (base : Heap) (k : Nat) (x : Str) (np : Nat) (m : List D → Option (D × List Int)) : Prop where
  ex : ∃ (fd : FuncData) (ps : List Str) (ds : List Value), FnOk P w K mg base (L2.CX P w) k (He.ga K x) fd ps (spDk np K m) ∧ mg x = some (.ref (He.ga K x)) ∧ PySem.W.keepIn K (.ref (He.ga K x)) = true ∧ Binds K fd ps ds ∧ Vals [] ds
theorem DefD.mk' {P : Program} {w : World} {K : Fg} {mg : Str → Option Value} {base : Heap} {x qual : Str} {params : Arguments} {body : List Stmt} {scope : Scope} {dvs : List V} {kws : List (Str × V)} {fd : FuncData} {N ps : List Str} {k : Nat}
    (F : FunD K x qual params body scope dvs kws (He.ga K x) fd) (hm : mg x = some (.ref (He.ga K x))) (S : FnScope N ps scope) (mb : MSd) (hb : ∃ ds, Vals [] ds ∧ Binds K fd ps ds)
    (hbody : ∀ (cdv : Value) (A : Around) (outer : List Env) (s : Shared) (H : Hp) (E : XK), Room k (A.deeper (envOfC qual scope s.heap.objs.size (He.ga K x) cdv)) →
      PSs (cxOf (L2.CX P w) P w K mg base N qual scope (He.ga K x) cdv A outer s H E) body (tSd K mb)) : DefD P w K mg base (k + 1) x ps.length (runD N.length mb) := by
  obtain ⟨ds, h1, h2⟩ := hb
  exact ⟨fd, ps, ds, fn_mkD F S mb hbody, hm, F.kp, h2, h1⟩
theorem DefD.mono {P : Program} {w : World} {K : Fg} {mg : Str → Option Value} {base : Heap} {j k : Nat} {x : Str} {np : Nat} {m : List D → Option (D × List Int)} (F : DefD P w K mg base j x np m) (h : j ≤ k) : DefD P w K mg base k x np m := by
  obtain ⟨fd, ps, ds, F, r⟩ := F.ex
  exact ⟨fd, ps, ds, F.mono h, r⟩

theorem stp_or {G G' S : Fp} {H H' : Hp} (s : Stp G H G' H') (h : ∀ b o, S b → H b = some o → H' b = some o) : Stp (fun x => G x ∨ S x) H (fun x => G' x ∨ S x) H' :=
  ⟨fun b o n e => s.keep b o (fun z => n (.inl z)) e, fun b h => h.elim (fun z => (s.new b z).elim (fun z => .inl (.inl z)) .inr) fun z => .inl (.inr z)⟩
structure DkIv (K : Fg) (a b : Addr) (t : Dk) (G : Fp) (H : Hp) : Prop where
  ea : t.a = a
  eb : t.b = b
  ne : a ≠ b
  cells : ∃ sv, Rep K (fun x => G x ∨ (x = a ∨ x = b)) H sv t.scr ∧ H a = some (.lst [sv, .ref b, .int (t.pos : Nat), .int (t.cnt : Nat)]) ∧ H b = some (.lst (t.big.map V.int))
def SC.dk (K : Fg) (a b : Addr) : SC Dk where
  F := fun x => x = a ∨ x = b
  Iv := DkIv K a b
  dom := fun t G H x h hx => by
    obtain ⟨sv, _, h2, h3⟩ := h.cells
    rcases hx with rfl | rfl
    · rw [h2]; intro z; cases z
    · rw [h3]; intro z; cases z
  step := fun t G H G' H' h1 h2 s => by
    obtain ⟨sv, r, e1, e2⟩ := h1.cells
    exact ⟨h1.ea, h1.eb, h1.ne, sv, r.step (stp_or s h2), h2 _ _ (.inl rfl) e1, h2 _ _ (.inr rfl) e2⟩
theorem dkOk (K : Fg) (a b : Addr) : DkOk K (SC.dk K a b) where
  at_ := fun t G H i => by
    obtain ⟨sv, r, e1, e2⟩ := i.cells
    refine ⟨.inl i.ea, .inr i.eb, by rw [i.ea, i.eb]; exact i.ne, sv, r.anti fun _ => .inl, by rw [i.ea, i.eb]; exact e1, by rw [i.eb]; exact e2⟩
  up := fun t t' G H H' sv i ea eb es ha ho h1 h2 => by
    obtain ⟨sv', r, e1, e2⟩ := i.cells
    have esv : sv' = sv := by
      rw [i.ea, e1] at ha
      injection ha with ha
      injection ha with ha
      injection ha with ha
    subst esv
    rw [i.ea] at h1 ho
    rw [i.eb] at h1 h2 ho
    refine ⟨by rw [ea]; exact i.ea, by rw [eb]; exact i.eb, i.ne, sv', ?_, h1, h2⟩
    rw [es]
    exact r.same fun x o n e => by rw [ho x (fun z => n (.inr (.inl z))) (fun z => n (.inr (.inr z)))]; exact e
theorem At.toDk {K : Fg} {C : SC Unit} {ρ : Rho} {σ : St} {H H' : Hp} {sv : V} {a b : Addr} {i : Nat} {d : D} {big : List Int} (A : At K C ρ () σ H) (hF : ∀ x, ¬ C.F x) (hno : ∀ (j : Nat) (x : Slot), ¬ (ρ[j]? = some x ∧ x.mine = true))
    (s : Stp (Fo C.F ρ σ) H (fun x => C.F x ∨ x = a ∨ x = b) H') (r : Rep K (fun x => C.F x ∨ x = a ∨ x = b) H' sv d) (ne : a ≠ b) (ha : H' a = some (.lst [sv, .ref b, .int 0, .int 0])) (hb : H' b = some (.lst (big.map V.int))) :
    At K (SC.dk K a b) (ρ.set i (.val (.at a))) ⟨a, b, d, big, 0, 0⟩ (σ.set i (some (.ref a))) H' := by
  have hno' : ∀ (j : Nat) (x : Slot), ¬ ((ρ.set i (.val (.at a)))[j]? = some x ∧ x.mine = true) := fun j xs ⟨h, hm⟩ => by
    rcases set_at h with ⟨_, e, _⟩ | ⟨_, h⟩
    · cases e; cases hm
    · exact hno j xs ⟨h, hm⟩
  have sub : ∀ x, Fo (SC.dk K a b).F (ρ.set i (.val (.at a))) (σ.set i (some (.ref a))) x → C.F x ∨ x = a ∨ x = b := fun x h => by
    rcases h with h | ⟨j, xs, h, _⟩
    · exact .inr h
    · exact absurd h (hno' j xs)
  exact {
    okC := dkOk K a b
    st := ⟨rfl, rfl, ne, sv, r.anti fun x h => h.elim (sub x) .inr, ha, hb⟩
    len := by simp [A.len]
    val := fun j e h => by
      rcases set_at h with ⟨rfl, e1, hl⟩ | ⟨nj, h⟩
      · cases e1
        exact ⟨_, List.getElem?_set_self (by rw [A.len]; exact hl), .at a⟩
      · obtain ⟨w, h1, h2⟩ := A.val j e h
        exact ⟨w, by rw [List.getElem?_set_ne nj]; exact h1, (h2.step s).anti sub⟩
    mine := fun j xs h => absurd h (hno' j xs)
    dis := fun j k xs ys h => absurd h (hno' j xs) }
def lawIs (n : Nat) (m : List D → Option (D × List Int)) (rest : MS Dk) (ns : List Int) : Prop := ∃ d big, m [.scr ns] = some (d, big) ∧ ∀ a b, ∃ t, rest ((Slot.val (.scr ns) :: List.replicate (n - 1) .no).set 1 (.val (.at a))) ⟨a, b, d, big, 0, 0⟩ = .rt (.bl true) t
def spLaw (K : Fg) (n : Nat) (m : List D → Option (D × List Int)) (rest : MS Dk) : Sp := fun vs H Q _ => ∃ (a : Addr) (ns : List Int), vs = [.ref a] ∧ SqL K H a (ns.map V.int) ∧ lawIs n m rest ns ∧ ∀ H', Q (.bl true) H'
section
variable {P : Program} {w : World} {K : Fg} {mg : Str → Option Value} {base : Heap}
theorem start_none {n : Nat} {d : D} {j : Nat} {x : Slot} : ¬ ((Slot.val d :: List.replicate n .no)[j]? = some x ∧ x.mine = true) := by
  rintro ⟨h, hm⟩
  cases j with
  | zero => cases h; cases hm
  | succ j =>
    rw [List.getElem?_cons_succ, List.getElem?_replicate] at h
    split at h
    · cases h; cases hm
    · cases h
theorem law_fn {fd : FuncData} {N : List Str} {params : Arguments} {s0 : Stmt} {r : List Stmt} {scope : Scope} {dvs : List V} {kws : List (Str × V)} {k : Nat} {m : List D → Option (D × List Int)} {rest : MS Dk} {nd : Str}
    (F : FunD K "law" "law" params (s0 :: r) scope dvs kws (He.ga K "law") fd) (S : FnScope N ["_law_script"] scope) (hn : 2 ≤ N.length)
    (D0 : DefD P w K mg base k nd 1 m)
    (h0 : ∀ (cdv : Value) (A : Around) (outer : List Env) (s : Shared) (H : Hp) (E : XK), Room k (A.deeper (envOfC "law" scope s.heap.objs.size (He.ga K "law") cdv)) →
      PS (cxOf (L2.CX P w) P w K mg base N "law" scope (He.ga K "law") cdv A outer s H E) s0 (tAsg (tCallSD (spDk 1 K m) [] (WE fun cls d _ H => E cls d H) (tCons (tVar 0) tNil)) (gName 1)))
    (hr : ∀ (cdv : Value) (A : Around) (outer : List Env) (s : Shared) (H : Hp) (E : XK), Room k (A.deeper (envOfC "law" scope s.heap.objs.size (He.ga K "law") cdv)) →
      PSs (cxOf (L2.CX P w) P w K mg base N "law" scope (He.ga K "law") cdv A outer s H E) r (tS K (fun cls d _ H => E cls d H) rest)) :
    FnOk P w K mg base (L2.CX P w) (k + 1) (He.ga K "law") fd ["_law_script"] (spLaw K N.length m rest) := by
  refine F.ok S (fun vs H Q E ⟨a, ns, e, _⟩ => by rw [e]; rfl) fun cdv A outer s H vs Q E hrm ⟨a, ns, e, hs, good, hq⟩ => ⟨_, pss_cons (h0 cdv A outer s H E hrm) (hr cdv A outer s H E hrm), ?_⟩
  subst e
  obtain ⟨d, big, em, good⟩ := good
  have dm : Dom (fun _ => False) H := fun b h => h.elim
  have iv0 : (SC.pure (fun _ => False) H dm).Iv () (fun _ => False) H := ⟨Stp.refl _ _, fun _ _ _ e => e⟩
  have rs : Rep K (fun _ => False) H (.ref a) (.scr ns) := .scr (by
    rcases hs with hs | hs
    · exact .inl ⟨fun z => z, hs⟩
    · exact .inr hs)
  have A0 : At K (SC.pure (fun _ => False) H dm) (Slot.val (.scr ns) :: List.replicate (N.length - 1) .no) () (start N [.ref a]) H := At.start (ds := [.scr ns]) trivial iv0 (.cons rs .nil) (by simp; omega)
  refine ⟨.ref a, rfl, SC.pure (fun _ => False) H dm, [.scr ns], iv0, .cons rs .nil, rfl, ?_⟩
  rw [em]
  intro sv x y H' st r ne hx hy
  have A1 := A0.toDk (i := 1) (fun _ z => z) (fun j xs => start_none) ⟨fun b o n e => st.keep b o (fun z => z) e, fun b h => (st.new b h).elim False.elim .inr⟩ r ne hx hy
  obtain ⟨t, et⟩ := good x y
  refine ⟨_, _, _, A1, ?_⟩
  rw [et]
  intro v H2 _ _ r2
  cases r2
  exact hq H2
end
section
variable {chk : Chk} {fn : List He.DefD} {K : Fg}
theorem SaysM.fact (c : SaysM chk fn K) (i : Nat) {f : Fg → Bool} (h : chk[i]? = some f := by rfl) : f K = true := by
  have c1 := (He.ba (show ((chk.all fun f => f K) && fn.all fun d => d.ok K) = true from congrArg (fun z : He.AlD => z.1) c)).1
  exact List.all_eq_true.mp c1 f (List.mem_of_getElem? h)
theorem SaysM.def_ (c : SaysM chk fn K) (i : Nat) {d : He.DefD} (h : fn[i]? = some d := by rfl) : ∃ fd, FunD K d.name d.qual d.params d.body d.scope (d.dvs K) (d.kws K) (He.fAd K d.at_) fd := by
  have c2 := (He.ba (show ((chk.all fun f => f K) && fn.all fun d => d.ok K) = true from congrArg (fun z : He.AlD => z.1) c)).2
  have e : fn.map (fun d => He.fnW K d.at_) = fn.map He.DefD.val := congrArg (fun z : He.AlD => z.2) c
  have e2 : (fn.map fun d => He.fnW K d.at_)[i]? = (fn.map He.DefD.val)[i]? := by rw [e]
  rw [List.getElem?_map, List.getElem?_map, h] at e2
  exact He.DefD.funD (Option.some.inj e2) (List.all_eq_true.mp c2 d (List.mem_of_getElem? h))
end
end MM

namespace MM
open PySem PySem.Spec PyProof.Rows L2
section
variable {K : Fg} {h : Heap} {mg : Str → Option Value}
theorem cGlo_ok {x : Str} (X : K.In h) (G : h.Ns mainGlobals mg) (c : cGlo x K = true) : mg x = some (.ref (He.ga K x)) := He.glo_ok X G c
theorem cFree_ok {x : Str} (X : K.In h) (G : h.Ns mainGlobals mg) (c : cFree x K = true) : mg x = none := He.free_ok X G c
theorem cExc_ok {x : Str} (X : K.In h) (G : h.Ns mainGlobals mg) (c : cExc x K = true) : ExcF K mg x := by
  obtain ⟨c, g⟩ := He.ba c
  have c' : (PySem.W.excIn K (He.ga K x) He.veBase "ValueError.__new__" && (PySem.W.keepIn K (.ref (He.ga K x)) && (decide (PySem.W.subIn K (.ref (He.ga K x)) (.type "BaseException") = some true) && decide (PySem.W.typeIn K (.ref (He.ga K x)) = some (.type "type"))))) = true := c
  obtain ⟨c1, c'⟩ := He.ba c'
  obtain ⟨c2, c'⟩ := He.ba c'
  obtain ⟨c3, c4⟩ := He.ba c'
  exact ⟨c1, He.glo_ok X G g, c2, of_decide_eq_true c3, of_decide_eq_true c4⟩
theorem cExcC_ok {x : Str} (c : cExcC x K = true) : ExcC K (He.ga K x) := by
  unfold cExcC at c
  obtain ⟨c1, c⟩ := He.ba c
  obtain ⟨c2, c⟩ := He.ba c
  obtain ⟨c3, c⟩ := He.ba c
  obtain ⟨c4, c⟩ := He.ba c
  obtain ⟨c5, c⟩ := He.ba c
  obtain ⟨c6, c⟩ := He.ba c
  obtain ⟨c7, c8⟩ := He.ba c
  exact ⟨of_decide_eq_true c1, of_decide_eq_true c2, of_decide_eq_true c3, c4, of_decide_eq_true c5, of_decide_eq_true c6, of_decide_eq_true c7, of_decide_eq_true c8⟩
theorem cKit_ok {x : Str} {v : Fg → Value} {b : Bool} (c : cKit x v b K = true) : PySem.W.kitOne K (.ref (He.ga K x)) (v K) = some b := of_decide_eq_true c
theorem cExm_ok {x : Str} {v : Fg → Value} {b : Bool} (c : cExm x v b K = true) : PySem.W.exmOne K (.ref (He.ga K x)) (v K) = some b := of_decide_eq_true c
theorem cLim_ok (c : cLim K = true) : NoLim K := of_decide_eq_true c
end
mutual
theorem isDV_ok {K : Fg} : ∀ (n : Nat) (v : Value) (d : D), isDV K n v d = true → ∃ x : V, RelV x v ∧ ∀ F H, Rep K F H x d := by
  intro n v d h
  unfold isDV at h
  split at h
  · exact ⟨.non, rfl, fun _ _ => .non⟩
  · rename_i b c
    have e : b = c := eq_of_beq h
    subst e
    exact ⟨.bl b, rfl, fun _ _ => .bl _⟩
  · rename_i i t j
    have e : i = j := of_decide_eq_true h
    subst e
    exact ⟨.int i, ⟨t, rfl⟩, fun _ _ => .int _⟩
  · rename_i i t j
    have e : i = j := of_decide_eq_true h
    subst e
    exact ⟨.str i, ⟨t, rfl⟩, fun _ _ => .str _⟩
  · rename_i n a ds
    split at h
    · rename_i c od its m sl q
      obtain ⟨h1, h⟩ := He.ba h
      obtain ⟨h2, h3⟩ := He.ba h
      obtain ⟨xs, r1, r2⟩ := isDVs_ok n its.toList ds h3
      exact ⟨.ref a, rfl, fun F H => .tup (.inr ⟨_, its, m, q, congrArg Value.type (of_decide_eq_true h1), rfl, of_decide_eq_true h2, r1⟩) (r2 F H)⟩
    · cases h
  · cases h
theorem isDVs_ok {K : Fg} : ∀ (n : Nat) (vs : List Value) (ds : List D), isDVs K n vs ds = true → ∃ xs : List V, Vals xs vs ∧ ∀ F H, Reps K F H xs ds := by
  intro n vs ds h
  unfold isDVs at h
  split at h
  · exact ⟨[], .nil, fun _ _ => .nil⟩
  · rename_i v vs d ds
    obtain ⟨h1, h2⟩ := He.ba h
    obtain ⟨x, r1, r2⟩ := isDV_ok n v d h1
    obtain ⟨xs, q1, q2⟩ := isDVs_ok n vs ds h2
    exact ⟨x :: xs, .cons r1 q1, fun F H => .cons (r2 F H) (q2 F H)⟩
  · cases h
end
theorem cVal_ok {K : Fg} {h : Heap} {mg : Str → Option Value} {x : Str} {d : D} (X : K.In h) (G : h.Ns mainGlobals mg) (c : cVal x d K = true) : Glc K mg x d := by
  unfold cVal at c
  split at c
  · rename_i v e
    obtain ⟨y, r1, r2⟩ := isDV_ok 8 v d c
    exact ⟨y, v, PySem.W.mg_of X G e, r1, r2⟩
  · cases c
theorem room_k {k : Nat} (h : k ≤ 60) : Room k callerA := Room.mono (k := 60) ⟨rfl, by decide, by decide⟩ h
theorem pe_deck {X : Cx} {W : WX} {k : Nat} {x : Str} {m : List D → Option (D × List Int)} {e : Expr} {p pos : Pos} {t : TA} (Df : DefD X.prog X.w X.K X.mg X.base k x 1 m) (hr : Room k X.A) (tk : Takes X W) (hg : Gl X x) (ha : PA X [e] t)
    (hdb : (x == ("__debug__" : Str)) = false := by decide) (he : starEach [e] X.env = (false, eval e X.env) :: starEach [] X.env := by rfl) (hpl : (backTo pos (starEach [] X.env)).any (·.1) = false := by rfl) :
    PE X (.Call (.Name x p) [e] [] pos) (tCallSD (spDk 1 X.K m) [] (WE W) t) := by
  obtain ⟨fd, ps, ds, F, hm, hk, hb, hd⟩ := Df.ex
  exact pe_callSD F hr hg hm hk hb hd (fun σ => passAt tk σ) ha hdb he hpl
theorem walk_mm {l : PySem.W.OpenLaw} {n k nn : Nat} {q : Program} {loose : List Str} {XP : (Str → Option Value) → Heap → Prop} {chk : Chk} {fn : List He.DefD} {d : DefRec} {N : Nat} {m : List D → Option (D × List Int)} {rest : MS Dk}
    (hn : l.most = some n) (hn2 : n ≤ sizeLine) (hdf : d.params.defaults = []) (hname : d.name = "law") (hr : Room k callerA)
    (F : ∀ (w : World) (mg : Str → Option Value) (K : Fg) (h : Heap), K.In h → h.Ns mainGlobals mg → SaysM chk fn K → mg "law" = some (.ref (He.ga K "law")) ∧
      ∃ fd : FuncData, (∀ (s : Shared) (u : Value), BindsTo s fd ⟨[u], []⟩ [("_law_script", u)]) ∧ ∀ base : Heap, FnOk l.prog w K mg base (L2.CX l.prog w) k (He.ga K "law") fd ["_law_script"] (spLaw K N m rest))
    (good : ∀ ns : List Int, ns.length ≤ n → (∀ z ∈ ns, Builtin.Int.intBits z ≤ 1048576) → lawIs N m rest ns) :
    PySem.W.WalkO q loose XP (hookM nn chk fn).says l.row.toRowW d [] (fun f vs => PySem.call f vs) := by
  refine Att.attach_callB hn hdf fun w s₀ s₁ mg mb fa o pm cd doc a vs ns G Y ho hd hcd hmg hobj hints hlen hbits hg => ?_
  obtain ⟨K, KX, sm⟩ := Y
  obtain ⟨e1, fd, hb, hF⟩ := F w mg K _ KX G.T.g sm
  rw [hname, e1] at hmg
  injection hmg with hmg
  injection hmg with hmg
  subst hmg
  refine law_call KX G.T.g G.T.b G.T.builtins G.T.nolimit hg hobj hints (Nat.le_trans hlen hn2) hr (fun base _ _ => hF base) hb (fun H _ hS => ⟨a, ns, rfl, hS, good ns hlen hbits, fun _ => rfl⟩) fun H e s' => ?_
  rintro ⟨a, B, H', cls, dd, _, _, _, _, _, _, _, z⟩
  exact z
end MM

namespace MM
open PySem PySem.Spec PyProof.Rows L2
section
variable {τ : Type}
def oE {α : Type} (r : Res τ α) (Q : α → τ → Prop) (X : Str → Fds → τ → Prop) : Prop := match r with
  | .ok a t => Q a t
  | .ex n fs t => X n fs t
  | .bad => False
structure Pt (τ : Type) where
  nx : Rho → τ → Prop
  rt : D → τ → Prop
  ex : Str → Fds → Rho → τ → Prop := fun _ _ _ _ => False
  bk : Rho → τ → Prop := fun _ _ => False
  ct : Rho → τ → Prop := fun _ _ => False
def oS (r : Fl τ) (P : Pt τ) : Prop := match r with
  | .nx ρ t => P.nx ρ t
  | .rt d t => P.rt d t
  | .ex n fs ρ t => P.ex n fs ρ t
  | .bk ρ t => P.bk ρ t
  | .ct ρ t => P.ct ρ t
  | .bad => False
section
variable {α β γ δ : Type} {Q : α → τ → Prop} {X : Str → Fds → τ → Prop} {P : Pt τ}
@[simp] theorem oE_ok {a : α} {t : τ} : oE (.ok a t) Q X = Q a t := rfl
@[simp] theorem oE_ex {n : Str} {fs : Fds} {t : τ} : oE (α := α) (.ex n fs t) Q X = X n fs t := rfl
@[simp] theorem oE_bad : oE (α := α) .bad Q X = False := rfl
@[simp] theorem oE_bind {r : Res τ β} {k : β → τ → Res τ α} : oE (r.bind k) Q X = oE r (fun b t => oE (k b t) Q X) X := by cases r <;> rfl
@[simp] theorem oE_opt {o : Option α} {t : τ} : oE (opt o t) Q X = ∃ a, o = some a ∧ Q a t := by
  cases o with
  | none => simp [opt, oE]
  | some a => simp [opt, oE]
@[simp] theorem oE_ite {c : Prop} [Decidable c] {a b : Res τ α} : oE (if c then a else b) Q X = ((c → oE a Q X) ∧ (¬ c → oE b Q X)) := by
  by_cases h : c <;> simp [h]
theorem oE_imp {r : Res τ α} {Q' : α → τ → Prop} {X' : Str → Fds → τ → Prop} (h : oE r Q' X') (i : ∀ a t, Q' a t → Q a t) (ix : ∀ n fs t, X' n fs t → X n fs t) : oE r Q X := by
  cases r with
  | ok a t => exact i _ _ h
  | ex n fs t => exact ix _ _ _ h
  | bad => exact h
theorem oE_eq {r : Res τ α} {v : α} {u : τ} (h : oE r (fun a t => a = v ∧ t = u) (fun _ _ _ => False)) : r = .ok v u := by
  cases r with
  | ok a t => obtain ⟨rfl, rfl⟩ := h; rfl
  | ex n fs t => exact h.elim
  | bad => exact h.elim
theorem oE_eqx {r : Res τ α} {n : Str} {fs : Fds} {u : τ} (h : oE r (fun a t => False) (fun m gs t => m = n ∧ gs = fs ∧ t = u)) : r = .ex n fs u := by
  cases r with
  | ok a t => exact h.elim
  | ex m gs t => obtain ⟨rfl, rfl, rfl⟩ := h; rfl
  | bad => exact h.elim
theorem oE_ex' {r : Res τ α} (h : oE r Q (fun _ _ _ => False)) : ∃ a t, r = .ok a t ∧ Q a t := by
  cases r with
  | ok a t => exact ⟨a, t, rfl, h⟩
  | ex n fs t => exact h.elim
  | bad => exact h.elim
theorem oS_imp {r : Fl τ} {P' : Pt τ} (h : oS r P') (i1 : ∀ ρ t, P'.nx ρ t → P.nx ρ t) (i2 : ∀ d t, P'.rt d t → P.rt d t) (i3 : ∀ n fs ρ t, P'.ex n fs ρ t → P.ex n fs ρ t) (i4 : ∀ ρ t, P'.bk ρ t → P.bk ρ t) (i5 : ∀ ρ t, P'.ct ρ t → P.ct ρ t) : oS r P := by
  cases r with
  | nx => exact i1 _ _ h
  | rt => exact i2 _ _ h
  | ex => exact i3 _ _ _ _ h
  | bk => exact i4 _ _ h
  | ct => exact i5 _ _ h
  | bad => exact h
variable {ρ : Rho} {t : τ}
@[simp] theorem oE_var {i : Nat} {Q : D → τ → Prop} : oE (eVar i ρ t) Q X = (match ρ[i]? with | some (.val d) => Q d t | _ => False) := by
  unfold eVar; split <;> simp_all [oE]
@[simp] theorem oE_varW {i : Nat} {Q : D → τ → Prop} : oE (eVarW i ρ t) Q X = (match ρ[i]? with | some (.val d) => Q d t | some (.own xs) => Q (.lst xs) t | some (.dct ks xs) => Q (.dct ks xs) t | _ => False) := by
  unfold eVarW; split <;> simp_all [oE]
@[simp] theorem oE_c {d : D} {Q : D → τ → Prop} : oE (eC d ρ t) Q X = Q d t := rfl
@[simp] theorem oE_e1 {f : β → Option α} {a : ME τ β} : oE (e1 f a ρ t) Q X = oE (a ρ t) (fun d t => ∃ z, f d = some z ∧ Q z t) X := by unfold e1; simp
@[simp] theorem oE_e2 {f : β → γ → Option α} {a : ME τ β} {b : ME τ γ} : oE (e2 f a b ρ t) Q X = oE (a ρ t) (fun d t => oE (b ρ t) (fun e t => ∃ z, f d e = some z ∧ Q z t) X) X := by unfold e2; simp
@[simp] theorem oE_e3 {f : β → γ → δ → Option α} {a : ME τ β} {b : ME τ γ} {c : ME τ δ} : oE (e3 f a b c ρ t) Q X = oE (a ρ t) (fun d t => oE (b ρ t) (fun e t => oE (c ρ t) (fun g t => ∃ z, f d e g = some z ∧ Q z t) X) X) X := by unfold e3; simp
@[simp] theorem oE_not {a : ME τ Bool} {Q : Bool → τ → Prop} : oE (tNot1 a ρ t) Q X = oE (a ρ t) (fun b t => Q (!b) t) X := by unfold tNot1; simp
@[simp] theorem oE_and {a b : ME τ Bool} {Q : Bool → τ → Prop} : oE (tAnd2 a b ρ t) Q X = oE (a ρ t) (fun c t => (c = true → oE (b ρ t) Q X) ∧ (¬ c = true → Q false t)) X := by unfold tAnd2; simp
@[simp] theorem oE_or {a b : ME τ Bool} {Q : Bool → τ → Prop} : oE (tOr2 a b ρ t) Q X = oE (a ρ t) (fun c t => (c = true → Q true t) ∧ (¬ c = true → oE (b ρ t) Q X)) X := by unfold tOr2; simp
@[simp] theorem oE_andE {a b : ME τ D} {Q : D → τ → Prop} : oE (eAnd2 a b ρ t) Q X = oE (a ρ t) (fun d t => ∃ c, asB d = some c ∧ ((c = true → oE (b ρ t) Q X) ∧ (¬ c = true → Q (.bl false) t))) X := by unfold eAnd2; simp
@[simp] theorem oE_notE {a : ME τ D} {Q : D → τ → Prop} : oE (eNot1 a ρ t) Q X = oE (a ρ t) (fun d t => ∃ c, asB d = some c ∧ Q (.bl (!c)) t) X := by unfold eNot1; simp
@[simp] theorem oE_nil {Q : List α → τ → Prop} : oE (aNil ρ t) Q X = Q [] t := rfl
@[simp] theorem oE_cons {a : ME τ α} {b : ME τ (List α)} {Q : List α → τ → Prop} : oE (aCons a b ρ t) Q X = oE (a ρ t) (fun d t => oE (b ρ t) (fun ds t => Q (d :: ds) t) X) X := by unfold aCons; simp
@[simp] theorem oE_tup {a : ME τ (List D)} {Q : D → τ → Prop} : oE (eTup a ρ t) Q X = oE (a ρ t) (fun ds t => ds.length ≤ 16777216 ∧ Q (.tup ds) t) X := by
  unfold eTup; rw [oE_e1]; congr; funext ds t; unfold lim
  by_cases h : ds.length ≤ 16777216 <;> simp [h]
@[simp] theorem ex_lim {ds : List α} {Q : List α → Prop} : (∃ z, lim ds = some z ∧ Q z) ↔ ds.length ≤ 16777216 ∧ Q ds := by
  unfold lim
  by_cases h : ds.length ≤ 16777216 <;> simp [h]
@[simp] theorem oE_lst {a : ME τ (List D)} {Q : D → τ → Prop} : oE (eLst a ρ t) Q X = oE (a ρ t) (fun ds t => Q (.lst ds) t) X := by unfold eLst; simp
@[simp] theorem oE_call {m : List D → Unit → Res Unit D} {df : List D} {a : ME τ (List D)} {Q : D → τ → Prop} : oE (eCall m df a ρ t) Q X = oE (a ρ t) (fun ds t => oE (m (ds ++ df) ()) (fun d _ => Q d t) (fun n fs _ => X n fs t)) X := by
  unfold eCall; rw [oE_bind]; congr; funext ds t
  cases m (ds ++ df) () <;> rfl
@[simp] theorem oE_callS {m : List D → τ → Res τ D} {df : List D} {a : ME τ (List D)} {Q : D → τ → Prop} : oE (eCallS m df a ρ t) Q X = oE (a ρ t) (fun ds t => oE (m (ds ++ df) t) Q X) X := by unfold eCallS; simp
@[simp] theorem oE_oNone {Q : Option Int → τ → Prop} : oE (oNone ρ t) Q X = Q none t := rfl
@[simp] theorem oE_oSome {a : ME τ D} {Q : Option Int → τ → Prop} : oE (oSome a ρ t) Q X = oE (a ρ t) (fun d t => ∃ i, d = .int i ∧ Q (some i) t) X := by
  unfold oSome; rw [oE_e1]; congr; funext d t
  cases d <;> simp
@[simp] theorem aVar_eq {i : Nat} : aVar i ρ = (match ρ[i]? with | some (.val d) => some d | _ => none) := rfl
@[simp] theorem keyOf_int {i : Int} : keyOf (.int i) = some (.inl i) := rfl
@[simp] theorem keyOf_str {i : Str} : keyOf (.str i) = some (.inr i) := rfl
@[simp] theorem oE_run {n : Nat} {b : MS τ} {ds : List D} {Q : D → τ → Prop} : oE (runB n b ds t) Q X = oS (b (ds.map Slot.val ++ List.replicate (n - ds.length) .no) t) { nx := fun _ t => Q .non t, rt := Q, ex := fun n fs _ t => X n fs t } := by
  unfold runB; cases b (ds.map Slot.val ++ List.replicate (n - ds.length) .no) t <;> rfl
@[simp] theorem oS_nx : oS (.nx ρ t) P = P.nx ρ t := rfl
@[simp] theorem oS_rt {d : D} : oS (.rt d t) P = P.rt d t := rfl
@[simp] theorem oS_bk : oS (.bk ρ t) P = P.bk ρ t := rfl
@[simp] theorem oS_ct : oS (.ct ρ t) P = P.ct ρ t := rfl
@[simp] theorem oS_ex {n : Str} {fs : Fds} : oS (.ex n fs ρ t) P = P.ex n fs ρ t := rfl
@[simp] theorem oS_bad : oS .bad P = False := rfl
@[simp] theorem oS_ite {c : Prop} [Decidable c] {a b : Fl τ} : oS (if c then a else b) P = ((c → oS a P) ∧ (¬ c → oS b P)) := by
  by_cases h : c <;> simp [h]
def Nxt (b : MS τ) (ρ : Rho) (t : τ) (P : Pt τ) : Prop := oS (b ρ t) P
@[simp] theorem oS_seq {a b : MS τ} : oS (sSeq a b ρ t) P = oS (a ρ t) { P with nx := fun ρ t => Nxt b ρ t P } := by
  unfold sSeq Nxt; cases a ρ t <;> rfl
@[simp] theorem oS_skip : oS (sSkip ρ t) P = P.nx ρ t := rfl
theorem oS_do {m : ME τ α} {k : α → Rho → τ → Fl τ} : oS (sDo m k ρ t) P = oE (m ρ t) (fun a t => oS (k a ρ t) P) (fun n fs t => P.ex n fs ρ t) := by
  unfold sDo; cases m ρ t <;> rfl
@[simp] theorem oS_asg {i : Nat} {m : ME τ D} : oS (sAsg (gN i) m ρ t) P = oE (m ρ t) (fun d t => P.nx (ρ.set i (.val d)) t) (fun n fs t => P.ex n fs ρ t) := by
  unfold sAsg; rw [oS_do]; rfl
@[simp] theorem oS_asgT {gs : Tgts} {m : ME τ D} : oS (sAsg (gT gs) m ρ t) P = oE (m ρ t) (fun d t => ∃ ρ', gT gs ρ d = some ρ' ∧ P.nx ρ' t) (fun n fs t => P.ex n fs ρ t) := by
  unfold sAsg; rw [oS_do]; congr; funext d t
  cases gT gs ρ d <;> simp
@[simp] theorem gNil_eq : gNil ρ [] = some ρ := rfl
@[simp] theorem gCons_eq {g : Tgt} {gs : Tgts} {d : D} {ds : List D} : gCons g gs ρ (d :: ds) = (g ρ d).bind fun ρ' => gs ρ' ds := rfl
@[simp] theorem gN_eq {i : Nat} {d : D} : gN i ρ d = some (ρ.set i (.val d)) := rfl
@[simp] theorem gT_tup {gs : Tgts} {ds : List D} : gT gs ρ (.tup ds) = gs ρ ds := rfl
@[simp] theorem oS_ret {m : ME τ D} : oS (sRet m ρ t) P = oE (m ρ t) P.rt (fun n fs t => P.ex n fs ρ t) := by
  unfold sRet; rw [oS_do]; rfl
@[simp] theorem oS_if {c : ME τ Bool} {a b : MS τ} : oS (sIf c a b ρ t) P = oE (c ρ t) (fun k t => (k = true → oS (a ρ t) P) ∧ (¬ k = true → oS (b ρ t) P)) (fun n fs t => P.ex n fs ρ t) := by
  unfold sIf; rw [oS_do]; simp
@[simp] theorem oS_par {i j : Nat} {a b : ME τ D} : oS (sPar i j a b ρ t) P = oE (a ρ t) (fun d t => oE (b ρ t) (fun e t => P.nx ((ρ.set i (.val d)).set j (.val e)) t) (fun n fs t => P.ex n fs ρ t)) (fun n fs t => P.ex n fs ρ t) := by
  unfold sPar; rw [oS_do]; simp
@[simp] theorem oS_raise {n : Str} : oS (sRaise n ρ t) P = P.ex n none ρ t := rfl
@[simp] theorem oS_for {m : ME τ (List D)} {g : Tgt} {b : MS τ} : oS (sFor m g b ρ t) P = oE (m ρ t) (fun ds t => oS (loopF g b ds ρ t) P) (fun n fs t => P.ex n fs ρ t) := by
  unfold sFor; rw [oS_do]
theorem oS_loop_nil {g : Tgt} {b : MS τ} : oS (loopF g b [] ρ t) P = P.nx ρ t := rfl
theorem oS_loop_cons {g : Tgt} {b : MS τ} {d : D} {ds : List D} : oS (loopF g b (d :: ds) ρ t) P = ∃ ρ1, g ρ d = some ρ1 ∧ oS (b ρ1 t) { P with nx := fun ρ t => oS (loopF g b ds ρ t) P, ct := fun ρ t => oS (loopF g b ds ρ t) P, bk := P.nx } := by
  rw [show loopF g b (d :: ds) = fun ρ t => match g ρ d with
    | some ρ1 => (match b ρ1 t with
      | .nx ρ' t' => loopF g b ds ρ' t'
      | .ct ρ' t' => loopF g b ds ρ' t'
      | .bk ρ' t' => .nx ρ' t'
      | r => r)
    | none => .bad from rfl]
  cases e : g ρ d with
  | none => simp [e]
  | some ρ1 =>
    simp only [e, Option.some.injEq, exists_eq_left']
    cases e2 : b ρ1 t <;> simp
theorem oS_rtEx {r : Fl τ} {R : D → τ → Prop} (h : oS r { nx := fun _ _ => False, rt := R }) : ∃ d t, r = .rt d t ∧ R d t := by
  cases r with
  | rt d t => exact ⟨d, t, rfl, h⟩
  | _ => exact h.elim
theorem compL_ok {g : Tgt} {tt : ME Unit Bool} {te : ME Unit D} {ρ : Rho} {p : D → Prop} : ∀ ds : List D, (∀ d ∈ ds, ∃ ρ1, g ρ d = some ρ1 ∧ ∃ b, tt ρ1 () = .ok b () ∧ (b = true → ∃ y, te ρ1 () = .ok y () ∧ p y)) →
    ∃ ys, compL g tt te ρ ds () = .ok ys () ∧ ∀ y ∈ ys, p y
  | [], _ => ⟨[], rfl, fun y h => by cases h⟩
  | d :: ds, h => by
    obtain ⟨ρ1, e1, b, e2, h3⟩ := h d List.mem_cons_self
    obtain ⟨ys, e4, h4⟩ := compL_ok (p := p) ds fun d hd => h d (List.mem_cons_of_mem _ hd)
    unfold compL
    rw [e1]
    dsimp only
    rw [e2]
    cases b with
    | false => exact ⟨ys, e4, h4⟩
    | true =>
      obtain ⟨y, e5, h5⟩ := h3 rfl
      refine ⟨y :: ys, ?_, fun z hz => by rcases List.mem_cons.mp hz with rfl | hz; exact h5; exact h4 z hz⟩
      simp [noEx, e5, e4]
theorem intsD_all : ∀ ys : List D, (∀ y ∈ ys, ∃ i, y = .int i) → ∃ l, intsD ys = some l
  | [], _ => ⟨[], rfl⟩
  | y :: ys, h => by
    obtain ⟨i, rfl⟩ := h y List.mem_cons_self
    obtain ⟨l, e⟩ := intsD_all ys fun y hy => h y (List.mem_cons_of_mem _ hy)
    exact ⟨i :: l, by show (intsD ys).map (i :: ·) = _; rw [e]; rfl⟩
theorem oS_loop {g : Tgt} {b : MS τ} (I : List D → Rho → τ → Prop) : ∀ (ds : List D) (ρ : Rho) (t : τ), I ds ρ t →
    (∀ d ds ρ t, I (d :: ds) ρ t → ∃ ρ1, g ρ d = some ρ1 ∧ oS (b ρ1 t) { P with nx := I ds, ct := I ds, bk := P.nx }) → (∀ ρ t, I [] ρ t → P.nx ρ t) → oS (loopF g b ds ρ t) P
  | [], ρ, t, h, _, hn => hn ρ t h
  | d :: ds, ρ, t, h, hs, hn => by
    rw [oS_loop_cons]
    obtain ⟨ρ1, e, h1⟩ := hs d ds ρ t h
    exact ⟨ρ1, e, oS_imp h1 (fun ρ t h => oS_loop I ds ρ t h hs hn) (fun _ _ h => h) (fun _ _ _ _ h => h) (fun _ _ h => h) (fun ρ t h => oS_loop I ds ρ t h hs hn)⟩
theorem oS_while [Sto τ] {c : ME τ Bool} {b : MS τ} (I : Nat → Rho → τ → Prop) (hs : ∀ n ρ t, I n ρ t → oE (c ρ t) (fun k t => (k = true → oS (b ρ t) { P with nx := fun ρ t => ∃ m, m < n ∧ I m ρ t, ct := fun ρ t => ∃ m, m < n ∧ I m ρ t, bk := P.nx }) ∧ (¬ k = true → P.nx ρ t)) (fun n fs t => P.ex n fs ρ t)) :
    ∀ (n : Nat) (ρ : Rho) (t : τ), I n ρ t → oS (sWhile c b ρ t) P := by
  intro n
  induction n using Nat.strongRecOn with
  | _ n ih =>
    intro ρ t h
    rw [sWhile_turn, oS_do]
    refine oE_imp (hs n ρ t h) (fun k t1 h1 => ?_) fun _ _ _ h => h
    rw [oS_ite]
    refine ⟨fun hk => ?_, fun hk => h1.2 hk⟩
    have h2 := h1.1 hk
    cases e : b ρ t1 <;> rw [e] at h2
    · obtain ⟨m, hm, h3⟩ := h2; exact ih m hm _ _ h3
    · exact h2
    · exact h2
    · obtain ⟨m, hm, h3⟩ := h2; exact ih m hm _ _ h3
    · exact h2
    · exact h2
end
end
section
variable {Q : D → Dk → Prop} {X : Str → Fds → Dk → Prop} {P : Pt Dk} {ρ : Rho} {t : Dk} {i j : Nat} {m : ME Dk D}
@[simp] theorem isDk_eq : isDk i ρ t = (match ρ[i]? with | some (.val (.at a)) => decide (a = t.a) | _ => false) := rfl
@[simp] theorem oE_dk0 : oE (eDk i 0 ρ t) Q X = (isDk i ρ t = true ∧ Q t.scr t) := by unfold eDk; by_cases h : isDk i ρ t = true <;> simp only [h, if_true, if_false, true_and, false_and, oE_ok, oE_bad, Bool.false_eq_true]
@[simp] theorem oE_dk2 : oE (eDk i 2 ρ t) Q X = (isDk i ρ t = true ∧ Q (.int t.pos) t) := by unfold eDk; by_cases h : isDk i ρ t = true <;> simp only [h, if_true, if_false, true_and, false_and, oE_ok, oE_bad, Bool.false_eq_true]
@[simp] theorem oE_dk3 : oE (eDk i 3 ρ t) Q X = (isDk i ρ t = true ∧ Q (.int t.cnt) t) := by unfold eDk; by_cases h : isDk i ρ t = true <;> simp only [h, if_true, if_false, true_and, false_and, oE_ok, oE_bad, Bool.false_eq_true]
@[simp] theorem oE_dkLen : oE (eDkLen i ρ t) Q X = (isDk i ρ t = true ∧ Q (.int (t.big.length : Nat)) t) := by unfold eDkLen; by_cases h : isDk i ρ t = true <;> simp only [h, if_true, if_false, true_and, false_and, oE_ok, oE_bad, Bool.false_eq_true]
@[simp] theorem oE_dkAt : oE (eDkAt i ρ t) Q X = (isDk i ρ t = true ∧ ∃ c, t.big[t.pos]? = some c ∧ Q (.int c) t) := by
  unfold eDkAt
  by_cases h : isDk i ρ t = true
  · simp only [h, if_true, true_and]
    cases e : t.big[t.pos]? <;> simp
  · simp only [h, if_false, false_and, oE_bad, Bool.false_eq_true]
@[simp] theorem oS_dkBig : oS (sDkBig i m ρ t) P = oE (m ρ t) (fun d t => ∃ c, d = .int c ∧ isDk i ρ t = true ∧ t.pos < t.big.length ∧ P.nx ρ { t with big := t.big.set t.pos c }) (fun n fs t => P.ex n fs ρ t) := by
  unfold sDkBig; rw [oS_do]; congr; funext d t
  cases d <;> simp only [oS_bad, reduceCtorEq, false_and, exists_false, D.int.injEq, exists_eq_left']
  rename_i c
  by_cases h : isDk i ρ t = true ∧ t.pos < t.big.length
  · rw [if_pos h]; simp only [oS_nx, h.1, h.2, true_and]
  · rw [if_neg h]; simp only [oS_bad]; exact (propext ⟨fun z => z.elim, fun z => h ⟨z.1, z.2.1⟩⟩)
@[simp] theorem oS_dkSet2 : oS (sDkSet i 2 m ρ t) P = oE (m ρ t) (fun d t => ∃ c, d = .int c ∧ isDk i ρ t = true ∧ 0 ≤ c ∧ P.nx ρ { t with pos := c.toNat }) (fun n fs t => P.ex n fs ρ t) := by
  unfold sDkSet; rw [oS_do]; congr; funext d t
  cases d <;> simp only [oS_bad, reduceCtorEq, false_and, exists_false, D.int.injEq, exists_eq_left']
  rename_i c
  by_cases h : isDk i ρ t = true ∧ 0 ≤ c
  · rw [if_pos h]; simp only [oS_nx, h.1, h.2, true_and]
  · rw [if_neg h]; simp only [oS_bad]; exact (propext ⟨fun z => z.elim, fun z => h ⟨z.1, z.2.1⟩⟩)
@[simp] theorem oS_dkSet3 : oS (sDkSet i 3 m ρ t) P = oE (m ρ t) (fun d t => ∃ c, d = .int c ∧ isDk i ρ t = true ∧ 0 ≤ c ∧ P.nx ρ { t with cnt := c.toNat }) (fun n fs t => P.ex n fs ρ t) := by
  unfold sDkSet; rw [oS_do]; congr; funext d t
  cases d <;> simp only [oS_bad, reduceCtorEq, false_and, exists_false, D.int.injEq, exists_eq_left']
  rename_i c
  by_cases h : isDk i ρ t = true ∧ 0 ≤ c
  · rw [if_pos h]; simp only [oS_nx, h.1, h.2, true_and]
  · rw [if_neg h]; simp only [oS_bad]; exact (propext ⟨fun z => z.elim, fun z => h ⟨z.1, z.2.1⟩⟩)
end
@[simp] theorem asB_bl {b : Bool} : asB (.bl b) = some b := rfl
@[simp] theorem dLt_int {i j : Int} : dLt (.int i) (.int j) = some (.bl (decide (i < j))) := rfl
@[simp] theorem dGt_int {i j : Int} : dGt (.int i) (.int j) = some (.bl (decide (j < i))) := rfl
@[simp] theorem dGe_int {i j : Int} : dGe (.int i) (.int j) = some (.bl (decide (j ≤ i))) := rfl
@[simp] theorem dAdd_int {i j : Int} : dAdd (.int i) (.int j) = some (.int (i + j)) := rfl
@[simp] theorem dSub_int {i j : Int} : dSub (.int i) (.int j) = some (.int (i - j)) := rfl
@[simp] theorem ex_asc {α : Sort _} {a : α} {c : Prop} {Q : α → Prop} : (∃ z, (z = a ∧ c) ∧ Q z) ↔ c ∧ Q a := ⟨fun ⟨z, ⟨e, hc⟩, q⟩ => ⟨hc, e ▸ q⟩, fun ⟨hc, q⟩ => ⟨a, ⟨rfl, hc⟩, q⟩⟩
@[simp] theorem ex_asc0 {α : Sort _} {a : α} {c : Prop} : (∃ z, z = a ∧ c) ↔ c := ⟨fun ⟨z, _, hc⟩ => hc, fun hc => ⟨a, rfl, hc⟩⟩
@[simp] theorem dMul_some {i j : Int} {z : D} : (dMulI (.int i) (.int j) = some z) = (z = .int (i * j) ∧ mulOk i j = true) := by
  unfold dMulI; by_cases h : mulOk i j = true <;> simp [h, eq_comm]
@[simp] theorem dDiv_some {i j : Int} {z : D} : (dDiv (.int i) (.int j) = some z) = (z = .int (i.fdiv j) ∧ divOk i j = true) := by
  unfold dDiv; by_cases h : divOk i j = true <;> simp [h, eq_comm]
@[simp] theorem dMod_some {i j : Int} {z : D} : (dMod (.int i) (.int j) = some z) = (z = .int (i.fmod j) ∧ j ≠ 0) := by
  unfold dMod modOk; by_cases h : j ≠ 0 <;> simp [h, eq_comm]
@[simp] theorem dPow_some {i j : Int} {z : D} : (dPow (.int i) (.int j) = some z) = (z = .int (i ^ j.toNat) ∧ powOk i j = true) := by
  unfold dPow; by_cases h : powOk i j = true <;> simp [h, eq_comm]
@[simp] theorem ex_addL {xs ys : List D} {Q : D → Prop} : (∃ z, dAdd (.lst xs) (.lst ys) = some z ∧ Q z) ↔ xs.length + ys.length ≤ 16777216 ∧ Q (.lst (xs ++ ys)) := by
  unfold dAdd lim2; by_cases h : xs.length + ys.length ≤ 16777216 <;> simp [h]
@[simp] theorem ex_addT {xs ys : List D} {Q : D → Prop} : (∃ z, dAdd (.tup xs) (.tup ys) = some z ∧ Q z) ↔ xs.length + ys.length ≤ 16777216 ∧ Q (.tup (xs ++ ys)) := by
  unfold dAdd lim2; by_cases h : xs.length + ys.length ≤ 16777216 <;> simp [h]
@[simp] theorem ex_strI {i : Int} {Q : D → Prop} : (∃ z, fStrI [.int i] = some z ∧ Q z) ↔ i.natAbs.log2 < 1920 ∧ Q (.str (strOf i)) := by
  unfold fStrI; by_cases h : i.natAbs.log2 < 1920 <;> simp [h]
theorem rng_red {j : Int} {Q : List D → Prop} : (∃ z, (if -(2 ^ 62) ≤ j ∧ j < 2 ^ 62 then some (rngD 0 j.toNat) else none) = some z ∧ Q z) ↔ (-(2 ^ 62) ≤ j ∧ j < 2 ^ 62) ∧ Q (rngD 0 j.toNat) := by
  generalize (2 : Int) ^ 62 = P
  by_cases h : -P ≤ j ∧ j < P
  · rw [if_pos h]; exact ⟨fun ⟨z, e, q⟩ => ⟨h, by cases e; exact q⟩, fun q => ⟨_, rfl, q.2⟩⟩
  · rw [if_neg h]; exact ⟨fun ⟨z, e, q⟩ => (by cases e), fun q => absurd q.1 h⟩
@[simp] theorem ex_rng {j : Int} {Q : List D → Prop} : (∃ z, fRng1 [.int j] = some z ∧ Q z) ↔ (-4611686018427387904 ≤ j ∧ j < 4611686018427387904) ∧ Q (rngD 0 j.toNat) := rng_red
@[simp] theorem dNeg_int {i : Int} : dNeg (.int i) = some (.int (-i)) := rfl
theorem abs_if (i : Int) : (if i < 0 then -i else i) = (i.natAbs : Int) := by split <;> omega
@[simp] theorem fAbs_int {i : Int} : fAbs [.int i] = some (.int (i.natAbs : Int)) := by show some (D.int (if i < 0 then -i else i)) = _; rw [abs_if]
@[simp] theorem fLen_lst {xs : List D} : fLen [.lst xs] = some (.int (xs.length : Nat)) := rfl
@[simp] theorem fLen_tup {xs : List D} : fLen [.tup xs] = some (.int (xs.length : Nat)) := rfl
@[simp] theorem fLen_scr {xs : List Int} : fLen [.scr xs] = some (.int (xs.length : Nat)) := rfl
@[simp] theorem dIx_lst {xs : List D} {i : Int} : dIx (.lst xs) (.int i) = atI xs i := rfl
@[simp] theorem dIx_tup {xs : List D} {i : Int} : dIx (.tup xs) (.int i) = atI xs i := rfl
@[simp] theorem dIx_scr {xs : List Int} {i : Int} : dIx (.scr xs) (.int i) = (atI xs i).map .int := rfl
@[simp] theorem itD_lst {xs : List D} : itD (.lst xs) = some xs := rfl
@[simp] theorem itD_tup {xs : List D} : itD (.tup xs) = some xs := rfl
@[simp] theorem itD_scr {xs : List Int} : itD (.scr xs) = some (xs.map .int) := rfl
@[simp] theorem truth_bl {b : Bool} : truth (.bl b) = some b := rfl
@[simp] theorem truth_int {i : Int} : truth (.int i) = some (i != 0) := rfl
theorem eqD_int {i j : Int} : eqD (.int i) (.int j) = some (decide (i = j)) := by
  simp [eqD, py, SeqAt.shaped, PyData.canLay0, PyData.depth, PyData.eqv]
  rfl
@[simp] theorem dEq_int {i j : Int} : dEq (.int i) (.int j) = some (.bl (decide (i = j))) := by unfold dEq; rw [eqD_int]; rfl
@[simp] theorem dNe_int {i j : Int} : dNe (.int i) (.int j) = some (.bl (!decide (i = j))) := by unfold dNe; rw [eqD_int]; rfl
theorem eqD_pair {i j k l : Int} : eqD (.tup [.int i, .int j]) (.tup [.int k, .int l]) = some (decide (i = k) && decide (j = l)) := by
  simp [eqD, py, pys, SeqAt.shaped, PyData.canLay0, PyData.canLayAll0, PyData.depth, PyData.depthAll, PyData.eqv, PyData.eqvAll]
  rfl
@[simp] theorem dEq_pair {i j k l : Int} : dEq (.tup [.int i, .int j]) (.tup [.int k, .int l]) = some (.bl (decide (i = k) && decide (j = l))) := by unfold dEq; rw [eqD_pair]; rfl
@[simp] theorem dNe_pair {i j k l : Int} : dNe (.tup [.int i, .int j]) (.tup [.int k, .int l]) = some (.bl (!(decide (i = k) && decide (j = l)))) := by unfold dNe; rw [eqD_pair]; rfl
theorem eqD_bl {i j : Bool} : eqD (.bl i) (.bl j) = some (i == j) := by
  simp [eqD, py, SeqAt.shaped, PyData.canLay0, PyData.depth, PyData.eqv]
@[simp] theorem dEq_bl {i j : Bool} : dEq (.bl i) (.bl j) = some (.bl (i == j)) := by unfold dEq; rw [eqD_bl]; rfl
@[simp] theorem dNe_bl {i j : Bool} : dNe (.bl i) (.bl j) = some (.bl (!(i == j))) := by unfold dNe; rw [eqD_bl]; rfl
theorem small_mul {i j : Int} {a b : Nat} (h1 : i.natAbs < 2 ^ a) (h2 : j.natAbs < 2 ^ b) (ha : 0 < a) (hb : 0 < b) (h : a + b ≤ 1000000) : mulOk i j = true := by
  have x := PySem.Flt.log2_lt_of ha h1
  have y := PySem.Flt.log2_lt_of hb h2
  unfold mulOk
  exact decide_eq_true (by omega)
theorem small_div {i j : Int} {b : Nat} (h : j ≠ 0) (h2 : j.natAbs < 2 ^ b) (hb : 0 < b) (h9 : b ≤ 9000) : divOk i j = true := by
  have y := PySem.Flt.log2_lt_of hb h2
  unfold divOk
  exact decide_eq_true ⟨h, by omega⟩
end MM

namespace MM
open PySem PySem.Spec PyProof.Rows L2
section
variable {prog : Program} {w : World} {A : Around} {E : Value → Shared → Prop} {s : Shared}
end
def endV (xs : List V) (i n : Nat) : List V := (xs.drop i).drop (xs.length + 1 - n)
section
variable {X : Cx} {W : WX} {τ : Type} [Sto τ] {K : Fg}
theorem Reps.fin {F : Fp} {H : Hp} {xs : List V} {ds : List D} (r : Reps K F H xs ds) (i n : Nat) : Reps K F H (endV xs i n) ((ds.drop i).drop (ds.length + 1 - n)) := by
  unfold endV; rw [r.length]; exact (r.drop i).drop _
end
end MM

namespace MM
open PySem PySem.Spec PyProof.Rows L2 RZ
section
variable {X : Cx} {W : WX} {τ : Type} [Sto τ] {K : Fg}
def fIntA : List D → Option D
  | [.int i] => some (.int i)
  | [.bl b] => some (.int (if b then 1 else 0))
  | [.str x] => fIntS [.str x]
  | _ => none
def rIntA : List V → Hp → VK → Prop := fun xs H Q => ((∃ i, xs = [.int i] ∧ Q (.int i) H) ∨ ∃ k, xs = [.bl k] ∧ Q (.int (if k then 1 else 0)) H) ∨ rIntS xs H Q
theorem call_intA (e : NoLim X.K) : CallR X (.type "int") rIntA := by
  intro pins s σ H xs us Q I rs h
  rcases h with h | h
  · exact call_int1 pins s σ H xs us Q I rs h
  · exact call_intS e pins s σ H xs us Q I rs h
theorem c_intA : DCall K rIntA fIntA := fun F0 F H xs ds z Q dm r q k => by
  unfold fIntA at q
  split at q
  · cases q
    obtain ⟨v, rfl, r1⟩ := r.one
    exact .inl (.inl ⟨_, by rw [r1.intOf], k _ _ (Same.refl H) (.int _)⟩)
  · cases q
    obtain ⟨v, rfl, r1⟩ := r.one
    exact .inl (.inr ⟨_, by rw [r1.blOf], k _ _ (Same.refl H) (.int _)⟩)
  · exact .inr (c_intS F0 F H xs _ z Q dm r q k)
  · cases q
end
@[simp] theorem fIntA_int {i : Int} : fIntA [.int i] = some (.int i) := rfl
@[simp] theorem fIntA_bl {b : Bool} : fIntA [.bl b] = some (.int (if b then 1 else 0)) := rfl
@[simp] theorem fIntA_str {x : Str} : fIntA [.str x] = fIntS [.str x] := rfl
end MM

namespace MM
open PySem PySem.Spec PyProof.Rows L2
section
variable {K : Fg} {F F2 : Fp} {H : Hp}
def looseB : HO → Bool
  | .lst _ => true
  | .dK _ => true
  | .dT _ => true
  | .ext _ => true
  | _ => false
theorem OwnR.loose {K : Fg} {F : Fp} {H : Hp} {a : Addr} {u : HO} {x : Slot} (r : OwnR K F H a u x) : looseB u = true := by
  cases r with
  | lst _ => rfl
  | dct r => cases r <;> rfl
end
section
variable {X : Cx} {W : WX} {τ : Type} [Sto τ] {K : Fg}
end
section
variable {τ : Type} {ρ : Rho} {t : τ} {X : Str → Fds → τ → Prop}
end
end MM

namespace MM
open PySem PySem.Spec PyProof.Rows L2
section
variable {X : Cx} {W : WX} {τ : Type} [Sto τ] {K : Fg}
theorem PK.imp {e : List Keyword} {t t' : TA} (h : PK X e t) (i : ∀ σ H Q, t' σ H Q → t σ H Q) : PK X e t' := ⟨fun pos pins s σ H Q I q => h.run pos pins s σ H Q I (i σ H Q q)⟩
end
section
variable {τ : Type} {ρ : Rho} {t : τ} {Q : List D → τ → Prop} {X : Str → Fds → τ → Prop} {g : Tgt} {tt : ME τ Bool} {te : ME τ D}
def Slot.nown : Slot → Bool
  | .own _ => false
  | .dct .. => false
  | _ => true
@[simp] theorem nown_no : Slot.nown .no = true := rfl
@[simp] theorem nown_val {d : D} : Slot.nown (.val d) = true := rfl
@[simp] theorem wipeR_nil : wipeR ρ [] = ρ := rfl
@[simp] theorem wipeR_cons {u : Nat} {us : List Nat} : wipeR ρ (u :: us) = (wipeR ρ us).set u .no := rfl
@[simp] theorem noOwn_nil : noOwn ρ [] = true := rfl
@[simp] theorem noOwn_cons {u : Nat} {us : List Nat} : noOwn ρ (u :: us) = ((match ρ[u]? with | some s => s.nown | none => true) && noOwn ρ us) := by
  unfold noOwn
  rw [List.all_cons]
  congr 1
  cases ρ[u]? with
  | none => rfl
  | some s => cases s <;> rfl
@[simp] theorem oE_noEx {α : Type} {r : Res τ α} {Q : α → τ → Prop} : oE (noEx r) Q X = oE r Q (fun _ _ _ => False) := by cases r <;> rfl
@[simp] theorem oE_comp {mi : ME τ (List D)} {vs : List Nat} : oE (eComp mi vs g tt te ρ t) Q X = oE (mi ρ t) (fun ds t => (ds.length ≤ 16777216 ∧ noOwn ρ vs = true) ∧ oE (compL g tt te (wipeR ρ vs) ds t) Q X) X := by
  unfold eComp; rw [oE_bind]; congr; funext ds t
  by_cases h : ds.length ≤ 16777216 ∧ noOwn ρ vs = true
  · rw [if_pos h]; simp only [h, and_self, true_and]
  · rw [if_neg h]; simp only [oE_bad, h, false_and]
end
section
variable {τ : Type} {P : Pt τ} {ρ : Rho} {t : τ}
end
section
variable {τ : Type} {ρ : Rho} {t : τ} {X : Str → Fds → τ → Prop}
end
end MM

namespace MM
open PySem PySem.Spec PyProof.Rows L2 RZ
open PySem.Builtin (SmallTypes.nextOrEnd)
def SIt (kd : Bool) (h : Heap) (i l : Addr) (k : Nat) : Prop := match kd with
  | true => h.IsTupleIter i l k
  | false => h.IsListIter i l k
def SSq (kd : Bool) (h : Heap) (l : Addr) (xs : Array Value) : Prop := match kd with
  | true => h.IsTuple l xs
  | false => h.IsList l xs
section
variable {prog : Program} {w : World} {A : Around} {E : Value → Shared → Prop} {s : Shared} {kd : Bool} {h h' : Heap} {i l : Addr} {k : Nat} {xs : Array Value}
theorem SIt.at (x : SIt kd h i l k) (e : ∀ o, h.get? i = some o → h'.get? i = some o) : SIt kd h' i l k := by
  cases kd with
  | true => obtain ⟨o, h1, h2⟩ := x; exact ⟨o, e o h1, h2⟩
  | false => obtain ⟨o, h1, h2⟩ := x; exact ⟨o, e o h1, h2⟩
theorem SSq.at (x : SSq kd h l xs) (e : ∀ o, h.get? l = some o → h'.get? l = some o) : SSq kd h' l xs := by
  cases kd with
  | true => obtain ⟨o, h1, h2⟩ := x; exact ⟨o, e o h1, h2⟩
  | false => obtain ⟨o, h1, h2⟩ := x; exact ⟨o, e o h1, h2⟩
theorem SIt.ex (x : SIt kd h i l k) : ∃ o, h.get? i = some o ∧ ∀ v, o.data ≠ .cell v := by
  cases kd with
  | true => obtain ⟨o, h1, h2, h3⟩ := x; exact ⟨o, h1, fun v q => by rw [h3] at q; cases q⟩
  | false => obtain ⟨o, h1, h2, h3⟩ := x; exact ⟨o, h1, fun v q => by rw [h3] at q; cases q⟩
end
def SqX (kd : Bool) (K : Fg) (H : Hp) (a : Addr) (xs : List V) : Prop := match kd with
  | true => SqT K H a xs
  | false => SqL K H a xs
theorem SqX.sq {kd : Bool} {X : Cx} {pins : List (Addr × Obj)} {σ : L2.St} {H : Hp} {s : Shared} {a : Addr} {xs : List V} (h : SqX kd X.K H a xs) (I : Inv X pins σ H s) : ∃ its : List Value, Vals xs its ∧ SSq kd s.heap a its.toArray ∧ a < s.heap.objs.size := by
  cases kd with
  | true =>
    obtain ⟨its, rv, p, _⟩ := I.tuple h
    obtain ⟨o, ho, _⟩ := id p
    exact ⟨its, rv, p, Heap.lt_size ho⟩
  | false =>
    obtain ⟨its, rv, p, _⟩ := I.list h
    exact ⟨its, rv, p.isList, p.lt⟩
theorem SqX.inj {kd : Bool} {X : Cx} {pins : List (Addr × Obj)} {σ : L2.St} {H : Hp} {s : Shared} {a : Addr} {xs ys : List V} (I : Inv X pins σ H s) (h : SqX kd X.K H a xs) (h2 : SqX kd X.K H a ys) : xs = ys := by
  cases kd with
  | true => exact I.tuple_inj h h2
  | false => exact I.list_inj h h2
section
variable {X : Cx} {W : WX} {τ : Type} [Sto τ] {K : Fg}
end
end MM

namespace MM
open PySem PySem.Spec PyProof.Rows L2
section
variable {X : Cx} {W : WX} {τ : Type} [Sto τ] {K : Fg}
end
end MM

namespace PySem.W
open PySem PySem.Calls PyProof.Rows
section
variable {prog : Program} {w : World} {A : Around} {E : Value → Shared → Prop} {s : Shared}
end
end PySem.W
namespace MM
open PySem PySem.Spec PyProof.Rows L2
section
variable {X : Cx} {W : WX} {τ : Type} [Sto τ] {K : Fg}
end
end MM

namespace MM
open PySem PySem.Spec PyProof.Rows L2
section
variable {X : Cx} {W : WX} {τ : Type} [Sto τ] {K : Fg}
def dCutA : D → Option Int → Option Int → Option D
  | .lst ds, lo, hi => some (.lst (cutD ds lo hi))
  | .tup ds, lo, hi => some (.tup (cutD ds lo hi))
  | .str z, lo, hi => if lim2 z.length = true then some (.str (cutS z lo hi)) else none
  | _, _, _ => none
theorem me_cutA {e : Expr} {lo hi : Option Expr} {p2 pos : Pos} {m : ME τ D} {ml mh : ME τ (Option Int)} (h : PE X e (tW X.K W m)) (hl : PO X lo (tO X.K W ml)) (hh : PO X hi (tO X.K W mh)) : PE X (.Subscript e (.Slice lo hi none p2) pos) (tE X.K W (e3 dCutA m ml mh)) :=
  PE.imp (pe_slice ((sl_tupA.or sl_str).or sl_list) h hl hh) fun σ H Q ⟨C, ρ, t, A, p⟩ => by
    refine use okE A p fun d t1 v H1 e1 s1 A1 r1 p1 => ?_
    refine use okE A1 p1 fun l t2 l' H2 e2 s2 A2 rl p2 => ?_
    refine use okE A2 p2 fun u t3 u' H3 e3 s3 A3 ru p3 => ?_
    cases rl
    cases ru
    have rd := RepW.same (RepW.same r1 s2 fun _ => Fo.base) s3 fun _ => Fo.base
    cases d <;> first
      | exact p3.elim
      | skip
    · rename_i z
      unfold dCutA at p3
      dsimp only at p3
      split at p3
      · rename_i hz
        exact .inl (.inr ⟨z, rd.strOf, lim2_le hz, p3 _ H3 (Sm.refl _ _) A3.st (.str _)⟩)
      · exact p3.elim
    · obtain ⟨a, vs, rfl, q, rs⟩ := rd.tupOf
      refine .inl (.inl ⟨a, vs, rfl, q.sq, fun hw => ?_, fun _ b nb => p3 _ _ (Sm.of_same (same_upd nb)) (C.stay A3.st (same_upd nb)) (Rep.newTup (rs.cut _ _) A3.dom nb)⟩)
      refine p3 _ H3 (Sm.refl _ _) A3.st ?_
      show Rep X.K _ H3 (V.ref a) (.tup (cutD _ _ _))
      unfold cutD
      rw [← rs.length, hw.1, hw.2, List.drop_zero, Nat.sub_zero, rs.length, List.take_length]
      exact .tup q rs
    · obtain ⟨a, vs, rfl, q, rs⟩ := rd.lstOf
      exact .inr ⟨a, vs, rfl, q.sq, fun b nb => p3 _ _ (Sm.of_same (same_upd nb)) (C.stay A3.st (same_upd nb)) (Rep.newLst (rs.cut _ _) A3.dom nb)⟩
end
@[simp] theorem dCutA_lst {ds : List D} {lo hi : Option Int} : dCutA (.lst ds) lo hi = some (.lst (cutD ds lo hi)) := rfl
@[simp] theorem dCutA_tup {ds : List D} {lo hi : Option Int} : dCutA (.tup ds) lo hi = some (.tup (cutD ds lo hi)) := rfl
end MM

namespace MM
open PySem PySem.Spec PyProof.Rows L2
section
variable {X : Cx} {W : WX} {τ : Type} [Sto τ] {K : Fg}
end
end MM

namespace MM
open PySem PySem.Spec PyProof.Rows L2
section
variable {X : Cx} {W : WX} {τ : Type} [Sto τ] {K : Fg}
structure ClsF (K : Fg) (C : Str) : Prop where
  cl : Cls K (He.ga K C)
  ha : PySem.W.findIn K (.ref (He.ga K C)) "__class__" = some (some (.builtin "object.__class__"))
  hn : PySem.W.specialIn K (.builtin "object.__class__") "__get__" = some (some (.builtin "getset_descriptor.__get__"))
  htk : PySem.W.takesIn K (.builtin "object.__class__") = some true
  hm : PySem.W.mroIn K (He.ga K C) (.type "object") = some true
theorem ClsF.ty (c : ClsF K C) {H : Hp} {a dx : Addr} {fs : List (Str × V)} (e : H a = some (.ins (He.ga K C) dx fs)) : TyX K H (.ref a) (.ref (He.ga K C)) := .base (.ins e c.cl c.ha c.hn c.htk c.hm)
structure MethE (P : Program) (w : World) (K : Fg) (mg : Str → Option Value) (base : Heap) (k : Nat) (C m : Str) (np : Nat) (mf : List D → Unit → Res Unit D) : Prop where
  ex : ∃ (fd : FuncData) (ps : List Str), FnOk P w K mg base (L2.CX P w) k (He.ma K (He.ga K C) m) fd ps (spF np K mf) ∧ Binds K fd ps [] ∧ ClsF K C ∧ Meth K (He.ga K C) m (He.ma K (He.ga K C) m)
theorem MethE.mono {P : Program} {w : World} {mg : Str → Option Value} {base : Heap} {j k : Nat} {C m : Str} {np : Nat} {mf : List D → Unit → Res Unit D} (F : MethE P w K mg base j C m np mf) (h : j ≤ k) : MethE P w K mg base k C m np mf := by
  obtain ⟨fd, ps, f1, f2⟩ := F.ex
  exact ⟨fd, ps, f1.mono h, f2⟩
theorem SqT.upd_ne {H : Hp} {a x : Addr} {o o' : HO} {xs : List V} (h : SqT K H a xs) (hx : H x = some o) (ho : ∀ ys, o ≠ .tup ys) (hf : ∀ oo ys, o ≠ .frz oo (.tup ys)) : SqT K (upd H x o') a xs := by
  rcases h with h | h
  · rcases h with h | ⟨oo, h⟩
    · refine .inl (.inl ?_)
      rw [L2.upd_ne]; exact h
      intro z; subst z; rw [hx] at h; cases h; exact ho _ rfl
    · refine .inl (.inr ⟨oo, ?_⟩)
      rw [L2.upd_ne]; exact h
      intro z; subst z; rw [hx] at h; cases h; exact hf _ _ rfl
  · exact .inr h
end
section
variable {X : Cx} {K : Fg}
end
section
variable {K : Fg}
end
section
variable {τ : Type} {X : Str → Fds → τ → Prop} {ρ : Rho} {t : τ}
end
end MM

namespace MM
open PySem PySem.Spec PyProof.Rows L2
section
variable {K : Fg} {F0 F : Fp} {H : Hp}
theorem RepW.keyOf {y : V} {k : Key} (r : RepW K F0 F H y (keyD k)) : y = kV k := by
  cases k with
  | inl i => exact r.intOf
  | inr x => exact r.strOf
end
section
variable {X : Cx} {W : WX} {τ : Type} [Sto τ] {K : Fg}
end
end MM

namespace MM
open PySem PySem.Spec PyProof.Rows L2
section
variable {X : Cx}
end
end MM

namespace MM
open PySem PySem.Spec PyProof.Rows L2
section
variable {X : Cx} {W : WX} {τ : Type} [Sto τ] {K : Fg}
end
end MM

namespace MM
open PySem PySem.Spec PyProof.Rows L2
section
variable {X : Cx} {W : WX} {τ : Type} [Sto τ] {K : Fg}
end
end MM

namespace MM
open PySem PySem.Spec PyProof.Rows L2
section
variable {τ : Type} {ρ : Rho} {t : τ} {X : Str → Fds → τ → Prop} {P : Pt τ} {g : Tgt} {tt : ME τ Bool} {te tk tv : ME τ D} {pu : List D → List D → D → D → Option (List D × List D)}
theorem oS_loopE {α : Type} {enc : α → D} {b : MS τ} (I : List α → List α → Rho → τ → Prop) (xs : List α) (h0 : I [] xs ρ t)
    (hs : ∀ dn x td ρ t, xs = dn ++ x :: td → I dn (x :: td) ρ t → ∃ ρ1, g ρ (enc x) = some ρ1 ∧ oS (b ρ1 t) { P with nx := I (dn ++ [x]) td, ct := I (dn ++ [x]) td, bk := P.nx }) (hn : ∀ ρ t, I xs [] ρ t → P.nx ρ t) : oS (loopF g b (xs.map enc) ρ t) P := by
  have key : ∀ (td dn : List α) (ρ : Rho) (t : τ), xs = dn ++ td → I dn td ρ t → oS (loopF g b (td.map enc) ρ t) P := by
    intro td
    induction td with
    | nil =>
      intro dn ρ t e h
      rw [List.append_nil] at e
      subst e
      exact hn ρ t h
    | cons x td ih =>
      intro dn ρ t e h
      rw [List.map_cons, oS_loop_cons]
      obtain ⟨ρ1, e1, h1⟩ := hs dn x td ρ t e h
      have e' : xs = (dn ++ [x]) ++ td := by rw [e]; simp
      exact ⟨ρ1, e1, oS_imp h1 (fun ρ t h => ih (dn ++ [x]) ρ t e' h) (fun _ _ h => h) (fun _ _ _ _ h => h) (fun _ _ h => h) (fun ρ t h => ih (dn ++ [x]) ρ t e' h)⟩
  exact key xs [] ρ t rfl h0
end
end MM

namespace PySem
open Sem (wp)
open AutoSeq1 (wpAny_loadPart')
end PySem
namespace MM
open PySem PySem.Spec PyProof.Rows L2
section
variable {X : Cx} {W : WX} {τ : Type} [Sto τ] {K : Fg}
theorem PI.or {tg e : Expr} {t t' : TI} (h : PI X tg e t) (h' : PI X tg e t') : PI X tg e (fun σ H Q => t σ H Q ∨ t' σ H Q) := ⟨fun pins s σ H R I q => q.elim (h.run pins s σ H R I) (h'.run pins s σ H R I)⟩
end
end MM

namespace MM
open PySem PySem.Spec PyProof.Rows L2
section
variable {τ : Type} [Sto τ] {X : Cx} {W : WX} {K : Fg}
abbrev MSf (τ : Type) := Rho → τ → Res τ (List D)
def SPostF (K : Fg) (W : WX) (C : SC τ) (F1 : Fp) (H : Hp) (r : Res τ (List D)) (Q : VK) : Prop := match r with
  | .ok ds t' => ∀ a vs H', Stp F1 H (fun b => C.F b ∨ b = a) H' → ¬ C.F a → H' a = some (.lst vs) → Reps K (fun b => C.F b ∨ b = a) H' vs ds → C.Iv t' (fun b => C.F b ∨ b = a) H' → Q (.ref a) H'
  | .ex n fs t' => ∀ cls dd σ' H' G, (∀ b, C.F b → G b) → Stp F1 H G H' → C.Iv t' G H' → XRep K G H' n fs cls dd → W cls dd σ' H'
  | .bad => False
theorem SPostF.rebase {C : SC τ} {F1 F2 : Fp} {H H1 : Hp} {r : Res τ (List D)} {Q : VK} (h : SPostF K W C F1 H r Q) (s : Stp F1 H F2 H1) : SPostF K W C F2 H1 r Q := by
  cases r with
  | ok ds t' => exact fun a vs H' s' n q r i => h a vs H' (s.trans s') n q r i
  | ex n fs t' => exact fun cls dd σ' H' G g s' i x => h cls dd σ' H' G g (s.trans s') i x
  | bad => exact h
def tSf (K : Fg) (W : WX) (m : MSf τ) : TS := fun E σ H => ∃ (C : SC τ) (ρ : Rho) (t : τ), At K C ρ t σ H ∧ SPostF K W C (Fo C.F ρ σ) H (m ρ t) E.rt
def FPostF (K : Fg) (C : SC τ) (H : Hp) (r : Res τ (List D)) (Q : VK) (E : XK) : Prop := match r with
  | .ok ds t' => ∀ a vs H', Stp C.F H (fun b => C.F b ∨ b = a) H' → ¬ C.F a → H' a = some (.lst vs) → Reps K (fun b => C.F b ∨ b = a) H' vs ds → C.Iv t' (fun b => C.F b ∨ b = a) H' → Q (.ref a) H'
  | .ex n fs t' => ∀ cls dd H', Sm C.F H H' → C.Iv t' C.F H' → XRep K C.F H' n fs cls dd → E cls dd H'
  | .bad => False
def spFF (np : Nat) (K : Fg) (m : List D → τ → Res τ (List D)) : Sp := fun vs H Q E => ∃ (C : SC τ) (ds : List D) (t : τ), Sto.ok K C ∧ C.Iv t C.F H ∧ Reps K C.F H vs ds ∧ ds.length = np ∧ FPostF K C H (m ds t) Q E
def runF (n : Nat) (mb : MSf τ) : List D → τ → Res τ (List D) := fun ds t => mb (ds.map Slot.val ++ List.replicate (n - ds.length) .no) t
theorem fn_mkF {P : Program} {w : World} {K : Fg} {mg : Str → Option Value} {base : Heap} {x qual : Str} {params : Arguments} {body : List Stmt} {scope : Scope} {dvs : List V} {kws : List (Str × V)} {f : Addr} {fd : FuncData} {N ps : List Str} {k : Nat}
    (F : FunD K x qual params body scope dvs kws f fd) (S : FnScope N ps scope) (mb : MSf τ)
    (hb : ∀ (cdv : Value) (A : Around) (outer : List Env) (s : Shared) (H : Hp) (E : XK), Room k (A.deeper (envOfC qual scope s.heap.objs.size f cdv)) →
      PSs (cxOf (L2.CX P w) P w K mg base N qual scope f cdv A outer s H E) body (tSf K (fun cls d _ H => E cls d H) mb)) : FnOk P w K mg base (L2.CX P w) (k + 1) f fd ps (spFF ps.length K (runF N.length mb)) := by
  have hpl : ps.length ≤ N.length := by have := congrArg List.length S.pre; rw [List.length_take] at this; omega
  refine F.ok S (fun vs H Q E ⟨C, ds, t, _, _, r, hl, _⟩ => r.length.trans hl) fun cdv A outer s H vs Q E hr ⟨C, ds, t, okC, iv, r, hl, p⟩ => ⟨_, hb cdv A outer s H E hr, C, _, t, At.start okC iv r (by rw [hl]; exact hpl), ?_⟩
  unfold runF at p
  cases e : mb (ds.map Slot.val ++ List.replicate (N.length - ds.length) .no) t with
  | ok xs t' =>
    rw [e] at p
    exact fun a vs H' s' n q r i => p a vs H' ⟨fun b o n e => s'.keep b o (fun z => n (FoStart z)) e, fun b h => (s'.new b h).elim (fun z => .inl (FoStart z)) .inr⟩ n q r i
  | ex n fs t' =>
    rw [e] at p
    exact fun cls dd σ' H' G g s' i x => p cls dd H' (fun b o n e => s'.keep b o (fun z => n (FoStart z)) e) (C.less i g) (x.anti g)
  | bad => rw [e] at p; exact p.elim
structure DefF (P : Program) (w : World) (K : Fg) (mg : Str → Option Value) (base : Heap) (k : Nat) (x : Str) (np : Nat) (m : List D → τ → Res τ (List D)) : Prop where
  ex : ∃ (fd : FuncData) (ps : List Str) (ds : List Value), FnOk P w K mg base (L2.CX P w) k (He.ga K x) fd ps (spFF np K m) ∧ mg x = some (.ref (He.ga K x)) ∧ PySem.W.keepIn K (.ref (He.ga K x)) = true ∧ Binds K fd ps ds ∧ Vals [] ds
theorem DefF.mk' {P : Program} {w : World} {K : Fg} {mg : Str → Option Value} {base : Heap} {x qual : Str} {params : Arguments} {body : List Stmt} {scope : Scope} {dvs : List V} {kws : List (Str × V)} {fd : FuncData} {N ps : List Str} {k : Nat}
    (F : FunD K x qual params body scope dvs kws (He.ga K x) fd) (hm : mg x = some (.ref (He.ga K x))) (S : FnScope N ps scope) (mb : MSf τ) (hb : ∃ ds, Vals [] ds ∧ Binds K fd ps ds)
    (hbody : ∀ (cdv : Value) (A : Around) (outer : List Env) (s : Shared) (H : Hp) (E : XK), Room k (A.deeper (envOfC qual scope s.heap.objs.size (He.ga K x) cdv)) →
      PSs (cxOf (L2.CX P w) P w K mg base N qual scope (He.ga K x) cdv A outer s H E) body (tSf K (fun cls d _ H => E cls d H) mb)) : DefF P w K mg base (k + 1) x ps.length (runF N.length mb) := by
  obtain ⟨ds, h1, h2⟩ := hb
  exact ⟨fd, ps, ds, fn_mkF F S mb hbody, hm, F.kp, h2, h1⟩
theorem DefF.mono {P : Program} {w : World} {K : Fg} {mg : Str → Option Value} {base : Heap} {j k : Nat} {x : Str} {np : Nat} {m : List D → τ → Res τ (List D)} (F : DefF P w K mg base j x np m) (h : j ≤ k) : DefF P w K mg base k x np m := by
  obtain ⟨fd, ps, ds, F, r⟩ := F.ex
  exact ⟨fd, ps, ds, F.mono h, r⟩
end
section
variable {τ : Type} [Sto τ] {X : Cx} {W : WX}
end
section
variable {τ : Type} [Sto τ] {X : Cx} {W : WX}
end
section
variable {τ α : Type} {X : Str → Fds → τ → Prop} {ρ : Rho} {t : τ}
@[simp] theorem oE_runF {n : Nat} {b : MSf τ} {ds : List D} {Q : List D → τ → Prop} : oE (runF n b ds t) Q X = oE (b (ds.map Slot.val ++ List.replicate (n - ds.length) .no) t) Q X := rfl
end
end MM

namespace MM
open PySem PySem.Spec PyProof.Rows L2
section
variable {τ : Type} [Sto τ] {X : Cx} {W : WX}
end
section
variable {X : Cx} {K : Fg}
end
end MM

namespace MM
open PySem PySem.Spec PyProof.Rows L2
section
variable {X : Cx} {W : WX} {τ : Type} [Sto τ] {K : Fg}
end
section
variable {τ : Type} {Q : D → τ → Prop} {X : Str → Fds → τ → Prop} {ρ : Rho} {t : τ}
end
end MM

namespace MM
open PySem PySem.Spec PyProof.Rows L2
section
variable {X : Cx} {W : WX} {τ : Type} [Sto τ] {K : Fg}
end
end MM

namespace MM
open PySem PySem.Spec PyProof.Rows L2
section
variable {prog : Program} {w : World} {A : Around} {E : Value → Shared → Prop} {s : Shared}
end
section
variable {X : Cx} {τ : Type} [Sto τ] {K : Fg}
end
end MM

namespace MM
open PySem PySem.Spec PyProof.Rows L2
section
variable {X : Cx} {τ : Type} [Sto τ] {W : WX}
end
section
variable {τ : Type} {P : MM.Pt τ} {ρ : Rho} {t : τ}
end
end MM

namespace MM
open PySem PySem.Spec PyProof.Rows L2
section
variable {prog : Program} {w : World} {A : Around} {E : Value → Shared → Prop} {s : Shared}
end
section
variable {X : Cx}
variable {W : WX} {τ : Type} [Sto τ]
end
end MM

namespace MM
open PySem PySem.Spec PyProof.Rows L2
section
variable {X : Cx} {W : WX} {τ : Type} [Sto τ] {K : Fg}
end
section
variable {τ : Type} {Q : D → τ → Prop} {X : Str → Fds → τ → Prop} {ρ : Rho} {t : τ}
end
end MM

namespace MM
open PySem PySem.Spec PyProof.Rows L2
section
variable {X : Cx} {K : Fg}
theorem Reps.rep {F : Fp} {H : Hp} {vs : List V} {ds : List D} (r : Reps K F H vs ds) : ∀ k, Reps K F H (List.replicate k vs).flatten (List.replicate k ds).flatten
  | 0 => .nil
  | k + 1 => by
    rw [List.replicate_succ, List.replicate_succ, List.flatten_cons, List.flatten_cons]
    exact Reps.append r (Reps.rep r k)
variable {W : WX} {τ : Type} [Sto τ]
end
end MM

namespace MM
open PySem PySem.Spec PyProof.Rows L2
section
variable {X : Cx} {W : WX} {τ : Type} [Sto τ]
end
section
variable {τ : Type} {Q : D → τ → Prop} {X : Str → Fds → τ → Prop} {ρ : Rho} {t : τ}
end
end MM

namespace MM
open PySem PySem.Spec PyProof.Rows L2
section
variable {X : Cx} {W : WX} {τ : Type} [Sto τ]
end
section
variable {τ : Type} {Q : List D → τ → Prop} {X : Str → Fds → τ → Prop} {ρ : Rho} {t : τ}
end
end MM

namespace MM
open PySem PySem.Spec PyProof.Rows L2
section
variable {X : Cx} {W : WX} {τ : Type} [Sto τ] {K : Fg}
end
end MM

namespace MM
open PySem PySem.Spec PyProof.Rows L2
section
variable {J : It} {n : Nat} {G : Hp → Prop} {Y : Nat → Hp → V → Hp → Prop}
end
section
variable {X : Cx} {W : WX} {τ : Type} [Sto τ] {K : Fg}
end
section
variable {τ : Type} {Q : List D → τ → Prop} {X : Str → Fds → τ → Prop} {ρ : Rho} {t : τ} {vs vs1 : List Nat} {g g1 : Tgt} {tt tt1 : ME τ Bool} {mi mi1 : ME τ (List D)} {te : ME τ D}
end
end MM

namespace MM
open PySem PySem.Spec PyProof.Rows L2
section
variable {X : Cx} {W : WX} {τ : Type} [Sto τ] {K : Fg}
end
end MM

namespace MM
open PySem PySem.Spec PyProof.Rows L2
section
variable {K : Fg}
end
end MM

namespace MM
open PySem PySem.Spec PyProof.Rows L2
structure Nxr (it l : Addr) (S : Heap → Nat → Prop) (L : Heap → Prop) (xs : Array Value) : Prop where
  sat : ∀ {h h' : Heap} {i : Nat}, S h i → (∀ o, h.get? it = some o → h'.get? it = some o) → S h' i
  lat : ∀ {h h' : Heap}, L h → (∀ o, h.get? l = some o → h'.get? l = some o) → L h'
  lt : ∀ {h : Heap} {i : Nat}, S h i → it < h.objs.size
  item : ∀ {prog : Program} {w : World} {A : Around} {E : Value → Shared → Prop} {s : Shared} {i : Nat} {x : Value} {Q : Value → Shared → Prop}, S s.heap i → L s.heap → xs[i]? = some x →
    (∀ h', S h' (i + 1) → Heap.SameBut it s.heap h' → Q x { s with heap := h' }) → wpAny (model prog w) A (Builtin.SmallTypes.nextOf (.ref it)) Q E s
  stop : ∀ {prog : Program} {w : World} {A : Around} {E : Value → Shared → Prop} {s : Shared} {i : Nat} {Q : Value → Shared → Prop}, A.handled = none → S s.heap i → L s.heap → xs[i]? = none →
    (∀ h' e, Heap.ExtBut it s.heap h' → (∃ o, h'.get? e = some o ∧ o.cls = .type "StopIteration") → E (.ref e) { s with heap := h' }) → wpAny (model prog w) A (Builtin.SmallTypes.nextOf (.ref it)) Q E s
theorem Nxr.lst {it l : Addr} {xs : Array Value} : Nxr it l (fun h i => h.IsListIter it l i) (fun h => h.IsList l xs) xs :=
  ⟨fun a k => a.at k, fun a k => a.at k, fun a => by obtain ⟨_, e, _⟩ := a; exact Heap.lt_size e, fun a b c d => wpAny_nextOf_list_item a b c d, fun a b c d e => wpAny_nextOf_list_end a b c d e⟩
theorem Nxr.tup {it l : Addr} {xs : Array Value} : Nxr it l (fun h i => h.IsTupleIter it l i) (fun h => h.IsTuple l xs) xs :=
  ⟨fun a k => a.at k, fun a k => a.at k, fun a => by obtain ⟨_, e, _⟩ := a; exact Heap.lt_size e, fun a b c d => RZ.nextOf_tuple_item a b c d, fun a b c d e => RZ.nextOf_tuple_end a b c d e⟩
section
variable {it l : Addr} {S : Heap → Nat → Prop} {L : Heap → Prop} {xs : Array Value}
end
section
variable {prog : Program} {w : World} {A : Around} {E : Value → Shared → Prop} {s : Shared} {z TI TO i1 i2 l1 l2 : Addr} {S1 S2 : Heap → Nat → Prop} {L1 L2 : Heap → Prop} {k1 k2 : Nat} {xs ys : Array Value} {x y a b : Value}
end
section
variable {prog : Program} {w : World} {A : Around} {E : Value → Shared → Prop} {s : Shared} {z TI TO i1 i2 l1 l2 : Addr} {S1 S2 : Heap → Nat → Prop} {L1 L2 : Heap → Prop} {k1 k2 : Nat} {xs ys : Array Value} {x y a b : Value}
end
section
variable {X : Cx} {W : WX} {τ : Type} [Sto τ] {K : Fg}
end
end MM

namespace MM
open PySem PySem.Spec PyProof.Rows L2
open ClX (CRead)
section
variable {X : Cx} {o e : Expr} {es : List Expr} {to te : TE} {ta : TA} {B f : Str} {p p' p1 p2 pos : Pos}
end
section
variable {X : Cx} {W : WX} {τ : Type} [Sto τ] {K : Fg}
end
section
variable {X : Cx} {W : WX} {τ : Type} [Sto τ] {K : Fg}
end
end MM
namespace MM
open PySem PySem.Spec PyProof.Rows L2
section
variable {τ : Type} {P : Pt τ} {ρ : Rho} {t : τ}
end
end MM

namespace MM
open PySem PySem.Spec PyProof.Rows L2
section
variable {prog : Program} {w : World} {A : Around} {P : Nat → Value → Prop}
end
section
variable {prog : Program} {w : World} {A : Around} {E : Value → Shared → Prop} {s : Shared} {x y : Str} {t u : Tok} {Q : Value → Shared → Prop}
end
section
variable {X : Cx} {K : Fg}
end
end MM
namespace PySem.W
open PySem PySem.Spec PySem.Calls PyProof.Rows
section
variable {prog : Program} {w : World} {A : Around} {E : Value → Shared → Prop} {s : Shared} {K : Frag} {x D : Addr} {ox : Obj} {od : Option Obj}
end
end PySem.W
namespace MM
open PySem PySem.Spec PyProof.Rows L2
section
variable {X : Cx} {a D : Addr} {oe : Obj} {cls : Value} {d : Option Addr} {pn : List (Addr × Obj)}
end
end MM

namespace MM
open PySem PySem.Spec PyProof.Rows L2
section
variable {X : Cx} {a D : Addr} {oe : Obj} {cls : Value} {d : Option Addr} {pn : List (Addr × Obj)} {i : Nat}
end
end MM

namespace MM
open PySem PySem.Spec PyProof.Rows L2
open L2H (RoomH PinOk cxH inv_startH)
structure Ec (dd : Addr) where
  fs : List (Str × V)
instance {dd : Addr} : Sto (Ec dd) where
  ok := fun _ C => ∀ t G H, C.Iv t G H → H dd = some (.xd t.fs)
  cmp := fun _ _ _ _ _ h t G H i => h t G H i.1
  ov := fun _ _ _ _ _ _ h t G H i => h t G H i.1
  lend := fun _ _ _ _ _ _ h t G H i => h t _ H i.1
section
variable {X : Cx} {W : WX} {K : Fg} {a D dd : Addr} {oe : Obj}
end
section
variable {dd a : Addr} {i : Nat} {b : Bool} {ρ : Rho} {t : Ec dd} {Q : D → Ec dd → Prop} {X : Str → Fds → Ec dd → Prop}
end
structure FnB (P : Program) (w : World) (K : Fg) (mg : Str → Option Value) (base : Heap) (CX : CXT) (p : Addr × Obj) (k : Nat) (f : Addr) (fd : FuncData) (ps : List Str) (sp : Sp) : Prop where
  len : ∀ vs H Q E, sp vs H Q E → vs.length = ps.length
  run : ∀ (A : Around) (outer : List Env) (s : Shared) (H : Hp) (args : Args) (us : List Value) (vs : List V) (Q : VK) (E : XK), RoomH k A → PinOk outer H s p → Env0 P w K mg base A outer s H → BindsTo s fd args (ps.zip us) → Vals vs us → sp vs H Q E →
    codeAny (model P w) A (.call (.ref f) args) (CR CX outer P w H s Q E) s
theorem fnB_of {P : Program} {w : World} {K : Fg} {mg : Str → Option Value} {base : Heap} {CX : CXT} {p : Addr × Obj} {x qual : Str} {params : Arguments} {body : List Stmt} {scope : Scope} {dvs : List V} {kws : List (Str × V)} {f : Addr} {fd : FuncData} {N ps : List Str} {k : Nat} {sp : Sp}
    (F : FunD K x qual params body scope dvs kws f fd) (S : FnScope N ps scope) (len : ∀ vs H Q E, sp vs H Q E → vs.length = ps.length)
    (hbody : ∀ (cdv : Value) (A : Around) (outer : List Env) (s : Shared) (H : Hp) (vs : List V) (Q : VK) (E : XK), RoomH k (A.deeper (envOfC qual scope s.heap.objs.size f cdv)) → sp vs H Q E →
      ∃ t, PSs (cxH CX P w K mg base N qual scope f cdv A outer s H E p) body t ∧ t { nx := fun _ H' => Q .non H', rt := Q } (L2.start N vs) H) : FnB P w K mg base CX p (k + 1) f fd ps sp := by
  obtain ⟨oc, od, dV, kV, doc, pm, an, cdv, ct, osl, rfl, lk, hcd, _, _⟩ := F.ex
  refine ⟨len, fun A outer s H args us vs Q E hr hpin e0 hb r hsp => ?_⟩
  have up : ∀ b o, base.get? b = some o → s.heap.get? b = some o := fun b o e => (e0.bs b o e).1
  have KX : K.In s.heap := e0.mod.kin.keeps up
  refine codeAny_call_function hr.depth (KX _ _ lk) rfl S.co S.gen rfl (PySem.W.codeRec_of KX hcd) (hb _ _ _ _ ?_)
  refine wpAny_newFunctionEnv_cells S.kind (fun ⟨n, v⟩ hy => ?_) fun env he s1 xx => ?_
  · rcases S.par n (List.of_mem_zip hy).1 with q | q
    · exact .inl q
    · exact .inr ⟨q, PySem.W.cellsFrom_some _ _ _ (.inl q)⟩
  subst he
  refine ⟨(e0.mod.nolimit.keeps up).keeps xx.toInCall.keep, codeAny_func ?_⟩
  obtain ⟨t, ht, hq⟩ := hbody cdv A outer s H vs Q E (hr.deeper _) hsp
  have I := inv_startH (CX := CX) (E := E) S hpin e0 (len _ _ _ _ hsp) r xx
  refine wpAny_mono (ht.run [] s1 (L2.start N vs) H _ I hq) (fun fl s' hs => ?_) fun e s' hs => hs
  cases fl with
  | ret u =>
    obtain ⟨v, σ', H', J, rv, q⟩ := hs
    exact ⟨v, H', J.os, J.bare, J.base, J.hok, rv, q⟩
  | next =>
    obtain ⟨σ', H', J, q⟩ := hs
    exact ⟨V.non, H', J.os, J.bare, J.base, J.hok, rfl, q⟩
  | brk => exact hs.elim fun _ h => h.elim fun _ h => h.2.elim
  | cont => exact hs.elim fun _ h => h.elim fun _ h => h.2.elim
section
variable {X : Cx} {CX : CXT} {k : Nat} {f : Addr} {fd : FuncData} {ps : List Str} {sp : Sp} {E : St → XK} {x : Str} {q pos : Pos} {e : Expr} {es : List Expr} {t : TA} {p : Addr × Obj}
end
structure DefB (P : Program) (w : World) (K : Fg) (mg : Str → Option Value) (base : Heap) (p : Addr × Obj) (k : Nat) (x : Str) (dd : Addr) (m : List D → Ec dd → Res (Ec dd) D) : Prop where
  ex : ∃ (fd : FuncData) (ps : List Str), FnB P w K mg base (L2.CX P w) p k (He.ga K x) fd ps (spF 1 K m) ∧ mg x = some (.ref (He.ga K x)) ∧ PySem.W.keepIn K (.ref (He.ga K x)) = true ∧ Binds K fd ps []
theorem DefB.mk' {P : Program} {w : World} {K : Fg} {mg : Str → Option Value} {base : Heap} {p : Addr × Obj} {dd : Addr} {x : Str} {params : Arguments} {body : List Stmt} {scope : Scope} {fd : FuncData} {N ps : List Str} {k : Nat}
    (F : FunD K x x params body scope [] [] (He.ga K x) fd) (g : mg x = some (.ref (He.ga K x))) (S : FnScope N ps scope) (hps : ps.length = 1) (hb : Binds K fd ps []) (mb : MS (Ec dd))
    (hbd : ∀ (cdv : Value) (A : Around) (outer : List Env) (s : Shared) (H : Hp) (E : XK), RoomH k (A.deeper (envOfC x scope s.heap.objs.size (He.ga K x) cdv)) →
      PSs (cxH (L2.CX P w) P w K mg base N x scope (He.ga K x) cdv A outer s H E p) body (tS K (fun cls d _ H => E cls d H) mb)) : DefB P w K mg base p (k + 1) x dd (runB N.length mb) := by
  have hpl : ps.length ≤ N.length := by have := congrArg List.length S.pre; rw [List.length_take] at this; omega
  refine ⟨fd, ps, fnB_of F S (fun vs H Q E ⟨C, ds, t, _, _, r, hl, _⟩ => r.length.trans (hl.trans hps.symm)) fun cdv A outer s H vs Q E hr ⟨C, ds, t, okC, iv, r, hl, p⟩ => ⟨_, hbd cdv A outer s H E hr, C, _, t, At.start okC iv r (by rw [hl, ← hps]; exact hpl), ?_⟩, g, F.kp, hb⟩
  unfold runB at p
  cases e : mb (ds.map Slot.val ++ List.replicate (N.length - ds.length) .no) t with
  | nx ρ' t' =>
    rw [e] at p
    exact fun σ' H' s' A' => p .non H' (fun b o n e => s'.keep b o (fun z => n (FoStart z)) e) (C.less A'.st fun _ => .inl) .non
  | rt d t' =>
    rw [e] at p
    exact fun v H' s' i r => p v H' (fun b o n e => s' b o (fun z => n (FoStart z)) e) i r
  | ex n fs ρ' t' =>
    rw [e] at p
    exact fun cls dd σ' H' s' A' x => p cls dd H' (fun b o n e => s'.keep b o (fun z => n (FoStart z)) e) (C.less A'.st fun _ => .inl) (x.anti fun _ => .inl)
  | bk ρ' t' => rw [e] at p; exact p.elim
  | ct ρ' t' => rw [e] at p; exact p.elim
  | bad => rw [e] at p; exact p.elim
section
variable {X : Cx} {W : WX} {a dd : Addr} {oe : Obj}
end
section
variable {X : Cx} {W : WX} {τ : Type} [Sto τ] {K : Fg}
end
section
variable {τ : Type} {Q : D → τ → Prop} {X : Str → Fds → τ → Prop} {ρ : Rho} {t : τ}
end
end MM

namespace MM
open PySem PySem.Spec PyProof.Rows L2
open L2H (RoomH PinOk cxH inv_startH roomH_of)
abbrev FX := Fds → Option D
def TeOk (K : Fg) (n0 : Str) (i : Nat) (hf : FX) (te : Addr → Value → Option Addr → TE) : Prop :=
  ∀ {a : Addr} {cls : Value} {dd : Option Addr} {fs : Fds} {F : Fp} {σ : St} {H : Hp} {d : D} {Q : VK}, σ[i]? = some (some (.ref a)) → XRep K F H n0 fs cls dd → hf fs = some d → Dom F H → (∀ v H', Same H H' → Rep K F H' v d → Q v H') → te a cls dd σ H Q
def SuS (X : Cx) (n0 : Str) (i : Nat) (b : Stmt) (j : Nat) (hf : FX) : Prop := ∃ te : Addr → Value → Option Addr → TE,
  (∀ (a : Addr) (oe : Obj) (cls : Value) (d : Option Addr) (pn : List (Addr × Obj)), Zc cls d oe → (∃ vs, oe.data = .fields vs) → PS (X.suite a ((a, oe) :: pn)) b (tAsg (te a cls d) (gName j))) ∧ TeOk X.K n0 i hf te
theorem SuS.mk {X : Cx} {n0 : Str} {i j : Nat} {b : Stmt} {hf : FX} {te : Addr → Value → Option Addr → TE}
    (h1 : ∀ (a : Addr) (oe : Obj) (cls : Value) (d : Option Addr) (pn : List (Addr × Obj)), Zc cls d oe → (∃ vs, oe.data = .fields vs) → PS (X.suite a ((a, oe) :: pn)) b (tAsg (te a cls d) (gName j)))
    (h2 : ∀ {a : Addr} {cls : Value} {dd : Option Addr} {fs : Fds} {F : Fp} {σ : St} {H : Hp} {d : D} {Q : VK}, σ[i]? = some (some (.ref a)) → XRep X.K F H n0 fs cls dd → hf fs = some d → Dom F H → (∀ v H', Same H H' → Rep X.K F H' v d → Q v H') → te a cls dd σ H Q) : SuS X n0 i b j hf := ⟨te, h1, h2⟩
inductive SuSs (X : Cx) (n0 : Str) (i : Nat) : List Stmt → List (Nat × FX) → Prop
  | nil : SuSs X n0 i [] []
  | cons {b : Stmt} {bs : List Stmt} {j : Nat} {hf : FX} {l : List (Nat × FX)} : j ≠ i → SuS X n0 i b j hf → SuSs X n0 i bs l → SuSs X n0 i (b :: bs) ((j, hf) :: l)
def appU (fs : Fds) : List (Nat × FX) → Rho → Option Rho
  | [], ρ => some ρ
  | (j, hf) :: l, ρ => match hf fs with
    | some d => appU fs l (ρ.set j (.val d))
    | none => none
section
variable {X : Cx} {W : WX} {τ : Type} [Sto τ] {n0 : Str} {i : Nat}
structure SuI (K : Fg) (n0 : Str) (i : Nat) (C : SC τ) (ρ : Rho) (t : τ) (σ : St) (H : Hp) (a : Addr) (cls : Value) (d : Option Addr) (fs : Fds) : Prop where
  at_ : At K C ρ t σ H
  no : ρ[i]? = some .no
  s : σ[i]? = some (some (.ref a))
  x : XRep K (Fo C.F ρ σ) H n0 fs cls d
def tU (K : Fg) (n0 : Str) (i : Nat) (τ : Type) [Sto τ] (l : List (Nat × FX)) (a : Addr) (cls : Value) (d : Option Addr) : TS := fun E σ H => ∃ (C : SC τ) (ρ : Rho) (t : τ) (fs : Fds), SuI K n0 i C ρ t σ H a cls d fs ∧
  ∃ ρ', appU fs l ρ = some ρ' ∧ ∀ σ' H', Stp (Fo C.F ρ σ) H (Fo C.F ρ' σ') H' → SuI K n0 i C ρ' t σ' H' a cls d fs → E.nx σ' H'
theorem XRep.step {K : Fg} {F F' : Fp} {H H' : Hp} {n : Str} {fs : Fds} {cls : Value} {dd : Option Addr} (x : XRep K F H n fs cls dd) (s : Same H H') (h : ∀ b, F' b → F b) : XRep K F' H' n fs cls dd := by
  obtain ⟨e, x⟩ := x
  refine ⟨e, ?_⟩
  cases fs with
  | none => exact x
  | some p =>
    obtain ⟨ns, ds⟩ := p
    obtain ⟨a, vs, h1, h2, h3, h4⟩ := x
    exact ⟨a, vs, h1, s a _ h2, h3, (h4.same (fun b o _ e => s b o e)).anti h⟩
theorem SuSs.run {bs : List Stmt} {l : List (Nat × FX)} (h : SuSs X n0 i bs l) {a : Addr} {oe : Obj} {cls : Value} {d : Option Addr} {pn : List (Addr × Obj)} (hz : Zc cls d oe) (hv : ∃ vs, oe.data = .fields vs) : PSs (X.suite a ((a, oe) :: pn)) bs (tU X.K n0 i τ l a cls d) := by
  induction h with
  | nil => exact PSs.imp pss_nil fun E σ H ⟨C, ρ, t, fs, S, ρ', e, q⟩ => by cases e; exact q σ H (Stp.less fun _ z => z) S
  | @cons b bs j hf l ij hb _ ih =>
    obtain ⟨te, hp, ht⟩ := hb
    refine PSs.imp (pss_cons (hp a oe cls d pn hz hv) ih) fun E σ H ⟨C, ρ, t, fs, S, ρ', e, q⟩ => ?_
    unfold appU at e
    cases eh : hf fs with
    | none => rw [eh] at e; cases e
    | some dv =>
      rw [eh] at e
      refine ht S.s S.x eh S.at_.dom fun v H1 sm r => ?_
      have smC : Sm C.F H H1 := fun b o _ e => sm b o e
      have A2 := S.at_.next smC (C.stay S.at_.st sm)
      have A3 := A2.setVal (i := j) (v := v) (d := dv) r
      have S3 : SuI X.K n0 i C (ρ.set j (.val dv)) t (σ.set j (some v)) H1 a cls d fs := ⟨A3, by rw [List.getElem?_set_ne ij]; exact S.no, by rw [List.getElem?_set_ne ij]; exact S.s, S.x.step sm fun b h => Fo.setVal h⟩
      refine ⟨C, _, t, fs, S3, ρ', e, fun σ' H' s' S' => q σ' H' (Stp.trans ⟨fun b o n e => sm b o e, fun b h => .inl (Fo.setVal h)⟩ s') S'⟩
end
theorem _root_.L2H.RoomH.units {k : Nat} {A : Around} (r : RoomH k A) : A.units + 64 < cLine := by have := r.un; omega
section
variable {τ : Type} {P : Pt τ} {ρ : Rho} {t : τ}
end
end MM

namespace MM
open PySem PySem.Spec PyProof.Rows L2
section
variable {X : Cx} {W : WX} {τ : Type} [Sto τ] {K : Fg}
end
section
variable {τ : Type} {Q : D → τ → Prop} {X : Str → Fds → τ → Prop} {ρ : Rho} {t : τ}
end
end MM

namespace MM
open PySem PySem.Spec PyProof.Rows L2
theorem nsEq_ok : ∀ {a b : List Nat}, nsEq a b = true → a = b
  | [], [], _ => rfl
  | a :: x, b :: y, h => by
    obtain ⟨h1, h2⟩ := Bool.and_eq_true_iff.mp h
    rw [Nat.eq_of_beq_eq_true h1, nsEq_ok h2]
  | [], _ :: _, h => by cases h
  | _ :: _, [], h => by cases h
theorem sEqL_ok {a b : Str} (h : sEqL a b = true) : a = b := by
  obtain ⟨⟨a⟩⟩ := a
  obtain ⟨⟨b⟩⟩ := b
  have := nsEq_ok h
  simp at this
  rw [this]
theorem linKeys_ok {own : List Str} : ∀ {ks xs : List Str}, linKeys own ks xs = true → ∀ k ∈ ks, startupNames.contains k = true ∨ own.contains k = true ∨ k ∈ xs
  | [], _, _, k, hk => by cases hk
  | k :: ks, [], h, k', hk => by
    obtain ⟨h1, h2⟩ := Bool.and_eq_true_iff.mp h
    rcases List.mem_cons.mp hk with rfl | hk
    · rcases Bool.or_eq_true_iff.mp h1 with z | z
      · exact .inl z
      · exact .inr (.inl z)
    · exact linKeys_ok h2 k' hk
  | k :: ks, x :: xs, h, k', hk => by
    rw [linKeys] at h
    cases e : sEqL k x with
    | true =>
      rw [e] at h
      rcases List.mem_cons.mp hk with rfl | hk
      · exact .inr (.inr (by rw [sEqL_ok e]; exact List.mem_cons_self))
      · rcases linKeys_ok h k' hk with z | z | z
        · exact .inl z
        · exact .inr (.inl z)
        · exact .inr (.inr (List.mem_cons_of_mem _ z))
    | false =>
      rw [e] at h
      obtain ⟨h1, h2⟩ := Bool.and_eq_true_iff.mp h
      rcases List.mem_cons.mp hk with rfl | hk
      · rcases Bool.or_eq_true_iff.mp h1 with z | z
        · exact .inl z
        · exact .inr (.inl z)
      · exact linKeys_ok h2 k' hk
theorem seenL_ok {q : Program} {loose mods : List Str} {Xt : Shared → Bool} {s : Shared} (hq : ∀ L, clssOf q L = [] ∧ dclssOf q L = [] ∧ PySem.W.wclssOf q L = []) (h : seenL q loose mods Xt s = PySem.W.openGood q []) :
    PySem.W.openSeen q loose mods Xt true s = PySem.W.openGood q loose := by
  have ek : ∀ {a}, (linKeys ((recsOf q).map (·.name)) (s.heap.nsKeys mainGlobals) loose && a) = true → ∀ c1 c2, (s.heap.keysOk (PySem.W.looseW q loose) ((recsOf q).map (·.name)) c1 c2 && a) = true := by
    intro a z c1 c2
    obtain ⟨z1, z2⟩ := Bool.and_eq_true_iff.mp z
    refine Bool.and_eq_true_iff.mpr ⟨?_, z2⟩
    unfold Heap.keysOk
    rw [List.all_eq_true]
    intro k hk
    rcases linKeys_ok z1 k hk with y | y | y
    · simp only [y, Bool.true_or]
    · simp only [y, Bool.true_or, Bool.or_true]
    · have : (PySem.W.looseW q loose).contains k = true := by
        rw [List.contains_iff_mem]
        unfold PySem.W.looseW looseD PySem.W.heldW
        simp only [List.mem_append]
        exact .inl (.inl (.inl y))
      simp only [this, Bool.true_or, Bool.or_true]
  unfold seenL at h
  rw [← HandSHeadRun.seenQ_eq] at h
  unfold PySem.W.openSeen PySem.W.openGood plainSeenE plainGoodE plainSeenD plainGoodD PySem.W.clsSeenW PySem.W.clsGoodW plainsOf at h ⊢
  simp only [(hq _).1, (hq _).2.1, (hq _).2.2, Prod.mk.injEq, if_true] at h ⊢
  obtain ⟨h1, h2, h3, h4⟩ := h
  refine ⟨h1, h2, ?_, h4⟩
  simp only [Bool.and_assoc] at h3 ⊢
  exact ek h3 _ _
open PySem.W PySem.Calls in
theorem head_anyL {r : OpenRow} {q : Program} {H : Hook} {ob : SharedT → H.α} {M : Nat} {loose : List PySem.Str} {d : DefRec} {kwd : List (PySem.Str × PySem.Expr)} (ho : ∀ s : SharedT, ob s = H.obs s.abs)
    (e : opening r.prog = plainProg r.prog.main.scope.names) (f : ∀ s, fenceModules? r.prog s = some s) (run : ∀ w, RunEqL r q H ob M loose w)
    (hq : ∀ L, clssOf q L = [] ∧ dclssOf q L = [] ∧ PySem.W.wclssOf q L = [])
    (hdef : defOf q r.name = some (d, kwd)) (hp : r.prog.theDef r.name = some (d.params, d.body, d.scope)) (hk : kwWritten? d.params.kwonlyargs d.params.kw_defaults = some kwd)
    (hwr : (!r.writes || r.records.isEmpty) = true) (k1 : r.wellSaid = true) (ok : (chainsOk q && opensWell r.prog && (frees r.toRowW && r.within.isEmpty)) = true) (hb : r.prog.bare) (hw : r.toRowW.promised)
    (call : WalkO q loose (XL q []) H.says r.toRowW d kwd fun f vs => PySem.call f vs) : r.Holds := by
  have left : LeftO r.prog q loose (fun s => xlAt q [] s && recOk r.toRowW.records s) H.obs H.val (M + 600) true :=
    HandSHeadRun.left_one (M := M) e (Nat.ble_eq_true_of_le (by omega)) f (Nat.ble_eq_true_of_le (by omega)) fun w os => by
      have z := run w os
      have eo : ob = fun s => H.obs s.abs := funext ho
      rw [eo] at z
      rw [HandSHeadRun.endQ_eq]
      obtain ⟨s, hs, hv⟩ := Option.map_eq_some_iff.mp z
      obtain ⟨l1, l2, l3⟩ : _ ∧ _ ∧ _ := by simpa only [Prod.mk.injEq] using hv
      rw [hs]
      exact congrArg some (Prod.ext l1 (Prod.ext (seenL_ok hq l2) l3))
  exact holds_open (r := r) (q := q) (loose := loose) (XP := XL q []) (YP := H.says) (d := d) (kwd := kwd) left H.of H.keeps (fun s z => xl_of s (Bool.and_eq_true_iff.mp z).1) XL.keeps hdef hp hk (fun s z => recFacts_of (Bool.and_eq_true_iff.mp z).2) hwr k1 ok hb hw call
end MM

namespace MM
open PySem PySem.Spec PyProof.Rows L2
section
variable {X : Cx} {W : WX} {τ : Type} [Sto τ] {K : Fg}
end
end MM

namespace MM
open PySem PySem.Spec PyProof.Rows L2
section
variable {X : Cx} {W : WX} {τ : Type} [Sto τ] {K : Fg}
end
structure FnG (P : Program) (w : World) (K : Fg) (mg : Str → Option Value) (base : Heap) (CX : CXT) (k : Nat) (f : Addr) (fd : FuncData) (ps : List Str) (sp : Sp) : Prop where
  len : ∀ vs H Q E, sp vs H Q E → vs.length = ps.length
  run : ∀ (A : Around) (outer : List Env) (s : Shared) (H : Hp) (args : Args) (us : List Value) (vs : List V) (Q : VK) (E : XK), Room k A → A.guards = some [] → Env0 P w K mg base A outer s H → BindsTo s fd args (ps.zip us) → Vals vs us → sp vs H Q E →
    codeAny (model P w) A (.call (.ref f) args) (CR CX outer P w H s Q E) s
theorem FnG.mono {P : Program} {w : World} {K : Fg} {mg : Str → Option Value} {base : Heap} {CX : CXT} {j k : Nat} {f : Addr} {fd : FuncData} {ps : List Str} {sp : Sp} (F : FnG P w K mg base CX j f fd ps sp) (h : j ≤ k) : FnG P w K mg base CX k f fd ps sp :=
  ⟨F.len, fun A outer s H args us vs Q E r => F.run A outer s H args us vs Q E (r.mono h)⟩
theorem fnG_of {P : Program} {w : World} {K : Fg} {mg : Str → Option Value} {base : Heap} {CX : CXT} {x qual : Str} {params : Arguments} {body : List Stmt} {scope : Scope} {dvs : List V} {kws : List (Str × V)} {f : Addr} {fd : FuncData} {N ps : List Str} {k : Nat} {sp : Sp}
    (F : FunD K x qual params body scope dvs kws f fd) (S : FnScope N ps scope) (len : ∀ vs H Q E, sp vs H Q E → vs.length = ps.length)
    (hbody : ∀ (cdv : Value) (A : Around) (outer : List Env) (s : Shared) (H : Hp) (vs : List V) (Q : VK) (E : XK), Room k (A.deeper (envOfC qual scope s.heap.objs.size f cdv)) → (A.deeper (envOfC qual scope s.heap.objs.size f cdv)).guards = some [] → sp vs H Q E →
      ∃ t, PSs (cxOf CX P w K mg base N qual scope f cdv A outer s H E) body t ∧ t { nx := fun _ H' => Q .non H', rt := Q } (L2.start N vs) H) : FnG P w K mg base CX (k + 1) f fd ps sp := by
  obtain ⟨oc, od, dV, kV, doc, pm, an, cdv, ct, osl, rfl, lk, hcd, _, _⟩ := F.ex
  refine ⟨len, fun A outer s H args us vs Q E hr hgd e0 hb r hsp => ?_⟩
  have up : ∀ b o, base.get? b = some o → s.heap.get? b = some o := fun b o e => (e0.bs b o e).1
  have KX : K.In s.heap := e0.mod.kin.keeps up
  refine codeAny_call_function hr.depth (KX _ _ lk) rfl S.co S.gen rfl (PySem.W.codeRec_of KX hcd) (hb _ _ _ _ ?_)
  refine wpAny_newFunctionEnv_cells S.kind (fun ⟨n, v⟩ hy => ?_) fun env he s1 xx => ?_
  · rcases S.par n (List.of_mem_zip hy).1 with q | q
    · exact .inl q
    · exact .inr ⟨q, PySem.W.cellsFrom_some _ _ _ (.inl q)⟩
  subst he
  refine ⟨(e0.mod.nolimit.keeps up).keeps xx.toInCall.keep, codeAny_func ?_⟩
  obtain ⟨t, ht, hq⟩ := hbody cdv A outer s H vs Q E (hr.deeper _) hgd hsp
  have I := inv_start (CX := CX) (E := E) S hr.hd e0 (len _ _ _ _ hsp) r xx
  refine wpAny_mono (ht.run [] s1 (L2.start N vs) H _ I hq) (fun fl s' hs => ?_) fun e s' hs => hs
  cases fl with
  | ret u =>
    obtain ⟨v, σ', H', J, rv, q⟩ := hs
    exact ⟨v, H', J.os, J.bare, J.base, J.hok, rv, q⟩
  | next =>
    obtain ⟨σ', H', J, q⟩ := hs
    exact ⟨V.non, H', J.os, J.bare, J.base, J.hok, rfl, q⟩
  | brk => exact hs.elim fun _ h => h.elim fun _ h => h.2.elim
  | cont => exact hs.elim fun _ h => h.elim fun _ h => h.2.elim
section
variable {X : Cx} {CX : CXT} {k : Nat} {f : Addr} {fd : FuncData} {ps : List Str} {sp : Sp} {dvs : List V} {ds : List Value} {E : St → XK} {x : Str} {q pos : Pos} {e : Expr} {es : List Expr} {t : TA}
end
structure DefG {τ : Type} [Sto τ] (P : Program) (w : World) (K : Fg) (mg : Str → Option Value) (base : Heap) (k : Nat) (x : Str) (np : Nat) (df : List D) (m : List D → τ → Res τ D) : Prop where
  ex : ∃ (fd : FuncData) (ps : List Str) (ds : List Value) (dvs : List V), FnG P w K mg base (L2.CX P w) k (He.ga K x) fd ps (spF np K m) ∧ mg x = some (.ref (He.ga K x)) ∧ PySem.W.keepIn K (.ref (He.ga K x)) = true ∧ Binds K fd ps ds ∧ Vals dvs ds ∧ (∀ F H, Reps K F H dvs df)
theorem DefG.mono {τ : Type} [Sto τ] {P : Program} {w : World} {K : Fg} {mg : Str → Option Value} {base : Heap} {j k : Nat} {x : Str} {np : Nat} {df : List D} {m : List D → τ → Res τ D} (F : DefG P w K mg base j x np df m) (h : j ≤ k) : DefG P w K mg base k x np df m := by
  obtain ⟨fd, ps, ds, dv, F, r⟩ := F.ex
  exact ⟨fd, ps, ds, dv, F.mono h, r⟩
theorem DefG.mk' {τ : Type} [Sto τ] {P : Program} {w : World} {K : Fg} {mg : Str → Option Value} {base : Heap} {x qual : Str} {params : Arguments} {body : List Stmt} {scope : Scope} {dvs : List V} {kws : List (Str × V)} {fd : FuncData} {N ps : List Str} {k : Nat} {df : List D}
    (F : FunD K x qual params body scope dvs kws (He.ga K x) fd) (hm : mg x = some (.ref (He.ga K x))) (S : FnScope N ps scope) (mb : MS τ) (hb : ∃ ds dv, Vals dv ds ∧ Binds K fd ps ds ∧ ∀ F H, Reps K F H dv df)
    (hbody : ∀ (cdv : Value) (A : Around) (outer : List Env) (s : Shared) (H : Hp) (E : XK), Room k (A.deeper (envOfC qual scope s.heap.objs.size (He.ga K x) cdv)) → (A.deeper (envOfC qual scope s.heap.objs.size (He.ga K x) cdv)).guards = some [] →
      PSs (cxOf (L2.CX P w) P w K mg base N qual scope (He.ga K x) cdv A outer s H E) body (tS K (fun cls d _ H => E cls d H) mb)) : DefG P w K mg base (k + 1) x ps.length df (runB N.length mb) := by
  obtain ⟨ds, dv, h1, h2, h3⟩ := hb
  have hpl : ps.length ≤ N.length := by have := congrArg List.length S.pre; rw [List.length_take] at this; omega
  refine ⟨fd, ps, ds, dv, fnG_of F S (fun vs H Q E ⟨C, ds, t, _, _, r, hl, _⟩ => r.length.trans hl) fun cdv A outer s H vs Q E hr hgd ⟨C, ds, t, okC, iv, r, hl, p⟩ => ⟨_, hbody cdv A outer s H E hr hgd, C, _, t, At.start okC iv r (by rw [hl]; exact hpl), ?_⟩, hm, F.kp, h2, h1, h3⟩
  unfold runB at p
  cases e : mb (ds.map Slot.val ++ List.replicate (N.length - ds.length) .no) t with
  | nx ρ' t' =>
    rw [e] at p
    exact fun σ' H' s' A' => p .non H' (fun b o n e => s'.keep b o (fun z => n (FoStart z)) e) (C.less A'.st fun _ => .inl) .non
  | rt d t' =>
    rw [e] at p
    exact fun v H' s' i r => p v H' (fun b o n e => s' b o (fun z => n (FoStart z)) e) i r
  | ex n fs ρ' t' =>
    rw [e] at p
    exact fun cls dd σ' H' s' A' x => p cls dd H' (fun b o n e => s'.keep b o (fun z => n (FoStart z)) e) (C.less A'.st fun _ => .inl) (x.anti fun _ => .inl)
  | bk ρ' t' => rw [e] at p; exact p.elim
  | ct ρ' t' => rw [e] at p; exact p.elim
  | bad => rw [e] at p; exact p.elim
section
variable {X : Cx} {W : WX} {τ : Type} [Sto τ]
end
section
variable {P : Program} {w : World} {K : Fg} {mg : Str → Option Value} {base : Heap}
end
section
variable {τ : Type} {Q : D → Prop} {d : D}
end
end MM

namespace MM
open PySem PySem.Spec PyProof.Rows L2
section
variable {X : Cx} {W : WX} {τ : Type} [Sto τ] {K : Fg}
theorem op_ne_ss : OpR X (compareOp .NotEq) (fun x y H Q => ∃ i j, x = .str i ∧ y = .str j ∧ Q (.bl (i.cps.toList != j.cps.toList)) H) := by
  intro pins s σ H x y v u Q I rx ry h
  obtain ⟨i, j, rfl, rfl, q⟩ := h
  obtain ⟨t, rfl⟩ := rx
  obtain ⟨t', rfl⟩ := ry
  exact PySem.P.ne_str ⟨.bl _, H, I, rfl, q⟩
theorem op_eq_ss : OpR X (compareOp .Eq) (fun x y H Q => ∃ i j, x = .str i ∧ y = .str j ∧ Q (.bl (i.cps.toList == j.cps.toList)) H) := by
  intro pins s σ H x y v u Q I rx ry h
  obtain ⟨i, j, rfl, rfl, q⟩ := h
  obtain ⟨t, rfl⟩ := rx
  obtain ⟨t', rfl⟩ := ry
  exact PySem.P.eq_str ⟨.bl _, H, I, rfl, q⟩
def dNeSS (d e : D) : Option D := match d, e with
  | .str x, .str y => some (.bl (x.cps.toList != y.cps.toList))
  | _, _ => none
def dEqSS (d e : D) : Option D := match d, e with
  | .str x, .str y => some (.bl (x.cps.toList == y.cps.toList))
  | _, _ => none
theorem o_neSS : DOp2 K (fun x y H Q => ∃ i j, x = .str i ∧ y = .str j ∧ Q (.bl (i.cps.toList != j.cps.toList)) H) dNeSS := fun F0 F H x y d e z Q dm rx ry q k => by
  cases d <;> try cases q
  cases e <;> try cases q
  exact ⟨_, _, rx.strOf, ry.strOf, k _ H (Same.refl H) (.bl _)⟩
theorem o_eqSS : DOp2 K (fun x y H Q => ∃ i j, x = .str i ∧ y = .str j ∧ Q (.bl (i.cps.toList == j.cps.toList)) H) dEqSS := fun F0 F H x y d e z Q dm rx ry q k => by
  cases d <;> try cases q
  cases e <;> try cases q
  exact ⟨_, _, rx.strOf, ry.strOf, k _ H (Same.refl H) (.bl _)⟩
@[simp] theorem dNeSS_self {x : Str} : dNeSS (.str x) (.str x) = some (.bl false) := by simp [dNeSS]
@[simp] theorem dEqSS_self {x : Str} : dEqSS (.str x) (.str x) = some (.bl true) := by simp [dEqSS]
end
end MM

namespace MM
open PySem PySem.Spec PyProof.Rows L2
section
variable {X : Cx}
end
section
variable {X : Cx} {W : WX} {τ : Type} [Sto τ]
end
section
variable {τ : Type} {P : Pt τ} {ρ : Rho} {t : τ}
end
end MM

namespace MM
open PySem PySem.Spec PyProof.Rows L2
section
variable {X : Cx} {W : WX} {τ : Type} [Sto τ] {K : Fg}
end

section
variable {X : Cx} {K : Fg}
def KnT (H : Hp) (p : Addr) (xs : List V) : Prop := ∃ o, H p = some (.frz o (.tup xs)) ∧ o.dict = none
theorem KnT.sq {H : Hp} {p : Addr} {xs : List V} (h : KnT H p xs) : SqT K H p xs := let ⟨o, e, _⟩ := h; .inl (.inr ⟨o, e⟩)
theorem KnT.rd {H : Hp} {p : Addr} {xs : List V} (h : KnT H p xs) : Rd H p (.tup xs) := let ⟨o, e, _⟩ := h; .inr ⟨o, e⟩
end
end MM

namespace MM
open PySem PySem.Spec PyProof.Rows L2
theorem KnT.same {H H' : Hp} {p : Addr} {xs : List V} (h : KnT H p xs) (s : Same H H') : KnT H' p xs := let ⟨o, e, d⟩ := h; ⟨o, s _ _ e, d⟩
section
variable {X : Cx} {W : WX} {τ : Type} [Sto τ]
end
section
variable {τ : Type} {P : Pt τ} {ρ : Rho} {t : τ}
end
end MM

namespace MM
open PySem PySem.Spec PyProof.Rows L2
section
variable {X : Cx} {W : WX} {τ : Type} [Sto τ] {K : Fg}
end
end MM

namespace MM
open PySem PySem.Spec PyProof.Rows L2
open L2H (RoomH PinOk cxH inv_startH roomH_of)
section
variable {X : Cx} {body : List Stmt} {h₀ : ExceptHandler} {hds : List ExceptHandler} {l : List (Value × Nat × (Addr → Value → Option Addr → TS))} {pos : Pos} {tb : WX → TS} {Wout : WX}
end
section
variable {X : Cx} {W : WX} {τ : Type} [Sto τ]
end
section
variable {τ : Type} {P : Pt τ} {ρ : Rho} {t : τ}
end
structure HX (X : Cx) (n0 : Str) (i : Nat) (e : Expr) (hf : FX) (te : Addr → Value → Option Addr → TE) : Prop where
  pe : ∀ (a : Addr) (oe : Obj) (cls : Value) (d : Option Addr) (pn : List (Addr × Obj)), Zc cls d oe → (∃ vs, oe.data = .fields vs) → PE (X.suite a ((a, oe) :: pn)) e (te a cls d)
  ok : TeOk X.K n0 i hf te
abbrev FXs := Fds → Option (List D)
def TasOk (K : Fg) (n0 : Str) (i : Nat) (hf : FXs) (ta : Addr → Value → Option Addr → TA) : Prop :=
  ∀ {a : Addr} {cls : Value} {dd : Option Addr} {fs : Fds} {F : Fp} {σ : L2.St} {H : Hp} {ds : List D} {Q : List V → Hp → Prop}, σ[i]? = some (some (.ref a)) → XRep K F H n0 fs cls dd → hf fs = some ds → Dom F H → (∀ vs H', Same H H' → Reps K F H' vs ds → Q vs H') → ta a cls dd σ H Q
structure HXs (X : Cx) (n0 : Str) (i : Nat) (es : List Expr) (hf : FXs) (ta : Addr → Value → Option Addr → TA) : Prop where
  pa : ∀ (a : Addr) (oe : Obj) (cls : Value) (d : Option Addr) (pn : List (Addr × Obj)), Zc cls d oe → (∃ vs, oe.data = .fields vs) → PA (X.suite a ((a, oe) :: pn)) es (ta a cls d)
  ok : TasOk X.K n0 i hf ta
section
variable {X : Cx} {n0 : Str} {i : Nat}
theorem SuS.hx {e : Expr} {hf : FX} {te : Addr → Value → Option Addr → TE} {b : Stmt} {j : Nat} (h : HX X n0 i e hf te) (hp : ∀ (a : Addr) (oe : Obj) (pn : List (Addr × Obj)) (t : TE), PE (X.suite a ((a, oe) :: pn)) e t → PS (X.suite a ((a, oe) :: pn)) b (tAsg t (gName j))) : SuS X n0 i b j hf :=
  ⟨te, fun a oe cls d pn hz hv => hp a oe pn _ (h.pe a oe cls d pn hz hv), h.ok⟩
theorem hxs_nil : HXs X n0 i [] (fun _ => some []) (fun _ _ _ => tNil) := ⟨fun _ _ _ _ _ _ _ => pa_nil, fun _ _ e _ q => by cases e; exact q _ _ (Same.refl _) .nil⟩
def fxCons (f : FX) (g : FXs) : FXs := fun fs => (f fs).bind fun d => (g fs).map fun ds => d :: ds
theorem dom_same {F : Fp} {H H' : Hp} (dm : Dom F H) (s : Same H H') : Dom F H' := fun b h => by
  cases e : H b with
  | none => exact absurd e (dm b h)
  | some o => rw [s b o e]; intro z; cases z
theorem hxs_cons {e : Expr} {es : List Expr} {f : FX} {g : FXs} {te : Addr → Value → Option Addr → TE} {ta : Addr → Value → Option Addr → TA} (h : HX X n0 i e f te) (hs : HXs X n0 i es g ta)
    (st : ∀ (a : Addr) (p : Addr × Obj) (pn : List (Addr × Obj)), starEach (e :: es) (X.suite a (p :: pn)).env = (false, eval e (X.suite a (p :: pn)).env) :: starEach es (X.suite a (p :: pn)).env := by intro _ _ _; rfl) : HXs X n0 i (e :: es) (fxCons f g) (fun a cls d => tCons (te a cls d) (ta a cls d)) :=
  ⟨fun a oe cls d pn hz hv => pa_cons (h.pe a oe cls d pn hz hv) (hs.pa a oe cls d pn hz hv) (st a _ pn), fun hσ x e dm q => by
    unfold fxCons at e
    obtain ⟨d1, h1, e⟩ := Option.bind_eq_some_iff.mp e
    obtain ⟨ds, h2, e⟩ := Option.map_eq_some_iff.mp e
    subst e
    refine h.ok hσ x h1 dm fun v H1 s1 r1 => ?_
    refine hs.ok hσ (x.step s1 fun _ z => z) h2 (dom_same dm s1) fun vs H2 s2 r2 => ?_
    exact q _ _ (fun b o e => s2 b o (s1 b o e)) (.cons (r1.same (Sm.of_same s2)) r2)⟩
def fxLim (k : List D → D) (g : FXs) : FX := fun fs => (g fs).bind fun ds => if ds.length ≤ 100 then some (k ds) else none
theorem hx_lst {es : List Expr} {g : FXs} {ta : Addr → Value → Option Addr → TA} {p : Pos} (hs : HXs X n0 i es g ta) : HX X n0 i (.List es p) (fxLim .lst g) (fun a cls d => tLst (ta a cls d)) :=
  ⟨fun a oe cls d pn hz hv => pe_lst (hs.pa a oe cls d pn hz hv), fun {a cls dd fs F σ H dv Q} hσ x e dm q => by
    unfold fxLim at e
    obtain ⟨ds, h1, e⟩ := Option.bind_eq_some_iff.mp e
    split at e
    · rename_i hl
      cases e
      refine hs.ok hσ x h1 dm fun vs H1 s1 r1 => ?_
      refine ⟨by rw [r1.length, sizeLine_eq]; omega, fun p np => ?_⟩
      refine q _ _ (fun b o e => same_upd np b o (s1 b o e)) (.lst ⟨fun z => dom_same dm s1 p z np, .inl upd_same⟩ ?_)
      exact r1.same (Sm.of_same (same_upd np))
    · cases e⟩
end
structure DefT (τ : Type) [Sto τ] (P : Program) (w : World) (K : Fg) (mg : Str → Option Value) (base : Heap) (p : Addr × Obj) (k : Nat) (x : Str) (np : Nat) (m : List D → τ → Res τ D) : Prop where
  ex : ∃ (fd : FuncData) (ps : List Str), FnB P w K mg base (L2.CX P w) p k (He.ga K x) fd ps (spF np K m) ∧ mg x = some (.ref (He.ga K x)) ∧ PySem.W.keepIn K (.ref (He.ga K x)) = true ∧ Binds K fd ps []
theorem DefT.mk' {τ : Type} [Sto τ] {P : Program} {w : World} {K : Fg} {mg : Str → Option Value} {base : Heap} {p : Addr × Obj} {x : Str} {params : Arguments} {body : List Stmt} {scope : Scope} {fd : FuncData} {N ps : List Str} {k : Nat}
    (F : FunD K x x params body scope [] [] (He.ga K x) fd) (g : mg x = some (.ref (He.ga K x))) (S : FnScope N ps scope) (hb : Binds K fd ps []) (mb : MS τ)
    (hbd : ∀ (cdv : Value) (A : Around) (outer : List Env) (s : Shared) (H : Hp) (E : XK), RoomH k (A.deeper (envOfC x scope s.heap.objs.size (He.ga K x) cdv)) →
      PSs (cxH (L2.CX P w) P w K mg base N x scope (He.ga K x) cdv A outer s H E p) body (tS K (fun cls d _ H => E cls d H) mb)) : DefT τ P w K mg base p (k + 1) x ps.length (runB N.length mb) := by
  have hpl : ps.length ≤ N.length := by have := congrArg List.length S.pre; rw [List.length_take] at this; omega
  refine ⟨fd, ps, fnB_of F S (fun vs H Q E ⟨C, ds, t, _, _, r, hl, _⟩ => r.length.trans hl) fun cdv A outer s H vs Q E hr ⟨C, ds, t, okC, iv, r, hl, p⟩ => ⟨_, hbd cdv A outer s H E hr, C, _, t, At.start okC iv r (by rw [hl]; exact hpl), ?_⟩, g, F.kp, hb⟩
  unfold runB at p
  cases e : mb (ds.map Slot.val ++ List.replicate (N.length - ds.length) .no) t with
  | nx ρ' t' =>
    rw [e] at p
    exact fun σ' H' s' A' => p .non H' (fun b o n e => s'.keep b o (fun z => n (FoStart z)) e) (C.less A'.st fun _ => .inl) .non
  | rt d t' =>
    rw [e] at p
    exact fun v H' s' i r => p v H' (fun b o n e => s' b o (fun z => n (FoStart z)) e) i r
  | ex n fs ρ' t' =>
    rw [e] at p
    exact fun cls dd σ' H' s' A' x => p cls dd H' (fun b o n e => s'.keep b o (fun z => n (FoStart z)) e) (C.less A'.st fun _ => .inl) (x.anti fun _ => .inl)
  | bk ρ' t' => rw [e] at p; exact p.elim
  | ct ρ' t' => rw [e] at p; exact p.elim
  | bad => rw [e] at p; exact p.elim
section
variable {X : Cx} {W : WX} {τ : Type} [Sto τ] {a dd : Addr} {oe : Obj}
theorem DefT.mono {P : Program} {w : World} {K : Fg} {mg : Str → Option Value} {base : Heap} {p : Addr × Obj} {j k : Nat} {x : Str} {np : Nat} {m : List D → τ → Res τ D} (F : DefT τ P w K mg base p j x np m) (h : j ≤ k) : DefT τ P w K mg base p k x np m := by
  obtain ⟨fd, ps, ⟨F1, F2⟩, r⟩ := F.ex
  exact ⟨fd, ps, ⟨F1, fun A outer s H args us vs Q E hr hp e0 b r' hs => F2 A outer s H args us vs Q E (hr.mono h) hp e0 b r' hs⟩, r⟩
end
section
variable {X : Cx} {n0 : Str} {i : Nat}
end
section
variable {X : Cx} {W : WX} {K : Fg} {a D0 : Addr} {oe : Obj}
end
section
variable {a : Addr} {i : Nat} {b : Bool} {ρ : Rho} {t : Unit} {Q : D → Unit → Prop} {X : Str → Fds → Unit → Prop}
end
def fX0 (b : Bool) : Fds → Option D
  | none => some (.bl b)
  | some _ => none
end MM

namespace MM
open PySem PySem.Spec PyProof.Rows L2
section
variable {X : Cx} {W : WX} {τ : Type} [Sto τ] {K : Fg}
def fFmt : D → Option D
  | .str y => if y.length ≤ 16777216 then some (.str y) else none
  | .int i => if i.natAbs.log2 < 1920 then some (.str (toString i)) else none
  | _ => none
theorem me_fmt {e : Expr} {pos : Pos} {m : ME τ D} (h : PE X e (tE X.K W m)) : PE X (.FormattedValue e (-1) none pos) (tE X.K W (e1 fFmt m)) := PE.imp (pe_fmt h) fun σ H Q ⟨C, ρ, t, A, p⟩ => by
  refine use okE A p fun d t1 v H1 e1 s1 A1 r1 p1 => ?_
  cases e : fFmt d with
  | none => rw [e] at p1; exact p1.elim
  | some z =>
    rw [e] at p1
    unfold fFmt at e
    split at e
    · split at e
      · rename_i y hy
        cases e
        cases r1
        exact .inl ⟨y, rfl, by rw [sizeLine_eq]; omega, p1 _ H1 (Sm.refl _ _) A1.st (.str _)⟩
      · cases e
    · split at e
      · rename_i i hi
        cases e
        cases r1
        exact .inr ⟨i, rfl, hi, p1 _ H1 (Sm.refl _ _) A1.st (.str _)⟩
      · cases e
    · cases e
def eJs : List (ME τ D) → Str → ME τ D
  | [], acc => fun _ t => .ok (.str acc) t
  | m :: ms, acc => fun ρ t => (m ρ t).bind fun d t => match d with
    | .str y => if (acc ++ y).length ≤ 16777216 then eJs ms (acc ++ y) ρ t else .bad
    | _ => .bad
inductive PJE (X : Cx) (W : WX) (τ : Type) [Sto τ] : List Expr → List (ME τ D) → Prop
  | nil : PJE X W τ [] []
  | cons {e : Expr} {m : ME τ D} {es : List Expr} {ms : List (ME τ D)} : PE X e (tE X.K W m) → PJE X W τ es ms → PJE X W τ (e :: es) (m :: ms)
theorem PJE.pj {es : List Expr} {ms : List (ME τ D)} (h : PJE X W τ es ms) : PJ X es (ms.map fun m => tE X.K W m) := by
  induction h with
  | nil => exact .nil
  | cons h _ ih => exact .cons h ih
theorem js_red : ∀ (ms : List (ME τ D)) (acc : Str) (σ : L2.St) (H : Hp) (Q : VK), tE K W (eJs ms acc) σ H Q → tJs (ms.map fun m => tE K W m) acc σ H fun out H1 => Q (.str out) H1
  | [], acc, σ, H, Q, ⟨C, ρ, t, A, p⟩ => p _ H (Sm.refl _ _) A.st (.str acc)
  | m :: ms, acc, σ, H, Q, ⟨C, ρ, t, A, p⟩ => by
    show tE K W m σ H _
    refine use okE A p fun d t1 v H1 e1 s1 A1 r1 p1 => ?_
    cases d with
    | str y =>
      cases r1
      dsimp only at p1
      split at p1
      · rename_i hz
        exact ⟨y, rfl, by rw [sizeLine_eq]; omega, js_red ms (acc ++ y) σ H1 Q ⟨C, ρ, t1, A1, p1⟩⟩
      · exact p1.elim
    | _ => exact p1.elim
theorem me_joined {v1 v2 : Expr} {rest : List Expr} {ms : List (ME τ D)} {pos : Pos} (h : PJE X W τ (v1 :: v2 :: rest) ms) : PE X (.JoinedStr (v1 :: v2 :: rest) pos) (tE X.K W (eJs ms Str.empty)) :=
  PE.imp (pe_joined h.pj) fun σ H Q p => js_red ms Str.empty σ H Q p
def MtD (K : Fg) (r : V → List V → Hp → VK → Prop) (f : D → D → Option D) : Prop := ∀ (F : Fp) (H : Hp) (x y : V) (d e z : D) (Q : VK), Dom F H → Rep K F H x d → Rep K F H y e → f d e = some z → (∀ v H', Same H H' → Rep K F H' v z → Q v H') → (∃ a, x = .str a) ∧ r x [y] H Q
theorem me_m1 {id : String} {name : Str} {apos pos : Pos} {o e : Expr} {r : V → List V → Hp → VK → Prop} {f : D → D → Option D} {mo me : ME τ D} (slot : PySem.Slot "str" name id) (ty : typeOf (.builtin id) = pure (.type "method_descriptor")) (rule : MtR X id r) (hf : MtD X.K r f) (hx : ∀ d e z, f d e = some z → ∃ x, d = .str x)
    (ho : PE X o (tE X.K W mo)) (he : PE X e (tE X.K W me)) (hs : starEach [e] X.env = [(false, eval e X.env)] := by rfl) (hbase : attributeBase o name X.env (eval o X.env) = eval o X.env := by rfl) (hline : (apos.endLine == pos.line) = true := by rfl) :
    PE X (.Call (.Attribute o name apos) [e] [] pos) (tE X.K W (fun ρ t => (mo ρ t).bind fun d t => match d with | .str x => (me ρ t).bind fun e t => opt (f (.str x) e) t | _ => .bad)) :=
  PE.imp (pe_m1 slot ty rule ho he hs hbase hline) fun σ H Q ⟨C, ρ, t, A, p⟩ => by
    refine use okE A p fun d t1 v H1 e1 s1 A1 r1 p1 => ?_
    cases d with
    | str x =>
      have r1' := r1
      cases r1
      refine ⟨⟨x, rfl⟩, use okE A1 p1 fun d2 t2 v2 H2 e2 s2 A2 r2 p2 => ?_⟩
      cases e : f (.str x) d2 with
      | none => rw [e] at p2; exact p2.elim
      | some z =>
        rw [e] at p2
        exact (hf (Fo C.F ρ σ) H2 _ v2 (.str x) d2 z Q A2.dom (.str x) r2 e fun v' H' sm rr => p2 v' H' (Sm.of_same sm) (C.stay A2.st sm) rr).2
    | _ => exact p1.elim
def eM1 (f : D → D → Option D) (mo me : ME τ D) : ME τ D := fun ρ t => (mo ρ t).bind fun d t => match d with
  | .str x => (me ρ t).bind fun e t => opt (f (.str x) e) t
  | _ => .bad
def dStarts : D → D → Option D
  | .str a, .str b => some (.bl (Txt.startswith a b))
  | _, _ => none
theorem mt_starts : MtD K (fun x xs H Q => ∃ a b, x = .str a ∧ xs = [.str b] ∧ Q (.bl (Txt.startswith a b)) H) dStarts := fun F H x y d e z Q dm rx ry q k => by
  unfold dStarts at q
  split at q
  · cases q; cases rx; cases ry
    exact ⟨⟨_, rfl⟩, _, _, rfl, rfl, k _ H (Same.refl H) (.bl _)⟩
  · cases q
theorem me_starts {apos pos : Pos} {o e : Expr} {mo me : ME τ D} (ho : PE X o (tE X.K W mo)) (he : PE X e (tE X.K W me)) (hs : starEach [e] X.env = [(false, eval e X.env)] := by rfl) (hbase : attributeBase o "startswith" X.env (eval o X.env) = eval o X.env := by rfl) (hline : (apos.endLine == pos.line) = true := by rfl) :
    PE X (.Call (.Attribute o "startswith" apos) [e] [] pos) (tE X.K W (eM1 dStarts mo me)) :=
  me_m1 F.slot_str_startswith F.type_str_startswith mt_startswith mt_starts (fun d e z h => by unfold dStarts at h; split at h; exact ⟨_, rfl⟩; cases h) ho he hs hbase hline
def dPart : D → D → Option D
  | .str a, .str b => if (b.length == 0) = false ∧ a.length ≤ 16777216 then some (.tup [.str (Txt.partition a b).1, .str (Txt.partition a b).2.1, .str (Txt.partition a b).2.2]) else none
  | _, _ => none
theorem mt_part : MtD K (fun x xs H Q => ∃ a b, x = .str a ∧ xs = [.str b] ∧ (b.length == 0) = false ∧ a.length ≤ sizeLine ∧
    ∀ p, H p = none → Q (.ref p) (upd H p (.tup [.str (Txt.partition a b).1, .str (Txt.partition a b).2.1, .str (Txt.partition a b).2.2]))) dPart := fun F H x y d e z Q dm rx ry q k => by
  unfold dPart at q
  split at q
  · split at q
    · rename_i h
      cases q; cases rx; cases ry
      exact ⟨⟨_, rfl⟩, _, _, rfl, rfl, h.1, by rw [sizeLine_eq]; omega, fun p np => k _ _ (same_upd np) (Rep.newTup (.cons (.str _) (.cons (.str _) (.cons (.str _) .nil))) dm np)⟩
    · cases q
  · cases q
theorem me_part {apos pos : Pos} {o e : Expr} {mo me : ME τ D} (ho : PE X o (tE X.K W mo)) (he : PE X e (tE X.K W me)) (hs : starEach [e] X.env = [(false, eval e X.env)] := by rfl) (hbase : attributeBase o "partition" X.env (eval o X.env) = eval o X.env := by rfl) (hline : (apos.endLine == pos.line) = true := by rfl) :
    PE X (.Call (.Attribute o "partition" apos) [e] [] pos) (tE X.K W (eM1 dPart mo me)) :=
  me_m1 F.slot_str_partition F.type_str_partition mt_partition mt_part (fun d e z h => by unfold dPart at h; split at h; exact ⟨_, rfl⟩; cases h) ho he hs hbase hline
theorem Reps.strs {F : Fp} {H : Hp} : ∀ ys : List Str, Reps K F H (ys.map V.str) (ys.map D.str)
  | [] => .nil
  | y :: ys => .cons (.str y) (Reps.strs ys)
def dSplit : D → D → Option D
  | .str a, .str b => if (b.length == 0) = false ∧ a.length + 2 ≤ 16777216 then some (.lst ((Txt.split a b).map D.str)) else none
  | _, _ => none
theorem mt_spl : MtD K (fun x xs H Q => ∃ a b, x = .str a ∧ xs = [.str b] ∧ (b.length == 0) = false ∧ a.length + 2 ≤ sizeLine ∧ rNewStrs (Txt.split a b) H Q) dSplit := fun F H x y d e z Q dm rx ry q k => by
  unfold dSplit at q
  split at q
  · split at q
    · rename_i h
      cases q; cases rx; cases ry
      exact ⟨⟨_, rfl⟩, _, _, rfl, rfl, h.1, by rw [sizeLine_eq]; omega, fun p np => k _ _ (same_upd np) (.lst ⟨fun z => dm p z np, .inl upd_same⟩ (Reps.strs _))⟩
    · cases q
  · cases q
theorem me_split {apos pos : Pos} {o e : Expr} {mo me : ME τ D} (ho : PE X o (tE X.K W mo)) (he : PE X e (tE X.K W me)) (hs : starEach [e] X.env = [(false, eval e X.env)] := by rfl) (hbase : attributeBase o "split" X.env (eval o X.env) = eval o X.env := by rfl) (hline : (apos.endLine == pos.line) = true := by rfl) :
    PE X (.Call (.Attribute o "split" apos) [e] [] pos) (tE X.K W (eM1 dSplit mo me)) :=
  me_m1 F.slot_str_split F.type_str_split mt_split mt_spl (fun d e z h => by unfold dSplit at h; split at h; exact ⟨_, rfl⟩; cases h) ho he hs hbase hline
def dNotInS : D → D → Option D
  | .str i, .str j => some (.bl (!(!(Builtin.Str.occurrences j i 0 j.length 1).isEmpty)))
  | _, _ => none
theorem o_notinS : DOp2 K (fun x y H Q => ∃ i j, x = .str i ∧ y = .str j ∧ Q (.bl (!(!(Builtin.Str.occurrences j i 0 j.length 1).isEmpty))) H) dNotInS := fun F0 F H x y d e z Q dm rx ry q k => by
  unfold dNotInS at q
  split at q
  · cases q
    exact ⟨_, _, rx.strOf, ry.strOf, k _ H (Same.refl H) (.bl _)⟩
  · cases q
def sgnD (c : Nat) : D := .str ⟨#[c]⟩
def itS : D → Option (List D)
  | .str z => some (z.cps.toList.map sgnD)
  | _ => none
theorem rIt_str {I : Fp → Hp → Prop} {F0 F : Fp} {H H' : Hp} {z : Str} : rIt K I F0 F H H' (Its z) (z.cps.toList.map sgnD) := by
  have w : Walk (Its z) (z.cps.toList.map sgnD).length (fun _ => True) (fun i H v H' => H' = H ∧ ∃ c, z.cps[i]? = some c ∧ v = .str ⟨#[c]⟩) := by
    rw [List.length_map, Array.length_toList]; exact walk_str
  refine ⟨_, _, w, fun _ _ => trivial, fun Fc i H2 x H3 hi s dm y => ?_⟩
  obtain ⟨rfl, c, hc, rfl⟩ := y
  refine ⟨fun _ _ e => e, sgnD c, ?_, .str _⟩
  rw [List.getElem?_map, Array.getElem?_toList, hc]
  rfl
theorem mi_str {tg l : Expr} {m : ME τ D} (h : PE X l (tE X.K W m)) : PI X tg l (tI X.K W (e1 itS m)) := PI.imp (pi_str h) fun σ H R ⟨C, ρ, t, A, p⟩ => by
  refine use okI A p fun d t1 v H1 e1 s1 A1 r1 p1 => ?_
  cases d with
  | str z =>
    cases r1
    exact ⟨z, rfl, p1 _ H1 (Sm.refl _ _) A1.st rIt_str⟩
  | _ => exact p1.elim
end
section
variable {τ : Type} {Q : D → τ → Prop} {X : Str → Fds → τ → Prop} {ρ : Rho} {t : τ}
@[simp] theorem oE_jsN {acc : Str} : oE (eJs [] acc ρ t) Q X = Q (.str acc) t := rfl
@[simp] theorem oE_jsC {m : ME τ D} {ms : List (ME τ D)} {acc : Str} : oE (eJs (m :: ms) acc ρ t) Q X = oE (m ρ t) (fun d t => ∃ y, d = .str y ∧ (acc ++ y).length ≤ 16777216 ∧ oE (eJs ms (acc ++ y) ρ t) Q X) X := by
  show oE ((m ρ t).bind _) Q X = _
  cases m ρ t with
  | ok d t1 =>
    cases d with
    | str y =>
      simp only [Res.bind_ok, oE_ok, D.str.injEq, exists_eq_left']
      by_cases h : (acc ++ y).length ≤ 16777216
      · rw [if_pos h]; simp [h]
      · rw [if_neg h]; simp [h]
    | _ => simp
  | ex n fs t1 => simp
  | bad => simp
@[simp] theorem oE_M1 {f : D → D → Option D} {mo me : ME τ D} : oE (eM1 f mo me ρ t) Q X = oE (mo ρ t) (fun d t1 => ∃ x, d = .str x ∧ oE (me ρ t1) (fun e t2 => ∃ z, f (.str x) e = some z ∧ Q z t2) X) X := by
  unfold eM1
  cases mo ρ t with
  | ok d t1 =>
    cases d with
    | str x =>
      simp only [Res.bind_ok, oE_ok, D.str.injEq, exists_eq_left']
      cases me ρ t1 with
      | ok e t2 => cases e3 : f (.str x) e <;> simp [e3]
      | ex n fs t2 => simp
      | bad => simp
    | _ => simp
  | ex n fs t1 => simp
  | bad => simp
end
abbrev FW := Rho → FX
def SuW (X : Cx) (n0 : Str) (i : Nat) (τ : Type) [Sto τ] (b : Stmt) (j : Nat) (hw : FW) : Prop := ∃ te : Addr → Value → Option Addr → TE,
  (∀ (a : Addr) (oe : Obj) (cls : Value) (d : Option Addr) (pn : List (Addr × Obj)), Zc cls d oe → (∃ vs, oe.data = .fields vs) → PS (X.suite a ((a, oe) :: pn)) b (tAsg (te a cls d) (gName j))) ∧
  ∀ {C : SC τ} {ρ : Rho} {t : τ} {σ : L2.St} {H : Hp} {a : Addr} {cls : Value} {dd : Option Addr} {fs : Fds} {d : D} {Q : VK}, SuI X.K n0 i C ρ t σ H a cls dd fs → hw ρ fs = some d → (∀ v H', Same H H' → Rep X.K (Fo C.F ρ σ) H' v d → Q v H') → te a cls dd σ H Q
inductive SuWs (X : Cx) (n0 : Str) (i : Nat) (τ : Type) [Sto τ] : List Stmt → List (Nat × FW) → Prop
  | nil : SuWs X n0 i τ [] []
  | cons {b : Stmt} {bs : List Stmt} {j : Nat} {hw : FW} {l : List (Nat × FW)} : j ≠ i → SuW X n0 i τ b j hw → SuWs X n0 i τ bs l → SuWs X n0 i τ (b :: bs) ((j, hw) :: l)
def appW (fs : Fds) : List (Nat × FW) → Rho → Option Rho
  | [], ρ => some ρ
  | (j, hw) :: l, ρ => match hw ρ fs with
    | some d => appW fs l (ρ.set j (.val d))
    | none => none
section
variable {X : Cx} {W : WX} {τ : Type} [Sto τ] {n0 : Str} {i : Nat}
theorem SuW.hx {e : Expr} {hf : FX} {te : Addr → Value → Option Addr → TE} {b : Stmt} {j : Nat} (h : HX X n0 i e hf te) (hp : ∀ (a : Addr) (oe : Obj) (pn : List (Addr × Obj)) (t : TE), PE (X.suite a ((a, oe) :: pn)) e t → PS (X.suite a ((a, oe) :: pn)) b (tAsg t (gName j))) : SuW X n0 i τ b j (fun _ => hf) :=
  ⟨te, fun a oe cls d pn hz hv => hp a oe pn _ (h.pe a oe cls d pn hz hv), fun S e q => h.ok S.s S.x e S.at_.dom q⟩
def fwAdd (k : Nat) (hf : FX) : FW := fun ρ fs => match ρ[k]? with
  | some (.val d) => (hf fs).bind fun e => dAdd d e
  | _ => none
theorem SuW.add {e1 e2 : Expr} {hf : FX} {te : Addr → Value → Option Addr → TE} {b : Stmt} {j k : Nat} {p : Pos} (h1 : ∀ (a : Addr) (oe : Obj) (pn : List (Addr × Obj)), PE (X.suite a ((a, oe) :: pn)) e1 (tVar k)) (h : HX X n0 i e2 hf te)
    (hp : ∀ (a : Addr) (oe : Obj) (pn : List (Addr × Obj)) (t : TE), PE (X.suite a ((a, oe) :: pn)) (.BinOp e1 .Add e2 p) t → PS (X.suite a ((a, oe) :: pn)) b (tAsg t (gName j))) : SuW X n0 i τ b j (fwAdd k hf) :=
  ⟨fun a cls d => tOp (rAdd4 X.K) (tVar k) (te a cls d), fun a oe cls d pn hz hv => hp a oe pn _ (pe_op op_add4 (h1 a oe pn) (h.pe a oe cls d pn hz hv)), fun {C ρ t σ H a cls dd fs d Q} S e q => by
    unfold fwAdd at e
    split at e
    · rename_i dk ek
      obtain ⟨d2, h2, h3⟩ := Option.bind_eq_some_iff.mp e
      obtain ⟨v, hv, rv⟩ := S.at_.val k dk ek
      refine ⟨v, hv, ?_⟩
      refine h.ok S.s S.x h2 S.at_.dom fun v2 H2 s2 r2 => ?_
      exact o_add (Fo C.F ρ σ) (Fo C.F ρ σ) H2 v v2 dk d2 d Q (dom_same S.at_.dom s2) (.of (rv.same (Sm.of_same s2))) (.of r2) h3 fun v' H' sm rr => q v' H' (fun b o e => sm b o (s2 b o e)) rr
    · cases e⟩
def tW2 (K : Fg) (n0 : Str) (i : Nat) (τ : Type) [Sto τ] (l : List (Nat × FW)) (a : Addr) (cls : Value) (d : Option Addr) : TS := fun E σ H => ∃ (C : SC τ) (ρ : Rho) (t : τ) (fs : Fds), SuI K n0 i C ρ t σ H a cls d fs ∧
  ∃ ρ', appW fs l ρ = some ρ' ∧ ∀ σ' H', Stp (Fo C.F ρ σ) H (Fo C.F ρ' σ') H' → SuI K n0 i C ρ' t σ' H' a cls d fs → E.nx σ' H'
theorem SuWs.run {bs : List Stmt} {l : List (Nat × FW)} (h : SuWs X n0 i τ bs l) {a : Addr} {oe : Obj} {cls : Value} {d : Option Addr} {pn : List (Addr × Obj)} (hz : Zc cls d oe) (hv : ∃ vs, oe.data = .fields vs) : PSs (X.suite a ((a, oe) :: pn)) bs (tW2 X.K n0 i τ l a cls d) := by
  induction h with
  | nil => exact PSs.imp pss_nil fun E σ H ⟨C, ρ, t, fs, S, ρ', e, q⟩ => by cases e; exact q σ H (Stp.less fun _ z => z) S
  | @cons b bs j hw l ij hb _ ih =>
    obtain ⟨te, hp, ht⟩ := hb
    refine PSs.imp (pss_cons (hp a oe cls d pn hz hv) ih) fun E σ H ⟨C, ρ, t, fs, S, ρ', e, q⟩ => ?_
    unfold appW at e
    cases eh : hw ρ fs with
    | none => rw [eh] at e; cases e
    | some dv =>
      rw [eh] at e
      refine ht S eh fun v H1 sm r => ?_
      have smC : Sm C.F H H1 := fun b o _ e => sm b o e
      have A2 := S.at_.next smC (C.stay S.at_.st sm)
      have A3 := A2.setVal (i := j) (v := v) (d := dv) r
      have S3 : SuI X.K n0 i C (ρ.set j (.val dv)) t (σ.set j (some v)) H1 a cls d fs := ⟨A3, by rw [List.getElem?_set_ne ij]; exact S.no, by rw [List.getElem?_set_ne ij]; exact S.s, S.x.step sm fun b h => Fo.setVal h⟩
      refine ⟨C, _, t, fs, S3, ρ', e, fun σ' H' s' S' => q σ' H' (Stp.trans ⟨fun b o n e => sm b o e, fun b h => .inl (Fo.setVal h)⟩ s') S'⟩
def sTryW (mb : MS τ) (n0 : Str) (i : Nat) (l : List (Nat × FW)) : MS τ := fun ρ t => match mb ρ t with
  | .ex n fs ρ' t' => if n = n0 ∧ i < ρ'.length then (match appW fs l (ρ'.set i .no) with
    | some ρ1 => .nx (ρ1.set i .no) t'
    | none => .bad) else .bad
  | r => r
theorem ms_tryW {x n : Str} {c : Value} {i : Nat} {body : List Stmt} {b0 : Stmt} {bs : List Stmt} {np pos pos' : Pos} {mb : MS τ} {n0 : Str} {l : List (Nat × FW)} (hs : X.stack = X.env :: X.outer) (hfr : X.env.frame = some X.env.locals) (hN : X.N.Nodup) (hi : X.N[i]? = some n) (hln : X.env.kindOf n = some .local) (hc : Names X x c)
    (tk : Takes X W) (hex : PySem.W.exmOne X.K (.ref (He.ga X.K n0)) c = some true)
    (hb : ∀ (W : WX) (pn : List (Addr × Obj)) (xe : Value → Shared → Prop), Takes (X.tr pn xe) W → PassesOwn (model X.prog X.w) X.A X.env xe → PSs (X.tr pn xe) body (tS X.K W mb))
    (hsu : SuWs X n0 i τ (b0 :: bs) l) :
    PS X (.Try body [.ExceptHandler (some (.Name x np)) (some n) (b0 :: bs) pos'] [] [] pos) (tS X.K W (sTryW mb n0 i l)) := by
  refine PS.imp (ps_try_as (tb := fun W => tS X.K W mb) (ts := fun a cls d E σ H => tW2 X.K n0 i τ l a cls d E σ H) hs hfr hN hi hln hc tk hb fun a oe cls d pn hz hv => hsu.run hz hv) fun E σ H ⟨C, ρ, t, A, p⟩ => ?_
  refine ⟨C, ρ, t, A, ?_⟩
  unfold sTryW at p
  cases e : mb ρ t with
  | ex m fs ρ' t' =>
    rw [e] at p
    dsimp only at p
    split at p
    · rename_i em
      obtain ⟨em, il⟩ := em
      subst em
      cases eh : appW fs l (ρ'.set i .no) with
      | none => rw [eh] at p; exact p.elim
      | some ρ1 =>
        rw [eh] at p
        intro cls dd σ' H' s' A' x
        obtain ⟨ec, ed⟩ := id x
        subst ec
        refine ⟨true, hex, fun _ a na => ?_, fun z => by cases z⟩
        have hσ : (σ'.set i (some (V.ref a)))[i]? = some (some (.ref a)) := List.getElem?_set_self (by rw [A'.len]; exact il)
        have A1 := A'.clear i (some (V.ref a))
        have x1 := x.anti (F' := Fo C.F (ρ'.set i .no) (σ'.set i (some (V.ref a)))) fun b h => Fo.setNo h
        refine ⟨C, _, t', fs, ⟨A1, List.getElem?_set_self il, hσ, x1⟩, ρ1, eh, fun σ2 H2 s2 S2 => ?_⟩
        have A4 := S2.at_.clear i none
        refine p _ _ ?_ A4
        refine s'.trans (Stp.trans ⟨fun b o n e => e, fun b h => .inl (Fo.setNo h)⟩ (s2.trans ⟨fun b o n e => e, fun b h => .inl (Fo.setNo h)⟩))
    · exact p.elim
  | nx ρ' t' => rw [e] at p; exact p
  | rt d t' => rw [e] at p; exact p
  | bk ρ' t' => rw [e] at p; exact p
  | ct ρ' t' => rw [e] at p; exact p
  | bad => rw [e] at p; exact p
theorem hx_is0 {b : Bool} {c : V} {cv : Value} {p pos : Pos} {e1 e2 : Expr} (EC : ExcC X.K (He.ga X.K n0)) (hg : ∀ (a : Addr) (pn : List (Addr × Obj)), Gl (X.suite a pn) "isinstance") (hm : X.mg "isinstance" = none)
    (h1 : ∀ (a : Addr) (oe : Obj) (pn : List (Addr × Obj)), PE (X.suite a ((a, oe) :: pn)) e1 (tVar i)) (h2 : ∀ (a : Addr) (oe : Obj) (pn : List (Addr × Obj)), PE (X.suite a ((a, oe) :: pn)) e2 (tC c)) (hc : ∀ u, RelV c u → u = cv) (hk : PySem.W.kitOne X.K (.ref (He.ga X.K n0)) cv = some b)
    (hst : ∀ (a : Addr) (pn : List (Addr × Obj)), starEach [e1, e2] (X.suite a pn).env = (false, eval e1 (X.suite a pn).env) :: starEach [e2] (X.suite a pn).env := by intro _ _; rfl) (hst2 : ∀ (a : Addr) (pn : List (Addr × Obj)), starEach [e2] (X.suite a pn).env = (false, eval e2 (X.suite a pn).env) :: starEach [] (X.suite a pn).env := by intro _ _; rfl)
    (hpl : ∀ (a : Addr) (pn : List (Addr × Obj)), (backTo pos (starEach [e2] (X.suite a pn).env)).any (·.1) = false := by intro _ _; rfl) :
    HX X n0 i (.Call (.Name "isinstance" p) [e1, e2] [] pos) (fX0 b) (fun a cls d σ H Q => σ[i]? = some (some (.ref a)) ∧ (cls = .ref (He.ga X.K n0) ∧ d = none) ∧ Q (.bl b) H) :=
  ⟨fun a oe cls d pn hz hv => ⟨fun pins s σ H Q I ⟨hσ, ⟨e1', e2'⟩, q⟩ => by
    subst e1' e2'
    exact (its_is EC hz hv (hg a _) hm (h1 a oe pn) (h2 a oe pn) hc hk (hst a _) (hst2 a _) (hpl a _)).run pins s σ H Q I ⟨hσ, q⟩⟩, fun {a cls dd fs F σ H dv Q} hσ x e dm q => by
    obtain ⟨ec, x⟩ := x
    cases fs with
    | some pr => cases e
    | none =>
      cases e
      exact ⟨hσ, ⟨ec, x⟩, q _ H (Same.refl H) (.bl _)⟩⟩
end
section
variable {τ : Type} {P : Pt τ} {ρ : Rho} {t : τ}
@[simp] theorem oS_tryW {mb : MS τ} {n : Str} {i : Nat} {l : List (Nat × FW)} : oS (sTryW mb n i l ρ t) P = oS (mb ρ t) { P with ex := fun m fs ρ t => (m = n ∧ i < ρ.length) ∧ ∃ ρ1, appW fs l (ρ.set i .no) = some ρ1 ∧ P.nx (ρ1.set i .no) t } := by
  unfold sTryW
  cases mb ρ t with
  | ex m fs ρ' t' =>
    dsimp only
    by_cases q : m = n ∧ i < ρ'.length
    · rw [if_pos q]
      cases e : appW fs l (ρ'.set i .no) with
      | none =>
        show False = (_ ∧ ∃ d, appW fs l (ρ'.set i .no) = some d ∧ _)
        rw [e]
        exact propext ⟨fun z => z.elim, fun ⟨_, d, z, _⟩ => by cases z⟩
      | some d =>
        show P.nx _ _ = (_ ∧ ∃ d, appW fs l (ρ'.set i .no) = some d ∧ _)
        rw [e]
        exact propext ⟨fun z => ⟨q, d, rfl, z⟩, fun ⟨_, d', z, k⟩ => by cases z; exact k⟩
    · rw [if_neg q]
      exact propext ⟨fun z => False.elim z, fun z => (q z.1).elim⟩
  | _ => rfl
end
end MM

noncomputable section
namespace MM
open PySem PySem.Spec PyProof.Rows L2
def b_is_whole : MS Unit :=
  (sRet (eAnd2 (e1 fIsi (aCons (eVarW 0) (aCons (eC (.ty "int")) aNil))) (eNot1 (e1 fIsi (aCons (eVarW 0) (aCons (eC (.ty "bool")) aNil))))))
def m_is_whole : List D → Unit → Res Unit D := runB 1 b_is_whole
def b_divisor : MS Unit :=
  (sSeq (sPar 0 1 (e1 fAbs (aCons (eVarW 0) aNil)) (e1 fAbs (aCons (eVarW 1) aNil)))
  (sSeq (sWhile (e1 asB (e2 dGt (eVarW 1) (eC (.int 0)))) (sPar 0 1 (eVar 1) (e2 dMod (eVarW 0) (eVarW 1))))
  (sRet (eVar 0))))
def m_divisor : List D → Unit → Res Unit D := runB 2 b_divisor
def b_is_share : MS Unit :=
  (sSeq (sIf (tOr2 (tNot1 (e1 truth (e1 fIsi (aCons (eVarW 0) (aCons (eC (.ty "tuple")) aNil))))) (e1 asB (e2 dNe (e1 fLen (aCons (eVarW 0) aNil)) (eC (.int 2))))) (sRet (eC (.bl false))) sSkip)
  (sSeq (sIf (tOr2 (tNot1 (e1 truth (eCall m_is_whole [] (aCons (e2 dIx (eVarW 0) (eC (.int 0))) aNil)))) (tOr2 (tNot1 (e1 truth (eCall m_is_whole [] (aCons (e2 dIx (eVarW 0) (eC (.int 1))) aNil)))) (e1 asB (e2 dLt (e2 dIx (eVarW 0) (eC (.int 1))) (eC (.int 1)))))) (sRet (eC (.bl false))) sSkip)
  (sRet (e2 dEq (eCall m_divisor [] (aCons (e2 dIx (eVarW 0) (eC (.int 0))) (aCons (e2 dIx (eVarW 0) (eC (.int 1))) aNil))) (eC (.int 1))))))
def m_is_share : List D → Unit → Res Unit D := runB 1 b_is_share
def b_share_text : MS Unit :=
  (sSeq (sIf (e1 asB (e2 dEq (e2 dIx (eVarW 0) (eC (.int 1))) (eC (.int 1)))) (sRet (e1 fStrI (aCons (e2 dIx (eVarW 0) (eC (.int 0))) aNil))) sSkip)
  (sRet (eJs [(e1 fFmt (e2 dIx (eVarW 0) (eC (.int 0)))), (eC (.str "/")), (e1 fFmt (e2 dIx (eVarW 0) (eC (.int 1))))] Str.empty)))
def m_share_text : List D → Unit → Res Unit D := runB 1 b_share_text
def b_figures_read : MS Unit :=
  (sSeq (sIf (tOr2 (e1 asB (e2 dEqSS (eVarW 0) (eC (.str "")))) (tOr2 (e1 asB (e2 dGt (e1 fLen (aCons (eVarW 0) aNil)) (eC (.int 400)))) (tAnd2 (e1 asB (e2 dNeSS (eVarW 0) (eC (.str "0")))) (e1 asB (e2 dEqSS (e2 dIx (eVarW 0) (eC (.int 0))) (eC (.str "0"))))))) (sRaise "NoShare") sSkip)
  (sSeq (sFor (e1 itS (eVar 0)) (gN 1) (sIf (e1 asB (e2 dNotInS (eVarW 1) (eC (.str "0123456789")))) (sRaise "NoShare") sSkip))
  (sRet (e1 fIntA (aCons (eVarW 0) aNil)))))
def m_figures_read : List D → Unit → Res Unit D := runB 2 b_figures_read
def b_whole_read : MS Unit :=
  (sSeq (sIf (tNot1 (e1 truth (eM1 dStarts (eVar 0) (eC (.str "-"))))) (sRet (eCall m_figures_read [] (aCons (eVar 0) aNil))) sSkip)
  (sSeq (sAsg (gN 1) (eCall m_figures_read [] (aCons (e3 dCutA (eVarW 0) (oSome (eC (.int 1))) oNone) aNil)))
  (sSeq (sIf (e1 asB (e2 dEq (eVarW 1) (eC (.int 0)))) (sRaise "NoShare") sSkip)
  (sRet (e1 dNeg (eVarW 1))))))
def m_whole_read : List D → Unit → Res Unit D := runB 2 b_whole_read
def b_read_share : MS Unit :=
  (sSeq (sAsg (gT (gCons (gN 1) (gCons (gN 2) (gCons (gN 3) gNil)))) (eM1 dPart (eVar 0) (eC (.str "/"))))
  (sSeq (sAsg (gN 4) (eTup (aCons (eCall m_whole_read [] (aCons (eVar 1) aNil)) (aCons (eC (.int 1)) aNil))))
  (sSeq (sIf (e1 asB (e2 dNeSS (eVarW 2) (eC (.str "")))) (sSeq (sAsg (gN 4) (eTup (aCons (e2 dIx (eVarW 4) (eC (.int 0))) (aCons (eCall m_figures_read [] (aCons (eVar 3) aNil)) aNil))))
  (sIf (tOr2 (e1 asB (e2 dLt (e2 dIx (eVarW 4) (eC (.int 1))) (eC (.int 2)))) (tNot1 (e1 truth (eCall m_is_share [] (aCons (eVar 4) aNil))))) (sRaise "NoShare") sSkip)) sSkip)
  (sRet (eVar 4)))))
def m_read_share : List D → Unit → Res Unit D := runB 5 b_read_share
def b__law_cell : MS Unit :=
  (sSeq (sIf (e1 asB (e2 dEq (e1 fLen (aCons (eVarW 0) aNil)) (eC (.int 0)))) (sRet (e2 dAdd (e2 dMulI (eC (.int 7)) (eVarW 1)) (eC (.int 3)))) sSkip)
  (sRet (e1 fAbs (aCons (e2 dIx (eVarW 0) (e2 dMod (eVarW 1) (e1 fLen (aCons (eVarW 0) aNil)))) aNil))))
def m__law_cell : List D → Unit → Res Unit D := runB 2 b__law_cell
def b__law_mixed : MS Unit :=
  (sSeq (sAsg (gN 3) (e2 dMod (e2 dPow (e2 dAdd (e2 dMulI (e2 dAdd (e2 dMod (eCall m__law_cell [] (aCons (eVar 0) (aCons (eVar 1) aNil))) (eC (.int 1000003))) (eC (.int 5))) (e2 dAdd (eVarW 1) (eC (.int 2)))) (e2 dMulI (eC (.int 7919)) (eVarW 1))) (eC (.int 5))) (eC (.int 2147483647))))
  (sRet (e2 dMod (e2 dDiv (eVarW 3) (eC (.int 13))) (eVarW 2))))
def m__law_mixed : List D → Unit → Res Unit D := runB 4 b__law_mixed
def b__law_deck : MSd :=
  (retD 0 (eComp (e1 itD (eVar 0)) [1] (gN 1) (e1 asB (e2 dGe (e1 fAbs (aCons (eVarW 1) aNil)) (e2 dPow (eC (.int 10)) (eC (.int 18))))) (e1 fAbs (aCons (eVarW 1) aNil))))
def m__law_deck : List D → Option (D × List Int) := runD 2 b__law_deck
def b__law_take : MS Dk :=
  (sSeq (sWhile (e1 asB (e2 dLt (eDk 0 2) (eDkLen 0))) (sSeq (sAsg (gN 2) (eDkAt 0))
  (sSeq (sIf (e1 asB (e2 dGt (eVarW 2) (eC (.int 0)))) (sSeq (sDkBig 0 (e2 dDiv (eVarW 2) (eVarW 1)))
  (sRet (e2 dMod (eVarW 2) (eVarW 1)))) sSkip)
  (sDkSet 0 2 (e2 dAdd (eDk 0 2) (eC (.int 1)))))))
  (sSeq (sDkSet 0 3 (e2 dAdd (eDk 0 3) (eC (.int 1))))
  (sRet (eCall m__law_mixed [] (aCons (eDk 0 0) (aCons (eDk 0 3) (aCons (eVar 1) aNil)))))))
def m__law_take : List D → Dk → Res Dk D := runB 3 b__law_take
def b__law_gcd : MS Unit :=
  (sSeq (sAsg (gN 0) (e1 fAbs (aCons (eVarW 0) aNil)))
  (sSeq (sAsg (gN 1) (e1 fAbs (aCons (eVarW 1) aNil)))
  (sSeq (sWhile (e1 asB (e2 dGt (eVarW 1) (eC (.int 0)))) (sSeq (sAsg (gN 2) (e2 dMod (eVarW 0) (eVarW 1)))
  (sSeq (sAsg (gN 0) (eVar 1))
  (sAsg (gN 1) (eVar 2)))))
  (sRet (eVar 0)))))
def m__law_gcd : List D → Unit → Res Unit D := runB 3 b__law_gcd
def b__law_share : MS Unit :=
  (sSeq (sIf (e1 asB (e2 dLt (eVarW 1) (eC (.int 0)))) (sSeq (sAsg (gN 0) (e1 dNeg (eVarW 0)))
  (sAsg (gN 1) (e1 dNeg (eVarW 1)))) sSkip)
  (sSeq (sAsg (gN 2) (eCall m__law_gcd [] (aCons (eVar 0) (aCons (eVar 1) aNil))))
  (sRet (eTup (aCons (e2 dDiv (eVarW 0) (eVarW 2)) (aCons (e2 dDiv (eVarW 1) (eVarW 2)) aNil))))))
def m__law_share : List D → Unit → Res Unit D := runB 3 b__law_share
def b__law_whole : MS Dk :=
  (sSeq (sAsg (gN 1) (eCallS m__law_take [] (aCons (eVar 0) (aCons (eC (.int 4)) aNil))))
  (sSeq (sIf (e1 asB (e2 dEq (eVarW 1) (eC (.int 0)))) (sRet (e2 dSub (eCallS m__law_take [] (aCons (eVar 0) (aCons (eC (.int 5)) aNil))) (eC (.int 2)))) sSkip)
  (sSeq (sAsg (gN 2) (eC (.int 0)))
  (sSeq (sFor (e1 fRng1 (aCons (e2 dIx (eLst (e1 lim (aCons (eC (.int 0)) (aCons (eC (.int 1)) (aCons (eC (.int 2)) (aCons (e2 dAdd (eC (.int 1)) (eCallS m__law_take [] (aCons (eVar 0) (aCons (eC (.int 4)) aNil)))) aNil)))))) (eVarW 1)) aNil)) (gN 3) (sAsg (gN 2) (e2 dAdd (e2 dMulI (eVarW 2) (e2 dPow (eC (.int 10)) (eC (.int 8)))) (eCallS m__law_take [] (aCons (eVar 0) (aCons (e2 dPow (eC (.int 10)) (eC (.int 8))) aNil))))))
  (sRet (e2 dMulI (eVarW 2) (e2 dSub (eC (.int 1)) (e2 dMulI (eC (.int 2)) (eCallS m__law_take [] (aCons (eVar 0) (aCons (eC (.int 2)) aNil)))))))))))
def m__law_whole : List D → Dk → Res Dk D := runB 4 b__law_whole
def b__law_is_share : MS Unit :=
  (sSeq (sIf (tOr2 (tNot1 (e1 truth (e1 fIsi (aCons (eVarW 0) (aCons (eC (.ty "tuple")) aNil))))) (e1 asB (e2 dNe (e1 fLen (aCons (eVarW 0) aNil)) (eC (.int 2))))) (sRet (eC (.bl false))) sSkip)
  (sSeq (sFor (e1 itD (eVar 0)) (gN 1) (sIf (tOr2 (tNot1 (e1 truth (e1 fIsi (aCons (eVarW 1) (aCons (eC (.ty "int")) aNil))))) (e1 truth (e1 fIsi (aCons (eVarW 1) (aCons (eC (.ty "bool")) aNil))))) (sRet (eC (.bl false))) sSkip))
  (sRet (eAnd2 (e2 dGe (e2 dIx (eVarW 0) (eC (.int 1))) (eC (.int 1))) (e2 dEq (eCall m__law_gcd [] (aCons (e2 dIx (eVarW 0) (eC (.int 0))) (aCons (e2 dIx (eVarW 0) (eC (.int 1))) aNil))) (eC (.int 1)))))))
def m__law_is_share : List D → Unit → Res Unit D := runB 2 b__law_is_share
def b__law_drawn : MS Dk :=
  (sSeq (sIf (e1 asB (e2 dEq (eCallS m__law_take [] (aCons (eVar 0) (aCons (eC (.int 4)) aNil))) (eC (.int 0)))) (sSeq (sAsg (gN 1) (e1 fIntA (aCons (e2 dMulS (eC (.str "9")) (e2 dIx (eLst (e1 lim (aCons (eC (.int 399)) (aCons (eC (.int 400)) (aCons (eC (.int 401)) aNil))))) (eCallS m__law_take [] (aCons (eVar 0) (aCons (eC (.int 3)) aNil))))) aNil)))
  (sRet (e2 dIx (eLst (e1 lim (aCons (eTup (aCons (eVar 1) (aCons (eC (.int 1)) aNil))) (aCons (eTup (aCons (e1 dNeg (eVarW 1)) (aCons (eC (.int 1)) aNil))) (aCons (eTup (aCons (eC (.int 1)) (aCons (eVar 1) aNil))) (aCons (eTup (aCons (e2 dSub (eVarW 1) (eC (.int 1))) (aCons (eVar 1) aNil))) aNil)))))) (eCallS m__law_take [] (aCons (eVar 0) (aCons (eC (.int 4)) aNil)))))) sSkip)
  (sSeq (sAsg (gN 2) (eCallS m__law_whole [] (aCons (eVar 0) aNil)))
  (sRet (eCall m__law_share [] (aCons (eVar 2) (aCons (e2 dIx (eLst (e1 lim (aCons (eC (.int 1)) (aCons (e1 fMax2 (aCons (eC (.int 1)) (aCons (e1 fAbs (aCons (eCallS m__law_whole [] (aCons (eVar 0) aNil)) aNil)) aNil))) (aCons (e2 dAdd (eC (.int 2)) (eCallS m__law_take [] (aCons (eVar 0) (aCons (eC (.int 50)) aNil)))) aNil))))) (eCallS m__law_take [] (aCons (eVar 0) (aCons (eC (.int 3)) aNil)))) aNil))))))
def m__law_drawn : List D → Dk → Res Dk D := runB 3 b__law_drawn
def b__law_text : MS Unit :=
  (sSeq (sIf (e1 asB (e2 dEq (e2 dIx (eVarW 0) (eC (.int 1))) (eC (.int 1)))) (sRet (e1 fStrI (aCons (e2 dIx (eVarW 0) (eC (.int 0))) aNil))) sSkip)
  (sRet (e2 dAdd (e2 dAdd (e1 fStrI (aCons (e2 dIx (eVarW 0) (eC (.int 0))) aNil)) (eC (.str "/"))) (e1 fStrI (aCons (e2 dIx (eVarW 0) (eC (.int 1))) aNil)))))
def m__law_text : List D → Unit → Res Unit D := runB 1 b__law_text
def b__law_sign : MS Dk :=
  (sSeq (sAsg (gN 1) (eC (.str "0123456789/-+., :;=_abcdefghijklmnopqrstuvwxyzABCDEFGHIJKLMNOPQRSTUVWXYZ!\"#$&'()*<>?@\x5b\\]^`{|}~\n")))
  (sSeq (sAsg (gN 2) (eLst (e1 lim (aCons (eC (.str "0")) (aCons (eC (.str "1")) (aCons (eC (.str "-")) (aCons (eC (.str "/")) (aCons (eC (.str " ")) (aCons (eC (.str "\n")) (aCons (eC (.str "+")) (aCons (eC (.str "_")) aNil)))))))))))
  (sSeq (sIf (e1 asB (e2 dEq (eCallS m__law_take [] (aCons (eVar 0) (aCons (eC (.int 2)) aNil))) (eC (.int 0)))) (sRet (e2 dIx (eVarW 2) (eCallS m__law_take [] (aCons (eVar 0) (aCons (eC (.int 8)) aNil))))) sSkip)
  (sRet (e2 dIx (eVarW 1) (eCallS m__law_take [] (aCons (eVar 0) (aCons (e1 fLen (aCons (eVarW 1) aNil)) aNil))))))))
def m__law_sign : List D → Dk → Res Dk D := runB 3 b__law_sign
def b__law_bent : MS Dk :=
  (sSeq (sAsg (gN 2) (eCallS m__law_take [] (aCons (eVar 0) (aCons (eC (.int 8)) aNil))))
  (sSeq (sAsg (gN 3) (eCall m__law_text [] (aCons (eVar 1) aNil)))
  (sSeq (sAsg (gN 4) (eCallS m__law_take [] (aCons (eVar 0) (aCons (e2 dAdd (e1 fLen (aCons (eVarW 3) aNil)) (eC (.int 1))) aNil))))
  (sSeq (sIf (e1 asB (e2 dEq (eVarW 2) (eC (.int 0)))) (sRet (e2 dAdd (e2 dAdd (e3 dCutA (eVarW 3) oNone (oSome (eVar 4))) (eCallS m__law_sign [] (aCons (eVar 0) aNil))) (e3 dCutA (eVarW 3) (oSome (eVar 4)) oNone))) sSkip)
  (sSeq (sIf (e1 asB (e2 dEq (eVarW 2) (eC (.int 1)))) (sRet (e2 dAdd (e2 dAdd (e3 dCutA (eVarW 3) oNone (oSome (eVar 4))) (eCallS m__law_sign [] (aCons (eVar 0) aNil))) (e3 dCutA (eVarW 3) (oSome (e2 dAdd (eVarW 4) (eC (.int 1)))) oNone))) sSkip)
  (sSeq (sIf (e1 asB (e2 dEq (eVarW 2) (eC (.int 2)))) (sRet (e2 dAdd (e3 dCutA (eVarW 3) oNone (oSome (eVar 4))) (e3 dCutA (eVarW 3) (oSome (e2 dAdd (eVarW 4) (eC (.int 1)))) oNone))) sSkip)
  (sSeq (sIf (e1 asB (e2 dEq (eVarW 2) (eC (.int 3)))) (sSeq (sAsg (gN 5) (e3 dCutA (eVarW 3) (oSome (eVar 4)) (oSome (e2 dAdd (eVarW 4) (eC (.int 2))))))
  (sRet (e2 dAdd (e2 dAdd (e2 dAdd (e3 dCutA (eVarW 3) oNone (oSome (eVar 4))) (e3 dCutA (eVarW 5) (oSome (eC (.int 1))) oNone)) (e3 dCutA (eVarW 5) oNone (oSome (eC (.int 1))))) (e3 dCutA (eVarW 3) (oSome (e2 dAdd (eVarW 4) (eC (.int 2)))) oNone)))) sSkip)
  (sSeq (sIf (e1 asB (e2 dEq (eVarW 2) (eC (.int 4)))) (sRet (e2 dAdd (e2 dIx (eLst (e1 lim (aCons (eC (.str "+")) (aCons (eC (.str "-")) (aCons (eC (.str "0")) (aCons (eC (.str " ")) (aCons (eC (.str "--")) (aCons (eC (.str "00")) (aCons (eC (.str "/")) (aCons (eC (.str "1/")) aNil)))))))))) (eCallS m__law_take [] (aCons (eVar 0) (aCons (eC (.int 8)) aNil)))) (eVarW 3))) sSkip)
  (sSeq (sIf (e1 asB (e2 dEq (eVarW 2) (eC (.int 5)))) (sRet (e2 dAdd (eVarW 3) (e2 dIx (eLst (e1 lim (aCons (eC (.str "/1")) (aCons (eC (.str "/0")) (aCons (eC (.str "0")) (aCons (eC (.str " ")) (aCons (eC (.str "\n")) (aCons (eC (.str "/")) (aCons (eC (.str "/-1")) (aCons (eC (.str "/2")) aNil)))))))))) (eCallS m__law_take [] (aCons (eVar 0) (aCons (eC (.int 8)) aNil)))))) sSkip)
  (sSeq (sIf (e1 asB (e2 dEq (eVarW 2) (eC (.int 6)))) (sSeq (sAsg (gN 6) (e2 dAdd (eC (.int 2)) (eCallS m__law_take [] (aCons (eVar 0) (aCons (eC (.int 7)) aNil)))))
  (sRet (e2 dAdd (e2 dAdd (e1 fStrI (aCons (e2 dMulI (eVarW 6) (e2 dIx (eVarW 1) (eC (.int 0)))) aNil)) (eC (.str "/"))) (e1 fStrI (aCons (e2 dMulI (eVarW 6) (e2 dIx (eVarW 1) (eC (.int 1)))) aNil))))) sSkip)
  (sRet (e2 dIx (eLst (e1 lim (aCons (eC (.str "")) (aCons (eC (.str "-")) (aCons (eC (.str "/")) (aCons (eC (.str "-0")) (aCons (eC (.str "0/5")) (aCons (eC (.str "5/-2")) (aCons (eC (.str "1/01")) (aCons (eC (.str "01/2")) aNil)))))))))) (eCallS m__law_take [] (aCons (eVar 0) (aCons (eC (.int 8)) aNil)))))))))))))))
def m__law_bent : List D → Dk → Res Dk D := runB 7 b__law_bent
def b__law_figures : MS Unit :=
  (sSeq (sIf (tOr2 (e1 asB (e2 dEqSS (eVarW 0) (eC (.str "")))) (tOr2 (e1 asB (e2 dGt (e1 fLen (aCons (eVarW 0) aNil)) (eC (.int 400)))) (tAnd2 (e1 asB (e2 dEqSS (e2 dIx (eVarW 0) (eC (.int 0))) (eC (.str "0")))) (e1 asB (e2 dGt (e1 fLen (aCons (eVarW 0) aNil)) (eC (.int 1))))))) (sRet (eC .non)) sSkip)
  (sSeq (sFor (e1 itS (eVar 0)) (gN 1) (sIf (e1 asB (e2 dNotInS (eVarW 1) (eC (.str "0123456789")))) (sRet (eC .non)) sSkip))
  (sRet (e1 fIntA (aCons (eVarW 0) aNil)))))
def m__law_figures : List D → Unit → Res Unit D := runB 2 b__law_figures
def b__law_read : MS Unit :=
  (sSeq (sAsg (gN 1) (eM1 dSplit (eVar 0) (eC (.str "/"))))
  (sSeq (sAsg (gN 2) (e2 dEqSS (e3 dCutA (e2 dIx (eVarW 1) (eC (.int 0))) oNone (oSome (eC (.int 1)))) (eC (.str "-"))))
  (sSeq (sAsg (gN 3) (eCall m__law_figures [] (aCons (e3 dCutA (e2 dIx (eVarW 1) (eC (.int 0))) (oSome (e1 fIntA (aCons (eVarW 2) aNil))) oNone) aNil)))
  (sSeq (sIf (tOr2 (e1 asB (e2 dIs (eVarW 3) (eC .non))) (tOr2 (tAnd2 (e1 truth (eVarW 2)) (e1 asB (e2 dEq (eVarW 3) (eC (.int 0))))) (e1 asB (e2 dGt (e1 fLen (aCons (eVarW 1) aNil)) (eC (.int 2)))))) (sRet (eC .non)) sSkip)
  (sSeq (sIf (e1 truth (eVarW 2)) (sAsg (gN 3) (e1 dNeg (eVarW 3))) sSkip)
  (sSeq (sIf (e1 asB (e2 dEq (e1 fLen (aCons (eVarW 1) aNil)) (eC (.int 1)))) (sRet (eTup (aCons (eVar 3) (aCons (eC (.int 1)) aNil)))) sSkip)
  (sSeq (sAsg (gN 4) (eCall m__law_figures [] (aCons (e2 dIx (eVarW 1) (eC (.int 1))) aNil)))
  (sSeq (sIf (tOr2 (e1 asB (e2 dIs (eVarW 4) (eC .non))) (tOr2 (e1 asB (e2 dLt (eVarW 4) (eC (.int 2)))) (e1 asB (e2 dNe (eCall m__law_gcd [] (aCons (eVar 3) (aCons (eVar 4) aNil))) (eC (.int 1)))))) (sRet (eC .non)) sSkip)
  (sRet (eTup (aCons (eVar 3) (aCons (eVar 4) aNil))))))))))))
def m__law_read : List D → Unit → Res Unit D := runB 5 b__law_read
def b__law_reads : MS Unit :=
  (sSeq (sAsg (gN 1) (eC .non))
  (sSeq (sAsg (gN 2) (eLst (e1 lim aNil)))
  (sSeq (sTryW (sAsg (gN 1) (eCall m_read_share [] (aCons (eVar 0) aNil))) "NoShare" 3 [(2, (fun _ => (fxLim .lst (fxCons (fX0 true) (fxCons (fX0 true) (fun _ => some [])))))), (2, (fwAdd 2 (fxLim .lst (fxCons (fX0 false) (fxCons (fX0 false) (fun _ => some []))))))])
  (sSeq (sAsg (gN 4) (eCall m__law_read [] (aCons (eVar 0) aNil)))
  (sSeq (sIf (e1 asB (e2 dIs (eVarW 4) (eC .non))) (sRet (e2 dEq (eVarW 2) (eLst (e1 lim (aCons (eC (.bl true)) (aCons (eC (.bl true)) (aCons (eC (.bl false)) (aCons (eC (.bl false)) aNil)))))))) sSkip)
  (sRet (eAnd2 (e2 dEq (eVarW 2) (eLst (e1 lim aNil))) (eAnd2 (eCall m__law_is_share [] (aCons (eVar 1) aNil)) (e2 dEq (eVarW 1) (eVarW 4))))))))))
def m__law_reads : List D → Unit → Res Unit D := runB 5 b__law_reads
def b_law : MS Dk :=
  (sSeq (sFor (e1 fRng1 (aCons (eC (.int 4)) aNil)) (gN 2) (sSeq (sAsg (gN 3) (eCallS m__law_drawn [] (aCons (eVar 1) aNil)))
  (sSeq (sAsg (gN 4) (eCall m__law_text [] (aCons (eVar 3) aNil)))
  (sSeq (sAsg (gN 5) (eCall m_share_text [] (aCons (eVar 3) aNil)))
  (sSeq (sIf (tOr2 (tNot1 (e1 truth (e1 fIsi (aCons (eVarW 5) (aCons (eC (.ty "str")) aNil))))) (tOr2 (e1 asB (e2 dNeSS (eVarW 5) (eVarW 4))) (tNot1 (e1 truth (eCall m__law_reads [] (aCons (eVar 4) aNil)))))) (sRet (eC (.bl false))) sSkip)
  (sFor (e1 fRng1 (aCons (eC (.int 4)) aNil)) (gN 6) (sIf (tNot1 (e1 truth (eCall m__law_reads [] (aCons (eCallS m__law_bent [] (aCons (eVar 1) (aCons (eVar 3) aNil))) aNil)))) (sRet (eC (.bl false))) sSkip)))))))
  (sRet (eC (.bl true))))
end MM
end
namespace MM
open PySem PySem.Spec PyProof.Rows L2
theorem fmod_nat (x y : Nat) : Int.fmod (x : Int) (y : Int) = ((x % y : Nat) : Int) := by
  rw [Int.fmod_eq_emod_of_nonneg _ (by omega)]; rfl
theorem gcd_step {x n : Nat} {g : Nat} (h : x.gcd n = g) : n.gcd (x % n) = g := by rw [Nat.gcd_comm, ← Nat.gcd_rec, Nat.gcd_comm]; exact h
theorem cast1 (n : Nat) : ((n : Int) = 1) = (n = 1) := by simp; omega
def isWh : D → Bool
  | .int _ => true
  | _ => false
theorem tyN_dct {ks vs : List D} (h : (tyN (.dct ks vs)).isSome = true) : tyN (.dct ks vs) = some "dict" := by
  have e : tyN (.dct ks vs) = if (ks.all fun k => (keyOf k).isSome) = true then some "dict" else none := rfl
  rw [e] at h ⊢
  split
  · rfl
  · rename_i q
    rw [if_neg q] at h
    cases h
theorem isi_int {d : D} (h : (tyN d).isSome = true) : ∃ a b : Bool, isi d "int" = some a ∧ isi d "bool" = some b ∧ (a && !b) = isWh d := by
  cases d <;> first
    | (cases h; done)
    | exact ⟨_, _, rfl, rfl, rfl⟩
    | exact ⟨false, false, by unfold isi; rw [tyN_dct h]; rfl, by unfold isi; rw [tyN_dct h]; rfl, rfl⟩
def sh : D → Bool
  | .tup [.int a, .int b] => decide (1 ≤ b) && decide (Int.gcd a b = 1)
  | _ => false
def plain1 : D → Bool
  | .tup [x, y] => (tyN x).isSome && (tyN y).isSome
  | d => (tyN d).isSome
theorem isi_tup {d : D} (h : (tyN d).isSome = true) (hn : ∀ xs, d ≠ .tup xs) : isi d "tuple" = some false := by
  cases d <;> first
    | (cases h; done)
    | rfl
    | (unfold isi; rw [tyN_dct h]; rfl)
    | exact absurd rfl (hn _)
theorem isi_tupT {xs : List D} : isi (.tup xs) "tuple" = some true := rfl
theorem fdiv_gcd {g a' : Int} (hg : g ≠ 0) : (g * a').fdiv g = a' := Int.mul_fdiv_cancel_left _ hg
theorem gcd_parts (a b : Int) (hb : b ≠ 0) : ∃ a' b' : Int, a = (Int.gcd a b : Int) * a' ∧ b = (Int.gcd a b : Int) * b' ∧ Int.gcd a' b' = 1 ∧ (0 : Int) < Int.gcd a b := by
  have hg : 0 < Int.gcd a b := Int.gcd_pos_of_ne_zero_right _ hb
  refine ⟨a / (Int.gcd a b : Int), b / (Int.gcd a b : Int), ?_, ?_, ?_, by omega⟩
  · rw [Int.mul_ediv_cancel' (Int.gcd_dvd_left ..)]
  · rw [Int.mul_ediv_cancel' (Int.gcd_dvd_right ..)]
  · exact Int.gcd_ediv_gcd_ediv_gcd hg
theorem fmod_pos {a b : Int} (hb : 1 ≤ b) : 0 ≤ a.fmod b ∧ a.fmod b < b := by
  rw [Int.fmod_eq_emod_of_nonneg _ (by omega)]
  exact ⟨Int.emod_nonneg _ (by omega), Int.emod_lt_of_pos _ (by omega)⟩
def manyOk (m : Int) : Prop := 1 ≤ m ∧ m.natAbs < 2 ^ 8000
theorem many_of {m : Int} (h1 : 1 ≤ m) (h2 : m ≤ 1000000000000) : manyOk m := ⟨h1, Nat.lt_of_lt_of_le (show m.natAbs < 2 ^ 50 by omega) (Nat.pow_le_pow_right (by decide) (by decide))⟩
theorem divisor_ok (a b : Int) : m_divisor [.int a, .int b] () = .ok (.int (Int.gcd a b)) () := by
  apply oE_eq
  unfold m_divisor b_divisor
  simp [Nxt, Nxt]
  refine oS_while (fun n ρ t => ∃ x y : Nat, ρ = [.val (.int x), .val (.int y)] ∧ n = y ∧ Nat.gcd x y = Int.gcd a b) ?_ b.natAbs _ _ ⟨a.natAbs, b.natAbs, rfl, rfl, rfl⟩
  rintro n ρ t ⟨x, y, rfl, rfl, h⟩
  simp [Nxt]
  by_cases hn : n = 0
  · subst hn; left; simp at h; exact ⟨rfl, by rw [h]⟩
  · right
    exact ⟨by omega, hn, x % n, Nat.mod_lt _ (by omega), n, x % n, ⟨rfl, by rw [fmod_nat]⟩, rfl, gcd_step h⟩
theorem law_gcd_ok (a b : Int) : m__law_gcd [.int a, .int b] () = .ok (.int (Int.gcd a b)) () := by
  apply oE_eq
  unfold m__law_gcd b__law_gcd
  simp [Nxt, Nxt]
  refine oS_while (fun n ρ t => ∃ (x y : Nat) (z : Slot), ρ = [.val (.int x), .val (.int y), z] ∧ n = y ∧ Nat.gcd x y = Int.gcd a b) ?_ b.natAbs _ _ ⟨a.natAbs, b.natAbs, _, rfl, rfl, rfl⟩
  rintro n ρ t ⟨x, y, z, rfl, rfl, h⟩
  simp [Nxt]
  by_cases hn : n = 0
  · subst hn; left; simp at h; exact ⟨rfl, by rw [h]⟩
  · right
    exact ⟨by omega, hn, x % n, Nat.mod_lt _ (by omega), n, x % n, ⟨rfl, by rw [fmod_nat]⟩, rfl, gcd_step h⟩
theorem is_whole_ok {d : D} (h : (tyN d).isSome = true) : m_is_whole [d] () = .ok (.bl (isWh d)) () := by
  obtain ⟨a, b, h1, h2, h3⟩ := isi_int h
  apply oE_eq
  unfold m_is_whole b_is_whole
  simp [Nxt, fIsi, h1, h2]
  cases a <;> cases b <;> simp_all
def R (r : Rat) : D := .tup [.int r.num, .int (r.den : Int)]
structure Sz (n : Nat) (r : Rat) : Prop where
  nu : r.num.natAbs < 2 ^ n
  de : r.den < 2 ^ n
theorem Sz.le {n m : Nat} {r : Rat} (h : Sz n r) (hm : n ≤ m) : Sz m r := ⟨Nat.lt_of_lt_of_le h.nu (Nat.pow_le_pow_right (by decide) hm), Nat.lt_of_lt_of_le h.de (Nat.pow_le_pow_right (by decide) hm)⟩
@[simp] theorem R_ix0 {r : Rat} : dIx (R r) (.int 0) = some (.int r.num) := rfl
@[simp] theorem R_ix1 {r : Rat} : dIx (R r) (.int 1) = some (.int (r.den : Int)) := rfl
@[simp] theorem R_gT {r : Rat} {gs : Tgts} {ρ : Rho} : gT gs ρ (R r) = gs ρ [.int r.num, .int (r.den : Int)] := rfl
@[simp] theorem R_len {r : Rat} : fLen [R r] = some (.int 2) := rfl
@[simp] theorem R_it {r : Rat} : itD (R r) = some [.int r.num, .int (r.den : Int)] := rfl
@[simp] theorem R_isT {r : Rat} : fIsi [R r, .ty "tuple"] = some (.bl true) := rfl
@[simp] theorem isi_int_int {i : Int} : fIsi [.int i, .ty "int"] = some (.bl true) := rfl
@[simp] theorem isi_int_bool {i : Int} : fIsi [.int i, .ty "bool"] = some (.bl false) := rfl
@[simp] theorem R_eq {r s : Rat} : dEq (R r) (R s) = some (.bl (decide (r = s))) := by
  unfold R
  rw [dEq_pair]
  congr 2
  by_cases h : r = s
  · subst h; simp
  · rw [decide_eq_false h]
    by_cases h1 : r.num = s.num
    · by_cases h2 : (r.den : Int) = s.den
      · exact absurd (Rat.ext h1 (by omega)) h
      · rw [decide_eq_false h2, Bool.and_false]
    · rw [decide_eq_false h1, Bool.false_and]
@[simp] theorem R_ne {r s : Rat} : dNe (R r) (R s) = some (.bl (!decide (r = s))) := by
  have h : dEq (R r) (R s) = some (.bl (decide (r = s))) := R_eq
  unfold dEq at h
  unfold dNe
  cases e : eqD (R r) (R s) with
  | none => rw [e] at h; cases h
  | some b =>
    rw [e] at h
    have : b = decide (r = s) := by
      have h' : some (D.bl b) = some (.bl (decide (r = s))) := h
      injection h' with h'
      injection h'
    rw [this]; rfl
theorem den_pos (r : Rat) : (1 : Int) ≤ r.den := by have := r.den_pos; omega
theorem rat_of {a b p q : Int} (hb : b ≠ 0) (hq : 1 ≤ q) (hg : Int.gcd p q = 1) (he : p * b = q * a) : (Rat.divInt a b).num = p ∧ ((Rat.divInt a b).den : Int) = q := by
  have nz : q.natAbs ≠ 0 := by omega
  have e : (Rat.mk' p q.natAbs nz hg) = Rat.divInt a b := by
    rw [← Rat.num_divInt_den (Rat.mk' p q.natAbs nz hg)]
    show Rat.divInt p (q.natAbs : Int) = Rat.divInt a b
    rw [show ((q.natAbs : Nat) : Int) = q by omega, Rat.divInt_eq_divInt_iff (by omega) hb, he, Int.mul_comm]
  rw [← e]
  exact ⟨rfl, by show ((q.natAbs : Nat) : Int) = q; omega⟩
theorem divInt_sz {a b : Int} {n : Nat} (hb : b ≠ 0) (h1 : a.natAbs < 2 ^ n) (h2 : b.natAbs < 2 ^ n) : Sz n (Rat.divInt a b) := by
  obtain ⟨a', b', e1, e2, e3, e4⟩ := gcd_parts a b hb
  have la : a'.natAbs ≤ a.natAbs := by
    conv => rhs; rw [e1]
    rw [Int.natAbs_mul]; exact Nat.le_mul_of_pos_left _ (by omega)
  have lb : b'.natAbs ≤ b.natAbs := by
    conv => rhs; rw [e2]
    rw [Int.natAbs_mul]; exact Nat.le_mul_of_pos_left _ (by omega)
  have b0 : b' ≠ 0 := fun z => hb (by rw [e2, z, Int.mul_zero])
  have cross : a' * b = b' * a := by
    conv => lhs; rw [e2]
    conv => rhs; rw [e1]
    rw [← Int.mul_assoc, ← Int.mul_assoc, Int.mul_comm a', Int.mul_comm b', Int.mul_assoc, Int.mul_assoc, Int.mul_comm a' b']
  rcases Int.lt_or_gt_of_ne b0 with h | h
  · obtain ⟨q1, q2⟩ := rat_of (a := a) (b := b) (p := -a') (q := -b') hb (by omega) (by rw [Int.gcd_neg, Int.neg_gcd]; exact e3) (by rw [Int.neg_mul, Int.neg_mul, cross])
    exact ⟨by rw [q1]; omega, by omega⟩
  · obtain ⟨q1, q2⟩ := rat_of (a := a) (b := b) (p := a') (q := b') hb (by omega) e3 cross
    exact ⟨by rw [q1]; omega, by omega⟩
theorem sz_mul {a b : Int} {n m : Nat} (h1 : a.natAbs < 2 ^ n) (h2 : b.natAbs < 2 ^ m) : (a * b).natAbs < 2 ^ (n + m) := by
  rw [Int.natAbs_mul, Nat.pow_add]
  exact Nat.mul_lt_mul'' h1 h2
theorem sz_add {a b : Int} {n : Nat} (h1 : a.natAbs < 2 ^ n) (h2 : b.natAbs < 2 ^ n) : (a + b).natAbs < 2 ^ (n + 1) := by
  rw [Nat.pow_succ]; omega
theorem sz_sub {a b : Int} {n : Nat} (h1 : a.natAbs < 2 ^ n) (h2 : b.natAbs < 2 ^ n) : (a - b).natAbs < 2 ^ (n + 1) := by
  rw [Nat.pow_succ]; omega
theorem Sz.den {n : Nat} {r : Rat} (h : Sz n r) : (r.den : Int).natAbs < 2 ^ n := h.de
@[simp] theorem R_plain {r : Rat} {i : Int} : atI [D.int r.num, D.int (r.den : Int)] 0 = some (.int r.num) := rfl
theorem max_eq (i j : Int) : (if j > i then j else i) = max i j := by omega
@[simp] theorem fMax2_int {i j : Int} : fMax2 [.int i, .int j] = some (.int (max i j)) := by show some (D.int (if j > i then j else i)) = _; rw [max_eq]
theorem den_mul_ne (r s : Rat) : (r.den : Int) * s.den ≠ 0 := by
  have := r.den_pos; have := s.den_pos
  intro z
  rcases Int.mul_eq_zero.mp z with h | h <;> omega
theorem add_divInt (r s : Rat) : r + s = Rat.divInt (r.num * s.den + s.num * r.den) (r.den * s.den) := by
  conv => lhs; rw [← Rat.num_divInt_den r, ← Rat.num_divInt_den s]
  rw [Rat.divInt_add_divInt _ _ (by have := r.den_pos; omega) (by have := s.den_pos; omega)]
theorem sub_divInt (r s : Rat) : r - s = Rat.divInt (r.num * s.den - s.num * r.den) (r.den * s.den) := by
  conv => lhs; rw [← Rat.num_divInt_den r, ← Rat.num_divInt_den s]
  rw [Rat.divInt_sub_divInt _ _ (by have := r.den_pos; omega) (by have := s.den_pos; omega)]
theorem mul_divInt (r s : Rat) : r * s = Rat.divInt (r.num * s.num) (r.den * s.den) := by
  conv => lhs; rw [← Rat.num_divInt_den r, ← Rat.num_divInt_den s]
  rw [Rat.divInt_mul_divInt]
theorem Sz.add {n m : Nat} {r s : Rat} (h1 : Sz n r) (h2 : Sz m s) : Sz (n + m + 1) (r + s) := by
  rw [add_divInt]
  refine divInt_sz (den_mul_ne r s) (sz_add (sz_mul h1.nu h2.den) ?_) (Nat.lt_of_lt_of_le (sz_mul h1.den h2.den) (Nat.pow_le_pow_right (by decide) (by omega)))
  rw [Nat.add_comm n m]; exact sz_mul h2.nu h1.den
theorem Sz.sub {n m : Nat} {r s : Rat} (h1 : Sz n r) (h2 : Sz m s) : Sz (n + m + 1) (r - s) := by
  rw [sub_divInt]
  refine divInt_sz (den_mul_ne r s) (sz_sub (sz_mul h1.nu h2.den) ?_) (Nat.lt_of_lt_of_le (sz_mul h1.den h2.den) (Nat.pow_le_pow_right (by decide) (by omega)))
  rw [Nat.add_comm n m]; exact sz_mul h2.nu h1.den
theorem Sz.mul {n m : Nat} {r s : Rat} (h1 : Sz n r) (h2 : Sz m s) : Sz (n + m) (r * s) := by
  rw [mul_divInt]
  exact divInt_sz (den_mul_ne r s) (sz_mul h1.nu h2.nu) (sz_mul h1.den h2.den)
theorem law_share_R {a b : Int} (hb : b ≠ 0) (hs : b.natAbs < 2 ^ 8000) : m__law_share [.int a, .int b] () = .ok (R (Rat.divInt a b)) () := by
  obtain ⟨a', b', e1, e2, e3, e4⟩ := gcd_parts a b hb
  have sg : (Int.gcd a b : Int).natAbs < 2 ^ 8000 := by
    have : Int.gcd a b ≤ b.natAbs := Int.gcd_le_natAbs_right _ (by omega)
    omega
  have gn : Int.gcd (-a) (-b) = Int.gcd a b := by rw [Int.gcd_neg, Int.neg_gcd]
  have gz : (Int.gcd a b : Int) ≠ 0 := by omega
  generalize hgg : (Int.gcd a b : Int) = g at *
  have da : a.fdiv g = a' := by rw [e1]; exact fdiv_gcd gz
  have db : b.fdiv g = b' := by rw [e2]; exact fdiv_gcd gz
  have dna : (-a).fdiv g = -a' := by rw [e1, show -(g * a') = g * (-a') by rw [Int.mul_neg]]; exact fdiv_gcd gz
  have dnb : (-b).fdiv g = -b' := by rw [e2, show -(g * b') = g * (-b') by rw [Int.mul_neg]]; exact fdiv_gcd gz
  have o1 : ∀ x, divOk x g = true := fun x => small_div gz sg (by decide) (by decide)
  have bpos : b < 0 ↔ b' < 0 := by
    rw [e2]
    constructor
    · intro h
      apply Classical.byContradiction
      intro z
      have := Int.mul_nonneg (Int.le_of_lt e4) (show 0 ≤ b' by omega)
      omega
    · intro h
      have := Int.mul_neg_of_pos_of_neg e4 h
      omega
  have b0 : b' ≠ 0 := fun z => hb (by rw [e2, z, Int.mul_zero])
  have cross : a' * b = b' * a := by
    rw [e1, e2]
    rw [← Int.mul_assoc, ← Int.mul_assoc, Int.mul_comm a' g, Int.mul_comm b' g, Int.mul_assoc, Int.mul_assoc, Int.mul_comm a' b']
  apply oE_eq
  unfold m__law_share b__law_share
  by_cases h : b < 0
  · obtain ⟨q1, q2⟩ := rat_of (a := a) (b := b) (p := -a') (q := -b') hb (by have := bpos.mp h; omega) (by rw [Int.gcd_neg, Int.neg_gcd]; exact e3) (by rw [Int.neg_mul, Int.neg_mul, cross])
    simp [Nxt, h, law_gcd_ok, gn, hgg, dna, dnb, o1, R, q1, q2]
  · obtain ⟨q1, q2⟩ := rat_of (a := a) (b := b) (p := a') (q := b') hb (by have : ¬ b' < 0 := fun z => h (bpos.mpr z); omega) e3 cross
    simp [Nxt, h, law_gcd_ok, gn, hgg, da, db, o1, R, q1, q2]
theorem cell_ok (ns : List Int) (k : Nat) (hk : k ≤ 1000000000000) : ∃ c : Nat, m__law_cell [.scr ns, .int (k : Nat)] () = .ok (.int c) () := by
  by_cases h : ns.length = 0
  · refine ⟨7 * k + 3, oE_eq ?_⟩
    unfold m__law_cell b__law_cell
    simp [Nxt, h]
    exact small_mul (i := 7) (j := k) (a := 8) (b := 50) (by decide) (by omega) (by decide) (by decide) (by decide)
  · have hl : k % ns.length < ns.length := Nat.mod_lt _ (by omega)
    refine ⟨(ns[k % ns.length]).natAbs, oE_eq ?_⟩
    have e : atI ns ((k : Int) % (ns.length : Int)) = some ns[k % ns.length] := by rw [← Int.natCast_emod]; exact atI_nat (by rw [List.getElem?_eq_getElem hl])
    have h' : ((ns.length : Nat) : Int) ≠ 0 := by omega
    unfold m__law_cell b__law_cell
    simp [Nxt, h, h', fmod_nat, e]
theorem mixed_ok (ns : List Int) (k : Nat) (hk : k ≤ 1000000000000) (m : Int) (hm : manyOk m) : ∃ r : Int, m__law_mixed [.scr ns, .int (k : Nat), .int m] () = .ok (.int r) () ∧ 0 ≤ r ∧ r < m := by
  obtain ⟨c, hc⟩ := cell_ok ns k hk
  have c1 := fmod_pos (a := (c : Int)) (b := 1000003) (by decide)
  have key : oE (m__law_mixed [.scr ns, .int (k : Nat), .int m] ()) (fun d _ => ∃ r : Int, d = .int r ∧ 0 ≤ r ∧ r < m) (fun _ _ _ => False) := by
    unfold m__law_mixed b__law_mixed
    simp [Nxt, hc]
    generalize (c : Int).fmod 1000003 = x at c1 ⊢
    have m1 : (x + 5) * (k + 2) ≤ 1000008 * (k + 2) := Int.mul_le_mul_of_nonneg_right (by omega) (by omega)
    have m0 : 0 ≤ (x + 5) * (k + 2) := Int.mul_nonneg (by omega) (by omega)
    refine ⟨small_mul (i := x + 5) (j := k + 2) (a := 50) (b := 50) (by omega) (by omega) (by decide) (by decide) (by decide), small_mul (i := 7919) (j := k) (a := 50) (b := 50) (by decide) (by omega) (by decide) (by decide) (by decide), decide_eq_true ⟨by decide, by decide, ?_⟩, ?_, ?_, fmod_pos hm.1⟩
    · generalize (x + 5) * (k + 2) = y at m1 m0 ⊢
      omega
    · exact small_div (b := 4) (by decide) (by decide) (by decide) (by decide)
    · have := hm.1; omega
  obtain ⟨d, u, e, r, rfl, h⟩ := oE_ex' key
  exact ⟨r, e, h⟩
structure TkOk (ns : List Int) (t t' : Dk) : Prop where
  a : t'.a = t.a
  scr : t'.scr = .scr ns
  cnt : t'.cnt ≤ t.cnt + 1
theorem take_ok {ns : List Int} {t : Dk} (hs : t.scr = .scr ns) (hc : t.cnt < 1000000000000) {m : Int} (hm : manyOk m) : ∃ (r : Int) (t' : Dk), m__law_take [.at t.a, .int m] t = .ok (.int r) t' ∧ 0 ≤ r ∧ r < m ∧ TkOk ns t t' := by
  have key : oE (m__law_take [.at t.a, .int m] t) (fun d t' => ∃ r : Int, d = .int r ∧ 0 ≤ r ∧ r < m ∧ TkOk ns t t') (fun _ _ _ => False) := by
    unfold m__law_take b__law_take
    simp [Nxt, Nxt]
    refine oS_while (fun n ρ u => ∃ (z : Slot), ρ = [.val (.at t.a), .val (.int m), z] ∧ u.a = t.a ∧ u.scr = .scr ns ∧ u.cnt = t.cnt ∧ n = u.big.length - u.pos) ?_ _ _ _ ⟨_, rfl, rfl, hs, rfl, rfl⟩
    rintro n ρ u ⟨z, rfl, ha, hsc, hcn, rfl⟩
    simp [Nxt, ha, hsc, hcn]
    by_cases hp : u.pos < u.big.length
    · right
      refine ⟨hp, u.big[u.pos], List.getElem?_eq_getElem hp, ?_⟩
      by_cases hc0 : u.big[u.pos] ≤ 0
      · left; exact ⟨hc0, by omega, by omega⟩
      · right
        have f := fmod_pos (a := u.big[u.pos]) hm.1
        exact ⟨by omega, small_div (by have := hm.1; omega) hm.2 (by decide) (by decide), hp, by have := hm.1; omega, f.1, f.2, rfl, rfl, Nat.le_succ _⟩
    · left
      refine ⟨by omega, by omega, ?_⟩
      have e : max ((t.cnt : Int) + 1) 0 = ((t.cnt + 1 : Nat) : Int) := by omega
      obtain ⟨r, e2, h0, h1⟩ := mixed_ok ns (t.cnt + 1) (by omega) m hm
      rw [e, e2]
      exact ⟨r, rfl, h0, h1, rfl, rfl, Nat.le_refl _⟩
  obtain ⟨d, u, e, r, rfl, h⟩ := oE_ex' key
  exact ⟨r, u, e, h⟩
structure Gd (ns : List Int) (a : Addr) (n : Nat) (t : Dk) : Prop where
  scr : t.scr = .scr ns
  ad : t.a = a
  cnt : t.cnt ≤ n
theorem Gd.le {ns : List Int} {a : Addr} {n m : Nat} {t : Dk} (g : Gd ns a n t) (h : n ≤ m) : Gd ns a m t := ⟨g.scr, g.ad, Nat.le_trans g.cnt h⟩
theorem take_wp {ns : List Int} {a : Addr} {n : Nat} {t : Dk} {m : Int} {Q : D → Dk → Prop} {X : Str → Fds → Dk → Prop} (g : Gd ns a n t) (hc : n < 1000000000000) (hm : manyOk m) (h : ∀ (r : Int) (t' : Dk), 0 ≤ r → r < m → Gd ns a (n + 1) t' → Q (.int r) t') :
    oE (m__law_take [.at a, .int m] t) Q X := by
  obtain ⟨r, t', e, h0, h1, h2⟩ := take_ok g.scr (Nat.lt_of_le_of_lt g.cnt hc) hm
  rw [g.ad] at e
  rw [e]
  exact h r t' h0 h1 ⟨h2.scr, h2.a.trans g.ad, Nat.le_trans h2.cnt (Nat.succ_le_succ g.cnt)⟩
theorem whole_wp {ns : List Int} {a : Addr} {n : Nat} {t : Dk} {Q : D → Dk → Prop} {X : Str → Fds → Dk → Prop} (g : Gd ns a n t) (hc : n < 100000000000) (h : ∀ (r : Int) (t' : Dk), r.natAbs < 10 ^ 32 → Gd ns a (n + 10) t' → Q (.int r) t') :
    oE (m__law_whole [.at a] t) Q X := by
  unfold m__law_whole b__law_whole
  simp [Nxt, Nxt]
  refine take_wp g (by omega) (many_of (by decide) (by decide)) fun k t1 k0 k1 g1 => ?_
  simp [Nxt]
  by_cases hk : k = 0
  · right
    refine ⟨hk, take_wp g1 (by omega) (many_of (by decide) (by decide)) fun r t2 r0 r1 g2 => ?_⟩
    simp [Nxt]
    exact h _ _ (by omega) (g2.le (by omega))
  · left
    refine ⟨hk, take_wp g1 (by omega) (many_of (by decide) (by decide)) fun r t2 r0 r1 g2 => ?_⟩
    simp [Nxt]
    have ex : ∃ z : Nat, atI [D.int 0, .int 1, .int 2, .int (1 + r)] k = some (.int z) ∧ z ≤ 4 := by
      have : k = 1 ∨ k = 2 ∨ k = 3 := by omega
      rcases this with rfl | rfl | rfl
      · exact ⟨1, rfl, by decide⟩
      · exact ⟨2, rfl, by decide⟩
      · exact ⟨(1 + r).toNat, by
          show some (D.int (1 + r)) = _
          rw [Int.toNat_of_nonneg (by omega)], by omega⟩
    obtain ⟨z, ez, hz⟩ := ex
    refine ⟨_, ez, ?_⟩
    simp [Nxt]
    refine ⟨by omega, ?_⟩
    have hlen : (rngD 0 z).length = z := by simp [rngD]
    refine oS_loop (fun ds ρ t => ds.length ≤ 4 ∧ ∃ (v : Int) (s : Slot), ρ = [.val (.at a), .val (.int k), .val (.int v), s] ∧ 0 ≤ v ∧ v + 1 ≤ 10 ^ (8 * (4 - ds.length)) ∧ Gd ns a (n + 2 + (4 - ds.length)) t) _ _ _ ⟨by rw [hlen]; exact hz, 0, _, rfl, by decide, ?_, g2.le (by omega)⟩ ?_ ?_
    · have : (0 : Int) < 10 ^ (8 * (4 - (rngD 0 z).length)) := Int.pow_pos (by decide)
      omega
    · rintro d ds ρ t3 ⟨hl, v, s, rfl, v0, v1, g3⟩
      rw [List.length_cons] at hl v1 g3
      refine ⟨_, rfl, ?_⟩
      simp [Nxt]
      have fin : ∀ (A B : Int), v + 1 ≤ A → A * 100000000 = B → B ≤ 10 ^ 32 → powOk 10 8 = true ∧ mulOk v 100000000 = true ∧ powOk 10 8 = true ∧ ∀ r, 0 ≤ r → r < 100000000 → (0 ≤ v * 100000000 + r ∧ v * 100000000 + r + 1 ≤ B) := fun A B hA hB hC => by
        refine ⟨by decide, small_mul (a := 120) (b := 30) (by omega) (by decide) (by decide) (by decide) (by decide), by decide, fun r h0 h1 => ⟨by omega, by omega⟩⟩
      have st : ∀ (B : Int), (10 : Int) ^ (8 * (4 - ds.length)) = B → B ≤ 10 ^ 32 → (10 : Int) ^ (8 * (4 - (ds.length + 1))) * 100000000 = B → powOk 10 8 = true ∧ mulOk v 100000000 = true ∧ powOk 10 8 = true ∧ oE (m__law_take [D.at a, D.int 100000000] t3)
          (fun e t => ∃ z, dAdd (D.int (v * 100000000)) e = some z ∧ ds.length ≤ 4 ∧ ∃ v, z = D.int v ∧ 0 ≤ v ∧ v + 1 ≤ 10 ^ (8 * (4 - ds.length)) ∧ Gd ns a (n + 2 + (4 - ds.length)) t) (fun n fs t => X n fs t) := fun B e1 e2 e3 => by
        obtain ⟨p1, p2, p3, p4⟩ := fin _ B v1 e3 e2
        refine ⟨p1, p2, p3, take_wp g3 (by omega) (many_of (by decide) (by decide)) fun r t4 r0 r1 g4 => ?_⟩
        obtain ⟨q1, q2⟩ := p4 r r0 r1
        simp
        exact ⟨by omega, q1, by rw [e1]; exact q2, g4.le (by omega)⟩
      have : ds.length = 0 ∨ ds.length = 1 ∨ ds.length = 2 ∨ ds.length = 3 := by omega
      rcases this with e | e | e | e
      · exact st _ (by rw [e]) (by decide) (by rw [e]; decide)
      · exact st _ (by rw [e]) (by decide) (by rw [e]; decide)
      · exact st _ (by rw [e]) (by decide) (by rw [e]; decide)
      · exact st _ (by rw [e]) (by decide) (by rw [e]; decide)
    · rintro ρ t3 ⟨hl, v, s, rfl, v0, v1, g3⟩
      simp [Nxt]
      have v2 : v + 1 ≤ 10 ^ 32 := v1
      refine take_wp g3 (by simp; omega) (many_of (by decide) (by decide)) fun r t4 r0 r1 g4 => ?_
      simp [Nxt]
      have hr : r = 0 ∨ r = 1 := by omega
      refine ⟨small_mul (i := 2) (a := 8) (b := 8) (by decide) (by omega) (by decide) (by decide) (by decide), small_mul (i := v) (a := 120) (b := 8) (by omega) (by omega) (by decide) (by decide) (by decide), h _ _ ?_ (g4.le (by show n + 2 + 4 + 1 ≤ n + 10; omega))⟩
      rcases hr with rfl | rfl
      · simp; omega
      · simp; omega
theorem deck_ok (ns : List Int) (hl : ns.length ≤ 63) : ∃ big, m__law_deck [.scr ns] = some (.scr ns, big) := by
  obtain ⟨ys, e, hy⟩ := compL_ok (g := gN 1) (tt := e1 asB (e2 dGe (e1 fAbs (aCons (eVarW 1) aNil)) (e2 dPow (eC (.int 10)) (eC (.int 18))))) (te := e1 fAbs (aCons (eVarW 1) aNil)) (ρ := [.val (.scr ns), .no]) (p := fun y => ∃ i, y = .int i) (ns.map .int) (fun d hd => by
    obtain ⟨i, _, rfl⟩ := List.mem_map.mp hd
    refine ⟨_, rfl, decide ((10 : Int) ^ 18 ≤ (i.natAbs : Int)), oE_eq ?_, fun _ => ⟨.int (i.natAbs : Int), oE_eq ?_, _, rfl⟩⟩
    · simp
      decide
    · simp)
  obtain ⟨big, eb⟩ := intsD_all ys hy
  have ec : eComp (e1 itD (eVar 0)) [1] (gN 1) (e1 asB (e2 dGe (e1 fAbs (aCons (eVarW 1) aNil)) (e2 dPow (eC (.int 10)) (eC (.int 18))))) (e1 fAbs (aCons (eVarW 1) aNil)) [.val (.scr ns), .no] () = .ok ys () := by
    show (if (ns.map D.int).length ≤ 16777216 ∧ noOwn [.val (.scr ns), .no] [1] = true then compL _ _ _ (wipeR [.val (.scr ns), .no] [1]) (ns.map D.int) () else .bad) = _
    rw [if_pos ⟨by rw [List.length_map]; omega, rfl⟩]
    exact e
  refine ⟨big, ?_⟩
  show (match aVar 0 [.val (.scr ns), .no], eComp (e1 itD (eVar 0)) [1] (gN 1) (e1 asB (e2 dGe (e1 fAbs (aCons (eVarW 1) aNil)) (e2 dPow (eC (.int 10)) (eC (.int 18))))) (e1 fAbs (aCons (eVarW 1) aNil)) [.val (.scr ns), .no] () with
    | some d, .ok ds _ => (intsD ds).map fun l => (d, l)
    | _, _ => none) = some (.scr ns, big)
  rw [ec]
  show (intsD ys).map _ = _
  rw [eb]
  rfl
theorem plain1_ty {d : D} (h : plain1 d = true) : (tyN d).isSome = true := by
  unfold plain1 at h
  split at h
  · rfl
  · exact h
theorem is_share_p {d : D} (h : plain1 d = true) : m_is_share [d] () = .ok (.bl (sh d)) () := by
  have ty := plain1_ty h
  by_cases q : ∃ xs, d = .tup xs
  · obtain ⟨xs, rfl⟩ := q
    by_cases hl : xs.length = 2
    · match xs, hl with
      | [x, y], _ =>
        obtain ⟨hx, hy⟩ := Bool.and_eq_true_iff.mp h
        have e0 : atI [x, y] 0 = some x := rfl
        have e1 : atI [x, y] 1 = some y := rfl
        have wx := is_whole_ok hx
        have wy := is_whole_ok hy
        apply oE_eq
        unfold m_is_share b_is_share
        simp [Nxt, fIsi, isi_tupT, e0, e1, wx, wy]
        cases x with
        | int i =>
          cases y with
          | int j =>
            simp [isWh, sh, divisor_ok, cast1]
            by_cases q : 1 ≤ j
            · left; exact ⟨q, by simp [q]⟩
            · right; exact ⟨by omega, fun z => absurd z q⟩
          | _ => simp [isWh, sh]
        | _ => cases y <;> simp [isWh, sh]
    · have hl' : ((xs.length : Nat) : Int) ≠ 2 := by omega
      have es : sh (.tup xs) = false := by
        match xs, hl with
        | [], _ => rfl
        | [x], _ => cases x <;> rfl
        | [x, y], h => exact absurd rfl h
        | x :: y :: z :: r, _ => cases x <;> cases y <;> rfl
      apply oE_eq
      unfold m_is_share b_is_share
      simp [Nxt, fIsi, isi_tupT, hl', es]
  · have es : sh d = false := by
      cases d <;> first
        | rfl
        | exact absurd ⟨_, rfl⟩ q
    have e := isi_tup ty fun xs z => q ⟨xs, z⟩
    apply oE_eq
    unfold m_is_share b_is_share
    simp [Nxt, fIsi, e, es]
theorem isWh_int {d : D} (h : isWh d = true) : ∃ i, d = .int i := by
  cases d <;> first | exact ⟨_, rfl⟩ | cases h
theorem sh_no {x y : D} (h : isWh x = false ∨ isWh y = false) : sh (.tup [x, y]) = false := by
  rcases h with h | h
  · cases x <;> first | rfl | cases h
  · cases y <;> first | (cases x <;> rfl) | cases h
theorem law_is_share_p {d : D} (h : plain1 d = true) : m__law_is_share [d] () = .ok (.bl (sh d)) () := by
  have ty := plain1_ty h
  by_cases q : ∃ xs, d = .tup xs
  · obtain ⟨xs, rfl⟩ := q
    by_cases hl : xs.length = 2
    · match xs, hl with
      | [x, y], _ =>
        obtain ⟨hx, hy⟩ := Bool.and_eq_true_iff.mp h
        have e0 : atI [x, y] 0 = some x := rfl
        have e1 : atI [x, y] 1 = some y := rfl
        obtain ⟨a, b, h1, h2, h3⟩ := isi_int hx
        obtain ⟨a', b', h1', h2', h3'⟩ := isi_int hy
        apply oE_eq
        unfold m__law_is_share b__law_is_share
        simp [Nxt, fIsi, isi_tupT, e0, e1, oS_loop_cons, oS_loop_nil, gN, h1, h2, h1', h2']
        cases a with
        | false => simp [sh_no (.inl h3.symm)]
        | true =>
          cases b with
          | true => simp [sh_no (.inl h3.symm)]
          | false =>
            cases a' with
            | false => simp [sh_no (.inr h3'.symm)]
            | true =>
              cases b' with
              | true => simp [sh_no (.inr h3'.symm)]
              | false =>
                obtain ⟨i, rfl⟩ := isWh_int h3.symm
                obtain ⟨j, rfl⟩ := isWh_int h3'.symm
                simp [sh, law_gcd_ok, cast1]
                by_cases q : 1 ≤ j
                · simp [q]
                · simp [q]; omega
    · have hl' : ((xs.length : Nat) : Int) ≠ 2 := by omega
      have es : sh (.tup xs) = false := by
        match xs, hl with
        | [], _ => rfl
        | [x], _ => cases x <;> rfl
        | [x, y], h => exact absurd rfl h
        | x :: y :: z :: r, _ => cases x <;> cases y <;> rfl
      apply oE_eq
      unfold m__law_is_share b__law_is_share
      simp [Nxt, fIsi, isi_tupT, hl', es]
  · have es : sh d = false := by
      cases d <;> first
        | rfl
        | exact absurd ⟨_, rfl⟩ q
    have e := isi_tup ty fun xs z => q ⟨xs, z⟩
    apply oE_eq
    unfold m__law_is_share b__law_is_share
    simp [Nxt, fIsi, e, es]

-- opts: kinds=figures_read|text == ''|z;figures_read|text != '0'|z;figures_read|text[0] == '0'|z;figures_read|text|S;read_share|stroke != ''|z;_law_figures|_law_text_here == ''|z;_law_figures|_law_text_here[0] == '0'|z;_law_figures|_law_text_here|S;_law_read|_law_parts[0][:1] == '-'|z;law|_law_found != _law_text_here|z ## cut=a
open PySem.StrLaws in
theorem parts_of (z : Str) : ∃ t s b : Str, Txt.partition z "/" = (t, s, b) ∧ t.length ≤ z.length ∧ b.length ≤ z.length ∧
    ((s = Str.empty ∧ Txt.split z "/" = [t]) ∨ (s = "/" ∧ (Txt.split z "/" = [t, b] ∨ ∃ r, Txt.split z "/" = t :: r ∧ 2 ≤ r.length ∧ (47 : Nat) ∈ b.cps.toList))) := by
  have y1 : ("/" : Str).length = 1 := rfl
  have kd : Builtin.Str.strKind ("/" : Str) = 1 := by decide +kernel
  have k0 : 1 ≤ Builtin.Str.strKind z := by
    unfold Builtin.Str.strKind
    split
    · exact Nat.le_refl _
    · split <;> decide
  have sublen : ∀ i j, (Builtin.Str.strSub z i j).length ≤ z.length := fun i j => by
    show (z.cps.extract i j).size ≤ z.cps.size
    simp
    omega
  rcases occ_head z "/" 1 (by decide) with ⟨h0, hn⟩ | ⟨i, r, h1, hA, hf⟩
  · refine ⟨z, Str.empty, Str.empty, ?_, Nat.le_refl _, Nat.zero_le _, .inl ⟨rfl, ?_⟩⟩
    · unfold Txt.partition
      rw [h0]
    · have h2 : Builtin.Str.occurrences z "/" 0 z.length (z.length + 1) = [] := by
        rcases occ_head z "/" (z.length + 1) (by omega) with ⟨q, _⟩ | ⟨i, r, q, hA, _⟩
        · exact q
        · exact absurd hA (hn i)
      unfold Txt.split
      rw [h2]
      simp
  · have hi : i + 1 ≤ z.length := hA.1
    obtain ⟨f, hc, hfr⟩ := occ_tight z "/" (by decide)
    refine ⟨Builtin.Str.strSub z 0 i, "/", Builtin.Str.strSub z (i + 1) z.length, ?_, sublen _ _, sublen _ _, .inr ⟨rfl, ?_⟩⟩
    · unfold Txt.partition
      rw [h1]
      rfl
    · have hne : ∃ r', Builtin.Str.occurrences z "/" 0 z.length (z.length + 1) = i :: r' := by
        rcases occ_head z "/" (z.length + 1) (by omega) with ⟨_, q⟩ | ⟨i', r', q, hA', hf'⟩
        · exact absurd hA (q i)
        · have : i' = i := by
            rcases Nat.lt_trichotomy i' i with h | h | h
            · exact absurd hA' (hf i' h)
            · exact h
            · exact absurd hA (hf' i h)
          exact ⟨r', by rw [q, this]⟩
      obtain ⟨r', hr⟩ := hne
      rw [hr] at hc
      have sp : Txt.split z "/" = Builtin.Str.partsBetween z (i :: r') 1 := by
        unfold Txt.split
        have c1 : (decide (z.length < ("/" : Str).length) || decide (Builtin.Str.strKind z < Builtin.Str.strKind ("/" : Str))) = false := by
          rw [y1, kd]
          simp
          omega
        rw [c1, hr]
        simp [y1]
      rw [sp]
      cases r' with
      | nil => exact .inl rfl
      | cons j r2 =>
        right
        refine ⟨_, rfl, by simp, ?_⟩
        obtain ⟨_, _, _, hc2⟩ := hc
        obtain ⟨hj, hAj, _⟩ := hc2
        have hjl : j + 1 ≤ z.length := hAj.1
        have hij : i + 1 ≤ j := hj
        have e : z.cps.extract j (j + 1) = #[47] := by
          have := hAj.2
          unfold Builtin.Str.subAt at this
          exact eq_of_beq this
        have cj : z.cps.toList[j]? = some 47 := by
          have h := congrArg (fun a : Array Nat => a[0]?) e
          have hs : j < z.cps.size := hjl
          rw [Array.getElem?_extract, if_pos (by omega)] at h
          rw [Array.getElem?_toList]
          simpa using h
        show 47 ∈ (z.cps.extract (i + 1) z.cps.size).toList
        have m : (z.cps.extract (i + 1) z.cps.size).toList[j - (i + 1)]? = some 47 := by
          have hs : j < z.cps.size := hjl
          rw [Array.getElem?_toList, Array.getElem?_extract, if_pos (by omega), show i + 1 + (j - (i + 1)) = j by omega, ← Array.getElem?_toList]
          exact cj
        exact List.mem_of_getElem? m
theorem slen (x : Str) : x.length = x.cps.toList.length := by show x.cps.size = _; simp
theorem dig_in (c : Nat) : dNotInS (.str ⟨#[c]⟩) (.str "0123456789") = some (.bl (!decide (48 ≤ c ∧ c ≤ 57))) := by
  show some (D.bl (!(!(Builtin.Str.occurrences _ _ 0 _ 1).isEmpty))) = _
  rw [PySem.StrLaws.found_one]
  have e : ("0123456789" : Str).cps.toList = [48, 49, 50, 51, 52, 53, 54, 55, 56, 57] := by decide +kernel
  have : (c ∈ ("0123456789" : Str).cps.toList) ↔ (48 ≤ c ∧ c ≤ 57) := by
    rw [e]
    simp
    omega
  simp only [this]
def digL (l : List Nat) : Bool := l.all fun c => decide (48 ≤ c) && decide (c ≤ 57)
def fig (z : Str) : Option Int := if z.cps.toList = [] ∨ 400 < z.length ∨ (z.cps.toList.head? = some 48 ∧ 1 < z.length) ∨ digL z.cps.toList = false then none else some ((NumText.digitsVal z.cps.toList : Nat) : Int)
theorem int_digits {z : Str} (h : digL z.cps.toList = true) (ne : z.cps.toList ≠ []) (l : z.length ≤ 640) : fIntA [.str z] = some (.int ((NumText.digitsVal z.cps.toList : Nat) : Int)) := by
  have ad : NumText.AllDigits z.cps.toList := fun c hc => by
    have := List.all_eq_true.mp h c hc
    simpa using this
  rw [fIntA_str]
  unfold fIntS
  dsimp only
  rw [if_pos (decide_eq_true (by omega)), intText_digits ad ne (by omega)]
  rfl
theorem ix0_str {z : Str} {c : Nat} {cs : List Nat} (e : z.cps.toList = c :: cs) (h : z.length ≤ 16777216) : dIx (.str z) (.int 0) = some (.str ⟨#[c]⟩) := by
  show (if lim2 z.length = true then (atI z.cps.toList 0).map fun c => D.str ⟨#[c]⟩ else none) = _
  rw [if_pos (show lim2 z.length = true from decide_eq_true h), e]
  have : atI (c :: cs) ((0 : Nat) : Int) = some c := atI_nat rfl
  rw [show (0 : Int) = ((0 : Nat) : Int) from rfl, this]
  rfl
theorem fLen_str {z : Str} (h : z.length ≤ 16777216) : fLen [.str z] = some (.int z.length) := by
  show (if lim2 z.length = true then some (D.int z.length) else none) = _
  rw [if_pos (show lim2 z.length = true from decide_eq_true h)]
theorem eq0 (c : Nat) : dEqSS (.str ⟨#[c]⟩) (.str "0") = some (.bl (decide (c = 48))) := by
  show some (D.bl ([c] == ("0" : Str).cps.toList)) = _
  rw [show ("0" : Str).cps.toList = [48] by decide +kernel]
  by_cases h : c = 48 <;> simp [h]
theorem signs_loop {q r : MS Unit} {P : Pt Unit} {z : Str} {d0 : Slot} (hd : digL z.cps.toList = true → ∀ y, oS (r [.val (.str z), y] ()) P) (hq : digL z.cps.toList = false → ∀ y (P' : Pt Unit), P'.rt = P.rt → P'.ex = P.ex → oS (q [.val (.str z), y] ()) P') :
    Nxt (sSeq (sFor (e1 itS (eVar 0)) (gN 1) (sIf (e1 asB (e2 dNotInS (eVarW 1) (eC (.str "0123456789")))) q sSkip)) r) [.val (.str z), d0] () P := by
  unfold Nxt
  rw [oS_seq, oS_for]
  have it : itS (.str z) = some (z.cps.toList.map sgnD) := rfl
  simp [it]
  refine oS_loopE (fun dn _ ρ _ => digL dn = true ∧ ∃ y, ρ = [.val (.str z), y]) z.cps.toList ⟨rfl, _, rfl⟩ ?_ ?_
  · rintro dn x td ρ t e ⟨h, y, rfl⟩
    refine ⟨_, rfl, ?_⟩
    have di := dig_in x
    by_cases hx : 48 ≤ x ∧ x ≤ 57
    · rw [decide_eq_true hx] at di
      have h2 : digL (dn ++ [x]) = true := by
        unfold digL at h ⊢
        rw [List.all_append, h]
        simp [hx]
      simp [sgnD, di, h2]
    · rw [decide_eq_false hx] at di
      have h2 : digL z.cps.toList = false := by
        rw [e]
        unfold digL
        rw [List.all_append, List.all_cons]
        have : (decide (48 ≤ x) && decide (x ≤ 57)) = false := by
          cases q : (decide (48 ≤ x) && decide (x ≤ 57)) with
          | false => rfl
          | true =>
            simp at q
            exact absurd q hx
        rw [this]
        simp
      simp [sgnD, di]
      exact hq h2 _ _ rfl rfl
  · rintro ρ t ⟨h, y, rfl⟩
    exact hd h y
theorem figures_ok (z : Str) (hz : z.length ≤ 10000) : m_figures_read [.str z] () = (match fig z with | some i => .ok (.int i) () | none => .ex "NoShare" none ()) ∧ m__law_figures [.str z] () = .ok (match fig z with | some i => .int i | none => .non) () := by
  have ln := fLen_str (z := z) (by omega)
  have ee : dEqSS (.str z) (.str "") = some (.bl (decide (z.cps.toList = []))) := by
    show some (D.bl (z.cps.toList == ("" : Str).cps.toList)) = _
    rw [show ("" : Str).cps.toList = [] by decide +kernel]
    cases z.cps.toList <;> rfl
  have sl := slen z
  cases eL : z.cps.toList with
  | nil =>
    have f0 : fig z = none := by unfold fig; rw [if_pos (.inl eL)]
    rw [eL] at ee
    rw [f0]
    constructor
    · apply oE_eqx
      unfold m_figures_read b_figures_read
      simp [ee]
    · apply oE_eq
      unfold m__law_figures b__law_figures
      simp [ee]
  | cons c cs =>
    have x0 := ix0_str eL (by omega)
    have e0 := eq0 c
    have n0 : dNeSS (.str z) (.str "0") = some (.bl (!decide (c = 48 ∧ cs = []))) := by
      show some (D.bl (z.cps.toList != ("0" : Str).cps.toList)) = _
      rw [show ("0" : Str).cps.toList = [48] by decide +kernel, eL]
      by_cases h : c = 48 <;> by_cases h2 : cs = [] <;> simp [h, h2, bne]
    have ee' : dEqSS (.str z) (.str "") = some (.bl false) := by rw [ee, eL]; rfl
    rw [eL, List.length_cons] at sl
    by_cases h4 : 400 < z.length
    · have f0 : fig z = none := by unfold fig; rw [if_pos (.inr (.inl h4))]
      rw [f0]
      have h4' : (400 : Int) < (z.length : Nat) := by omega
      constructor
      · apply oE_eqx
        unfold m_figures_read b_figures_read
        simp [ee', ln, h4']
      · apply oE_eq
        unfold m__law_figures b__law_figures
        simp [ee', ln, h4']
    · have h4' : ¬ (400 : Int) < (z.length : Nat) := by omega
      by_cases h5 : c = 48 ∧ cs ≠ []
      · obtain ⟨rfl, h52⟩ := h5
        have e1 : dEqSS (.str ⟨#[48]⟩) (.str "0") = some (.bl true) := e0
        have l1 : 1 < z.length := by
          have := List.length_pos_iff.mpr h52
          omega
        have f0 : fig z = none := by unfold fig; rw [if_pos (.inr (.inr (.inl ⟨by rw [eL]; rfl, l1⟩)))]
        rw [f0]
        have l1' : (1 : Int) < (z.length : Nat) := by omega
        constructor
        · apply oE_eqx
          unfold m_figures_read b_figures_read
          simp [ee', ln, h4', n0, x0, e1, h52]
        · apply oE_eq
          unfold m__law_figures b__law_figures
          simp [ee', ln, h4', x0, e1, l1']
      · -- the signs
        have skip : (c = 48 ∧ cs = []) ∨ c ≠ 48 := by
          by_cases q : c = 48
          · left
            refine ⟨q, ?_⟩
            apply Classical.byContradiction
            exact fun z => h5 ⟨q, z⟩
          · exact .inr q
        have l1' : c = 48 → ¬ (1 : Int) < (z.length : Nat) := fun q => by
          rcases skip with ⟨_, h⟩ | h
          · rw [h] at sl; simp at sl; omega
          · exact absurd q h
        have fd : fig z = if digL z.cps.toList = false then none else some ((NumText.digitsVal z.cps.toList : Nat) : Int) := by
          unfold fig
          by_cases q : digL z.cps.toList = false
          · rw [if_pos (.inr (.inr (.inr q))), if_pos q]
          · rw [if_neg ?_, if_neg q]
            rintro (w | w | ⟨w1, w2⟩ | w)
            · rw [eL] at w; cases w
            · exact h4 w
            · rw [eL] at w1
              injection w1 with w1
              have := l1' w1
              omega
            · exact q w
        have it : itS (.str z) = some (z.cps.toList.map sgnD) := rfl
        have val : digL z.cps.toList = true → fIntA [.str z] = some (.int ((NumText.digitsVal z.cps.toList : Nat) : Int)) := fun h => int_digits h (by rw [eL]; simp) (by omega)
        have it : itS (.str z) = some (z.cps.toList.map sgnD) := rfl
        have skipB : (decide (c = 48) && !decide (cs = [])) = false := by
          rcases skip with ⟨_, h⟩ | h <;> simp [h]
        have cases2 : ∀ p : Prop, p → (c = 48 ∧ cs = []) ∧ p ∨ (¬c = 48 ∨ ¬cs = []) ∧ ¬c = 48 ∧ p := fun p hp => by
          rcases skip with w | w
          · exact .inl ⟨w, hp⟩
          · exact .inr ⟨.inl w, w, hp⟩
        constructor
        · cases hd : digL z.cps.toList with
          | true =>
            rw [fd, if_neg (by rw [hd]; simp)]
            apply oE_eq
            unfold m_figures_read b_figures_read
            simp [ee', ln, h4', n0, x0, e0]
            refine cases2 _ (signs_loop (fun _ y => ?_) (fun h => by rw [hd] at h; cases h))
            simp [val hd]
          | false =>
            rw [fd, if_pos hd]
            apply oE_eqx
            unfold m_figures_read b_figures_read
            simp [ee', ln, h4', n0, x0, e0]
            have hp := fun (P : Pt Unit) (ep : ∀ ρ, P.ex "NoShare" none ρ ()) => signs_loop (z := z) (d0 := .no) (P := P) (q := sRaise "NoShare") (r := (sRet (e1 fIntA (aCons (eVarW 0) aNil)))) (fun h => by rw [hd] at h; cases h) (fun h y P' _ e => by simp [e]; exact ep _)
            rcases skip with w | w
            · exact .inl ⟨w, hp _ (fun _ => ⟨rfl, rfl⟩)⟩
            · exact .inr ⟨.inl w, .inl ⟨w, hp _ (fun _ => ⟨rfl, rfl⟩)⟩⟩
        · cases hd : digL z.cps.toList with
          | true =>
            rw [fd, if_neg (by rw [hd]; simp)]
            apply oE_eq
            unfold m__law_figures b__law_figures
            simp [ee', ln, h4', x0, e0]
            have hp := fun P => signs_loop (z := z) (d0 := .no) (P := P) (q := sRet (eC .non)) (r := (sRet (e1 fIntA (aCons (eVarW 0) aNil))))
            rcases skip with w | w
            · refine .inr ⟨w.1, by have := l1' w.1; omega, hp _ (fun _ y => ?_) (fun h => by rw [hd] at h; cases h)⟩
              simp [val hd]
            · refine .inl ⟨w, hp _ (fun _ y => ?_) (fun h => by rw [hd] at h; cases h)⟩
              simp [val hd]
          | false =>
            rw [fd, if_pos hd]
            apply oE_eq
            unfold m__law_figures b__law_figures
            simp [ee', ln, h4', x0, e0]
            have hp := fun P => signs_loop (z := z) (d0 := .no) (P := P) (q := sRet (eC .non)) (r := (sRet (e1 fIntA (aCons (eVarW 0) aNil))))
            rcases skip with w | w
            · refine .inr ⟨w.1, .inl ⟨by have := l1' w.1; omega, hp _ (fun h => by rw [hd] at h; cases h) (fun _ y P' e _ => ?_)⟩⟩
              simp [e]
            · refine .inl ⟨w, hp _ (fun h => by rw [hd] at h; cases h) (fun _ y P' e _ => ?_)⟩
              simp [e]
theorem str_of (z : Str) : z = ⟨z.cps.toList.toArray⟩ := by cases z; simp
theorem dash_ok (z : Str) : Txt.startswith z "-" = decide (z.cps.toList.head? = some 45) ∧ dEqSS (.str (cutS z none (some 1))) (.str "-") = some (.bl (decide (z.cps.toList.head? = some 45))) := by
  have k : ("-" : Str).cps.toList = [45] := by decide +kernel
  have k2 : ("-" : Str) = ⟨#[45]⟩ := by rw [str_of ("-" : Str), k]
  generalize hl : z.cps.toList = l
  have hz : z = ⟨l.toArray⟩ := by rw [str_of z, hl]
  subst hz
  constructor
  · rw [k2]
    unfold Txt.startswith Builtin.Str.subAt
    cases l with
    | nil => rfl
    | cons c cs =>
      show (decide (0 + 1 ≤ (c :: cs).toArray.size) && ((c :: cs).toArray.extract 0 (0 + 1) == #[45])) = _
      have e : (c :: cs).toArray.extract 0 (0 + 1) = #[c] := by simp [List.extract_toArray, List.extract_eq_drop_take]
      rw [e]
      simp
      by_cases h : c = 45 <;> simp [h]
  · show some (D.bl ((cutS (⟨l.toArray⟩ : Str) none (some 1)).cps.toList == ("-" : Str).cps.toList)) = _
    rw [k]
    have e : (cutS (⟨l.toArray⟩ : Str) none (some 1)).cps.toList = l.take 1 := by
      unfold cutS
      rw [HT.sIx_none, show (1 : Int) = ((1 : Nat) : Int) from rfl, HT.sIx_nat]
      show ((l.toArray.toList.drop 0).take (min 1 (l.toArray.size) - 0)).toArray.toList = _
      cases l <;> simp
    rw [e]
    cases l with
    | nil => rfl
    | cons c cs =>
      by_cases h : c = 45 <;> simp [h]
theorem cut_all (z : Str) : cutS z (some 0) none = z := by
  conv => rhs; rw [str_of z]
  unfold cutS
  rw [HT.sIx_none, show (0 : Int) = ((0 : Nat) : Int) from rfl, HT.sIx_nat]
  have : z.length = z.cps.toList.length := slen z
  rw [Nat.zero_min, List.drop_zero, Nat.sub_zero, this, List.take_length]
def rdW (z : Str) : Option Int := if z.cps.toList.head? = some 45 then (fig (cutS z (some 1) none)).bind fun i => if i = 0 then none else some (-i) else fig z
theorem whole_read_ok (z : Str) (hz : z.length ≤ 10000) : m_whole_read [.str z] () = match rdW z with | some i => .ok (.int i) () | none => .ex "NoShare" none () := by
  have l2' : lim2 z.length = true := decide_eq_true (by omega)
  by_cases h : z.cps.toList.head? = some 45
  · have st : Txt.startswith z "-" = true := by rw [(dash_ok z).1, decide_eq_true h]
    have fg := (figures_ok (cutS z (some 1) none) (Nat.le_trans (cutS_length z _ _) hz)).1
    unfold rdW
    rw [if_pos h]
    cases e : fig (cutS z (some 1) none) with
    | none =>
      rw [e] at fg
      apply oE_eqx
      unfold m_whole_read b_whole_read
      simp [dStarts, st, Nxt, dCutA, l2', fg]
    | some i =>
      rw [e] at fg
      by_cases i0 : i = 0
      · subst i0
        apply oE_eqx
        unfold m_whole_read b_whole_read
        simp [dStarts, st, Nxt, dCutA, l2', fg]
      · show m_whole_read _ _ = match (if i = 0 then none else some (-i)) with | some i => .ok (.int i) () | none => .ex "NoShare" none ()
        rw [if_neg i0]
        apply oE_eq
        unfold m_whole_read b_whole_read
        simp [dStarts, st, Nxt, dCutA, l2', fg, i0]
  · have st : Txt.startswith z "-" = false := by rw [(dash_ok z).1, decide_eq_false h]
    have fg := (figures_ok z hz).1
    unfold rdW
    rw [if_neg h]
    cases e : fig z with
    | none =>
      rw [e] at fg
      apply oE_eqx
      unfold m_whole_read b_whole_read
      simp [dStarts, st, fg]
    | some i =>
      rw [e] at fg
      apply oE_eq
      unfold m_whole_read b_whole_read
      simp [dStarts, st, fg]
def rd (z : Str) : Option (Int × Int) := (rdW (Txt.partition z "/").1).bind fun n => if (Txt.partition z "/").2.1 = Str.empty then some (n, 1) else (fig (Txt.partition z "/").2.2).bind fun d => if d < 2 ∨ Int.gcd n d ≠ 1 then none else some (n, d)
theorem rd_sh {z : Str} {a b : Int} (h : rd z = some (a, b)) : 1 ≤ b ∧ Int.gcd a b = 1 := by
  unfold rd at h
  obtain ⟨n, _, h⟩ := Option.bind_eq_some_iff.mp h
  split at h
  · cases h; exact ⟨by omega, Int.gcd_one⟩
  · obtain ⟨d, _, h⟩ := Option.bind_eq_some_iff.mp h
    split at h
    · cases h
    · rename_i q
      cases h
      exact ⟨by omega, Classical.byContradiction fun w => q (.inr w)⟩
theorem read_share_ok (z : Str) (hz : z.length ≤ 10000) : m_read_share [.str z] () = match rd z with | some (a, b) => .ok (.tup [.int a, .int b]) () | none => .ex "NoShare" none () := by
  obtain ⟨t, s, b, hp, lt, lb, h⟩ := parts_of z
  have hP : dPart (.str z) (.str "/") = some (.tup [.str t, .str s, .str b]) := by
    show (if (("/" : Str).length == 0) = false ∧ z.length ≤ 16777216 then some (D.tup [.str (Txt.partition z "/").1, .str (Txt.partition z "/").2.1, .str (Txt.partition z "/").2.2]) else none) = _
    rw [if_pos ⟨by decide, by omega⟩, hp]
  have wr := whole_read_ok t (by omega)
  have fr := (figures_ok b (by omega)).1
  unfold rd
  rw [hp]
  dsimp only
  cases e : rdW t with
  | none =>
    rw [e] at wr
    apply oE_eqx
    unfold m_read_share b_read_share
    simp [hP, gT, gCons, gN, gNil, Nxt, wr]
  | some n =>
    rw [e] at wr
    rw [Option.bind_some]
    rcases h with ⟨rfl, _⟩ | ⟨rfl, _⟩
    · rw [if_pos rfl]
      have ne : dNeSS (.str Str.empty) (.str "") = some (.bl false) := by show some (D.bl (Str.empty.cps.toList != ("" : Str).cps.toList)) = _; rw [show (Str.empty.cps.toList != ("" : Str).cps.toList) = false by decide +kernel]
      apply oE_eq
      unfold m_read_share b_read_share
      simp [hP, gT, gCons, gN, gNil, Nxt, wr, ne]
    · rw [if_neg (by decide +kernel)]
      have ne : dNeSS (.str "/") (.str "") = some (.bl true) := by show some (D.bl (("/" : Str).cps.toList != ("" : Str).cps.toList)) = _; rw [show (("/" : Str).cps.toList != ("" : Str).cps.toList) = true by decide +kernel]
      have i0 : atI [D.int n, .int 1] 0 = some (.int n) := rfl
      cases e2 : fig b with
      | none =>
        rw [e2] at fr
        apply oE_eqx
        unfold m_read_share b_read_share
        simp [hP, gT, gCons, gN, gNil, Nxt, wr, ne, fr, i0]
      | some d =>
        rw [e2] at fr
        rw [Option.bind_some]
        have i0 : atI [D.int n, .int 1] 0 = some (.int n) := rfl
        have i1 : atI [D.int n, .int d] 1 = some (.int d) := rfl
        have ih := is_share_p (d := .tup [.int n, .int d]) rfl
        by_cases q1 : d < 2
        · rw [if_pos (.inl q1)]
          apply oE_eqx
          unfold m_read_share b_read_share
          simp [hP, gT, gCons, gN, gNil, Nxt, wr, ne, fr, i0, i1, q1]
        · by_cases q2 : Int.gcd n d = 1
          · rw [if_neg (by rintro (w | w); exact q1 w; exact w q2)]
            have sh1 : sh (.tup [.int n, .int d]) = true := by
              show (decide (1 ≤ d) && decide (Int.gcd n d = 1)) = true
              rw [decide_eq_true (by omega), decide_eq_true q2]; rfl
            rw [sh1] at ih
            apply oE_eq
            unfold m_read_share b_read_share
            simp [hP, gT, gCons, gN, gNil, Nxt, wr, ne, fr, i0, i1, q1, ih]
          · rw [if_pos (.inr q2)]
            have sh1 : sh (.tup [.int n, .int d]) = false := by
              show (decide (1 ≤ d) && decide (Int.gcd n d = 1)) = false
              rw [decide_eq_false q2, Bool.and_false]
            rw [sh1] at ih
            apply oE_eqx
            unfold m_read_share b_read_share
            simp [hP, gT, gCons, gN, gNil, Nxt, wr, ne, fr, i0, i1, q1, ih]

theorem fig_slash {b : Str} (h : (47 : Nat) ∈ b.cps.toList) : fig b = none := by
  unfold fig
  rw [if_pos]
  refine .inr (.inr (.inr ?_))
  cases q : digL b.cps.toList with
  | false => rfl
  | true =>
    have := List.all_eq_true.mp q 47 h
    simp at this
noncomputable def b__law_tail0 : MS Unit :=
  (sSeq (sIf (tOr2 (e1 asB (e2 dIs (eVarW 3) (eC .non))) (tOr2 (tAnd2 (e1 truth (eVarW 2)) (e1 asB (e2 dEq (eVarW 3) (eC (.int 0))))) (e1 asB (e2 dGt (e1 fLen (aCons (eVarW 1) aNil)) (eC (.int 2)))))) (sRet (eC .non)) sSkip)
  (sSeq (sIf (e1 truth (eVarW 2)) (sAsg (gN 3) (e1 dNeg (eVarW 3))) sSkip)
  (sSeq (sIf (e1 asB (e2 dEq (e1 fLen (aCons (eVarW 1) aNil)) (eC (.int 1)))) (sRet (eTup (aCons (eVar 3) (aCons (eC (.int 1)) aNil)))) sSkip)
  (sSeq (sAsg (gN 4) (eCall m__law_figures [] (aCons (e2 dIx (eVarW 1) (eC (.int 1))) aNil)))
  (sSeq (sIf (tOr2 (e1 asB (e2 dIs (eVarW 4) (eC .non))) (tOr2 (e1 asB (e2 dLt (eVarW 4) (eC (.int 2)))) (e1 asB (e2 dNe (eCall m__law_gcd [] (aCons (eVar 3) (aCons (eVar 4) aNil))) (eC (.int 1)))))) (sRet (eC .non)) sSkip)
  (sRet (eTup (aCons (eVar 3) (aCons (eVar 4) aNil)))))))))
theorem is_nn : dIs .non .non = some (.bl true) := rfl
theorem is_in (i : Int) : dIs (.int i) .non = some (.bl false) := rfl
theorem law_tail {z t b s : Str} {r : List Str} {k : Bool} {i : Int} (hi : k = true → i ≠ 0) (lb : b.length ≤ 10000) (hc : r = [] ∧ s = Str.empty ∨ s = "/" ∧ (r = [b] ∨ 2 ≤ r.length ∧ fig b = none)) :
    oS (b__law_tail0 [.val (.str z), .val (.lst (D.str t :: r.map D.str)), .val (.bl k), .val (.int i), .no] ()) { nx := fun _ _ => False, rt := fun d _ => d = match (if s = Str.empty then some ((if k = true then -i else i), (1 : Int)) else (fig b).bind fun d => if d < 2 ∨ Int.gcd (if k = true then -i else i) d ≠ 1 then none else some ((if k = true then -i else i), d)) with | some (a, b) => .tup [.int a, .int b] | none => .non } := by
  have se : ("/" : Str) ≠ Str.empty := by decide +kernel
  unfold b__law_tail0
  rcases hc with ⟨rfl, rfl⟩ | ⟨rfl, rfl | ⟨h2, hn⟩⟩
  · rw [if_pos rfl]
    cases k with
    | false =>
      simp [is_in]
      unfold Nxt
      simp
      unfold Nxt
      simp
    | true =>
      have i0 := hi rfl
      simp [is_in, i0]
      unfold Nxt
      simp
      unfold Nxt
      simp
  · rw [if_neg se]
    have fl := (figures_ok b lb).2
    have a1 : atI [D.str t, .str b] 1 = some (.str b) := rfl
    have go : ∀ n : Int, Nxt (sSeq (sAsg (gN 4) (eCall m__law_figures [] (aCons (e2 dIx (eVarW 1) (eC (.int 1))) aNil)))
  (sSeq (sIf (tOr2 (e1 asB (e2 dIs (eVarW 4) (eC .non))) (tOr2 (e1 asB (e2 dLt (eVarW 4) (eC (.int 2)))) (e1 asB (e2 dNe (eCall m__law_gcd [] (aCons (eVar 3) (aCons (eVar 4) aNil))) (eC (.int 1)))))) (sRet (eC .non)) sSkip)
  (sRet (eTup (aCons (eVar 3) (aCons (eVar 4) aNil)))))) [.val (.str z), .val (.lst [D.str t, .str b]), .val (.bl k), .val (.int n), .no] () { nx := fun _ _ => False, rt := fun d _ => d = match ((fig b).bind fun d => if d < 2 ∨ Int.gcd n d ≠ 1 then none else some (n, d)) with | some (a, b) => .tup [.int a, .int b] | none => .non } := fun n => by
      unfold Nxt
      cases e : fig b with
      | none =>
        rw [e] at fl
        dsimp only at fl
        simp [a1, fl]
        unfold Nxt
        simp [is_nn]
      | some d =>
        rw [e] at fl
        dsimp only at fl
        rw [Option.bind_some]
        by_cases q1 : d < 2
        · rw [if_pos (.inl q1)]
          simp [a1, fl]
          unfold Nxt
          simp [is_in, q1]
        · by_cases q2 : Int.gcd n d = 1
          · rw [if_neg (by rintro (w | w); exact q1 w; exact w q2)]
            simp [a1, fl]
            unfold Nxt
            simp [is_in, q1, law_gcd_ok, q2]
            unfold Nxt
            simp
          · rw [if_pos (.inr q2)]
            have q2' : ¬ ((Int.gcd n d : Nat) : Int) = 1 := by omega
            simp [a1, fl]
            unfold Nxt
            simp [is_in, q1, law_gcd_ok, q2']
    cases k with
    | false =>
      simp [is_in]
      unfold Nxt
      simp
      unfold Nxt
      simp
      exact go i
    | true =>
      have i0 := hi rfl
      simp [is_in, i0]
      unfold Nxt
      simp
      unfold Nxt
      simp
      have g2 := go (-i)
      simp only [Int.neg_gcd, ne_eq] at g2
      exact g2
  · rw [if_neg se, hn]
    have h2' : (2 : Int) < (r.length : Nat) + 1 := by omega
    cases k with
    | false => simp [is_in, h2']
    | true =>
      have i0 := hi rfl
      simp [is_in, i0, h2']
theorem law_read_ok (z : Str) (hz : z.length ≤ 10000) : m__law_read [.str z] () = .ok (match rd z with | some (a, b) => .tup [.int a, .int b] | none => .non) () := by
  obtain ⟨t, s, b, hp, lt, lb, h⟩ := parts_of z
  have l2t : lim2 t.length = true := decide_eq_true (by omega)
  have hS : ∀ l, Txt.split z "/" = l → dSplit (.str z) (.str "/") = some (.lst (l.map D.str)) := fun l e => by
    show (if (("/" : Str).length == 0) = false ∧ z.length + 2 ≤ 16777216 then some (D.lst ((Txt.split z "/").map D.str)) else none) = _
    rw [if_pos ⟨by decide, by omega⟩, e]
  have da := (dash_ok t).2
  have fw : (m__law_figures [.str (cutS t (some (if t.cps.toList.head? = some 45 then 1 else 0)) none)] ()) = .ok (match (if t.cps.toList.head? = some 45 then fig (cutS t (some 1) none) else fig t) with | some i => .int i | none => .non) () := by
    by_cases q : t.cps.toList.head? = some 45
    · rw [if_pos q, if_pos q]
      exact (figures_ok _ (Nat.le_trans (cutS_length t _ _) (by omega))).2
    · rw [if_neg q, if_neg q, cut_all]
      exact (figures_ok t (by omega)).2
  have rw_ : rdW t = (if t.cps.toList.head? = some 45 then fig (cutS t (some 1) none) else fig t).bind fun i => if t.cps.toList.head? = some 45 then (if i = 0 then none else some (-i)) else some i := by
    unfold rdW
    by_cases q : t.cps.toList.head? = some 45
    · rw [if_pos q, if_pos q]
      simp only [q, if_true]
    · rw [if_neg q, if_neg q]
      cases fig t with
      | none => rfl
      | some i => rw [Option.bind_some, if_neg q]
  have ii : ∀ k : Bool, fIntA [.bl k] = some (.int (if k = true then 1 else 0)) := fun k => by cases k <;> rfl
  have key : ∀ r, Txt.split z "/" = t :: r → (r = [] ∧ s = Str.empty ∨ (s = "/" ∧ (r = [b] ∨ 2 ≤ r.length ∧ fig b = none))) → m__law_read [.str z] () = .ok (match rd z with | some (a, b) => .tup [.int a, .int b] | none => .non) () := by
    intro r hr hc
    have hS' := hS _ hr
    rw [List.map_cons] at hS'
    have i0 : atI (D.str t :: r.map D.str) 0 = some (.str t) := atI_nat (j := 0) rfl
    unfold rd
    rw [hp]
    dsimp only
    rw [rw_]
    generalize hq : decide (t.cps.toList.head? = some 45) = k at da
    have hk : (t.cps.toList.head? = some 45) ↔ k = true := by rw [← hq]; simp
    simp only [hk] at fw ⊢
    generalize (if k = true then fig (cutS t (some 1) none) else fig t) = f at fw ⊢
    cases k with
    | false =>
      have fw2 : m__law_figures [.str (cutS t (some 0) none)] () = _ := fw
      have ii : fIntA [.bl false] = some (.int 0) := rfl
      clear fw
      cases f with
      | none =>
        dsimp only at fw2
        apply oE_eq
        unfold m__law_read b__law_read
        simp [hS']
        unfold Nxt
        simp [i0, dCutA, l2t, da]
        unfold Nxt
        simp [ii, i0, dCutA, l2t, fw2]
        unfold Nxt
        simp [is_nn]
      | some i =>
        dsimp only at fw2
        rw [Option.bind_some]
        apply oE_eq
        unfold m__law_read b__law_read
        simp [hS']
        unfold Nxt
        simp [i0, dCutA, l2t, da]
        unfold Nxt
        simp [ii, i0, dCutA, l2t, fw2]
        refine oS_imp (law_tail (z := z) (t := t) (k := false) (i := i) (fun z => by cases z) (by omega) hc) (fun _ _ z => z.elim) (fun d _ h => ?_) (fun _ _ _ _ z => z) (fun _ _ z => z) (fun _ _ z => z)
        rw [h]
        rfl
    | true =>
      have fw2 : m__law_figures [.str (cutS t (some 1) none)] () = _ := fw
      have ii : fIntA [.bl true] = some (.int 1) := rfl
      clear fw
      cases f with
      | none =>
        dsimp only at fw2
        apply oE_eq
        unfold m__law_read b__law_read
        simp [hS']
        unfold Nxt
        simp [i0, dCutA, l2t, da]
        unfold Nxt
        simp [ii, i0, dCutA, l2t, fw2]
        unfold Nxt
        simp [is_nn]
      | some i =>
        dsimp only at fw2
        rw [Option.bind_some]
        by_cases i00 : i = 0
        · subst i00
          apply oE_eq
          unfold m__law_read b__law_read
          simp [hS']
          unfold Nxt
          simp [i0, dCutA, l2t, da]
          unfold Nxt
          simp [ii, i0, dCutA, l2t, fw2]
          unfold Nxt
          simp [is_in]
        rw [if_pos rfl, if_neg i00]
        apply oE_eq
        unfold m__law_read b__law_read
        simp [hS']
        unfold Nxt
        simp [i0, dCutA, l2t, da]
        unfold Nxt
        simp [ii, i0, dCutA, l2t, fw2]
        refine oS_imp (law_tail (z := z) (t := t) (k := true) (i := i) (fun _ => i00) (by omega) hc) (fun _ _ z => z.elim) (fun d _ h => ?_) (fun _ _ _ _ z => z) (fun _ _ z => z) (fun _ _ z => z)
        rw [h]
        simp only [if_true, Int.neg_gcd, ne_eq]
  rcases h with ⟨rfl, h⟩ | ⟨rfl, h | ⟨r, h, hr, hb⟩⟩
  · exact key [] h (.inl ⟨rfl, rfl⟩)
  · exact key [b] h (.inr ⟨rfl, .inl rfl⟩)
  · exact key r h (.inr ⟨rfl, .inr ⟨hr, fig_slash hb⟩⟩)

theorem law_is_share_int (a b : Int) (h : 1 ≤ b) (g : Int.gcd a b = 1) : m__law_is_share [.tup [.int a, .int b]] () = .ok (.bl true) () := by
  have := law_is_share_p (d := .tup [.int a, .int b]) rfl
  rw [this]
  show Res.ok (D.bl (decide (1 ≤ b) && decide (Int.gcd a b = 1))) () = _
  rw [decide_eq_true h, decide_eq_true g]; rfl
theorem law_reads_ok (z : Str) (hz : z.length ≤ 10000) : m__law_reads [.str z] () = .ok (.bl true) () := by
  have r1 := read_share_ok z hz
  have r2 := law_read_ok z hz
  cases e : rd z with
  | none =>
    rw [e] at r1 r2
    dsimp only at r1 r2
    apply oE_eq
    unfold m__law_reads b__law_reads
    simp
    unfold Nxt
    simp
    unfold Nxt
    simp [r1]
    refine ⟨_, rfl, ?_⟩
    unfold Nxt
    simp [r2]
    unfold Nxt
    simp [is_nn]
    rfl
  | some p =>
    obtain ⟨a, b⟩ := p
    rw [e] at r1 r2
    dsimp only at r1 r2
    obtain ⟨h1, h2⟩ := rd_sh e
    have ls := law_is_share_int a b h1 h2
    have tn : dIs (.tup [.int a, .int b]) .non = some (.bl false) := rfl
    apply oE_eq
    unfold m__law_reads b__law_reads
    simp
    unfold Nxt
    simp
    unfold Nxt
    simp [r1]
    unfold Nxt
    simp [r2]
    unfold Nxt
    simp [tn]
    unfold Nxt
    simp [ls]
    exact ⟨_, rfl, rfl⟩
theorem app_len (x y : Str) : (x ++ y).length = x.length + y.length := by
  show (x.cps ++ y.cps).size = x.cps.size + y.cps.size
  exact Array.size_append
theorem app_nil (y : Str) : Str.empty ++ y = y := by
  cases y
  show (⟨#[] ++ _⟩ : Str) = _
  rw [Array.empty_append]
theorem p10 {n : Nat} (h : n < 10 ^ 403) : n.log2 < 1920 := Nat.lt_of_lt_of_le (PySem.Flt.log2_lt_of (by decide) (Nat.lt_of_lt_of_le h (show (10 : Nat) ^ 403 ≤ 2 ^ 1400 by decide +kernel))) (by decide)
theorem strOf_len {i : Int} (h : i.natAbs < 10 ^ 403) : (strOf i).length ≤ 404 := by
  have := int_text_length_le10 (k := 403) (by decide) h
  unfold strOf
  rw [PySem.ofString_length]
  exact this
theorem strI_ok {i : Int} (h : i.natAbs < 10 ^ 403) : fStrI [.int i] = some (.str (strOf i)) := by
  show (if decide (i.natAbs.log2 < 1920) = true then some (D.str (strOf i)) else none) = _
  rw [if_pos (decide_eq_true (p10 h))]
theorem fmt_ok {i : Int} (h : i.natAbs < 10 ^ 403) : fFmt (.int i) = some (.str (strOf i)) := by
  show (if i.natAbs.log2 < 1920 then some (D.str (toString i)) else none) = _
  rw [if_pos (p10 h)]
  rfl
def txt (a b : Int) : Str := if b = 1 then strOf a else strOf a ++ "/" ++ strOf b
theorem txt_len {a b : Int} (ha : a.natAbs < 10 ^ 403) (hb : b.natAbs < 10 ^ 403) : (txt a b).length ≤ 809 := by
  have h1 := strOf_len ha
  have h2 := strOf_len hb
  unfold txt
  split
  · omega
  · rw [app_len, app_len]
    have : ("/" : Str).length = 1 := rfl
    omega
theorem add_ss (x y : Str) (h : x.length + y.length ≤ 16777216) : dAdd (.str x) (.str y) = some (.str (x ++ y)) := by
  show (if lim2 (x.length + y.length) = true then some (D.str (x ++ y)) else none) = _
  rw [if_pos (show lim2 _ = true from decide_eq_true h)]
theorem text_ok {a b : Int} (ha : a.natAbs < 10 ^ 403) (hb : b.natAbs < 10 ^ 403) : m__law_text [.tup [.int a, .int b]] () = .ok (.str (txt a b)) () ∧ m_share_text [.tup [.int a, .int b]] () = .ok (.str (txt a b)) () := by
  have h1 := strOf_len ha
  have h2 := strOf_len hb
  have hs : ("/" : Str).length = 1 := rfl
  have i0 : atI [D.int a, .int b] 0 = some (.int a) := rfl
  have i1 : atI [D.int a, .int b] 1 = some (.int b) := rfl
  have l1 : (strOf a ++ "/").length ≤ 405 := by rw [app_len]; omega
  have l2 : (strOf a ++ "/" ++ strOf b).length ≤ 16777216 := by rw [app_len]; omega
  have d1 := add_ss (strOf a) "/" (by omega)
  have d2 := add_ss (strOf a ++ "/") (strOf b) (by omega)
  unfold txt
  by_cases q : b = 1
  · subst q
    rw [if_pos rfl]
    constructor
    · apply oE_eq
      unfold m__law_text b__law_text
      simp [i0, i1, strI_ok ha]
    · apply oE_eq
      unfold m_share_text b_share_text
      simp [i0, i1, strI_ok ha]
  · rw [if_neg q]
    constructor
    · apply oE_eq
      unfold m__law_text b__law_text
      simp [i0, i1, q]
      unfold Nxt
      simp [i0, i1, strI_ok ha, strI_ok hb, d1, d2]
    · apply oE_eq
      unfold m_share_text b_share_text
      simp [i0, i1, q]
      unfold Nxt
      simp [i0, i1, fmt_ok ha, fmt_ok hb, app_nil]
      refine ⟨by omega, by omega, l2⟩

theorem p402 {n : Nat} (h : n < 2 ^ 200) : n < 10 ^ 402 := Nat.lt_of_lt_of_le h (by decide +kernel)
theorem nines {n : Int} (hn : n = 399 ∨ n = 400 ∨ n = 401) : ∃ (z : D) (G : Int), dMulS (.str "9") (.int n) = some z ∧ fIntA [z] = some (.int G) ∧ 1 < G ∧ G.natAbs < 10 ^ 402 := by
  have one : ∀ (k : Nat), mulSOk "9" k = true → NumText.digitsVal (repS "9" k).cps.toList = 10 ^ k - 1 → (10 ^ k - 1 : Nat) < 10 ^ 402 → 1 < (10 ^ k - 1 : Nat) → fIntS [.str (repS "9" k)] = some (.int ((10 ^ k - 1 : Nat) : Int)) → ∃ (z : D) (G : Int), dMulS (.str "9") (.int k) = some z ∧ fIntA [z] = some (.int G) ∧ 1 < G ∧ G.natAbs < 10 ^ 402 := fun k h1 h2 h3 h4 h5 => by
    refine ⟨.str (repS "9" k), ((10 ^ k - 1 : Nat) : Int), ?_, ?_, by omega, by rw [Int.natAbs_natCast]; exact h3⟩
    · show (if mulSOk "9" k = true then some (D.str (repS "9" k)) else none) = _
      rw [if_pos h1]
    · rw [fIntA_str]; exact h5
  have g399 : NumText.digitsVal (repS "9" (399 : Nat)).cps.toList = 10 ^ 399 - 1 := by decide +kernel
  have g400 : NumText.digitsVal (repS "9" (400 : Nat)).cps.toList = 10 ^ 400 - 1 := by decide +kernel
  have g401 : NumText.digitsVal (repS "9" (401 : Nat)).cps.toList = 10 ^ 401 - 1 := by decide +kernel
  rcases hn with rfl | rfl | rfl
  · refine one 399 (by decide +kernel) g399 (by decide +kernel) (by decide +kernel) ?_
    rw [← fIntA_str, int_digits (by decide +kernel) (by decide +kernel) (by decide +kernel), g399]
  · refine one 400 (by decide +kernel) g400 (by decide +kernel) (by decide +kernel) ?_
    rw [← fIntA_str, int_digits (by decide +kernel) (by decide +kernel) (by decide +kernel), g400]
  · refine one 401 (by decide +kernel) g401 (by decide +kernel) (by decide +kernel) ?_
    rw [← fIntA_str, int_digits (by decide +kernel) (by decide +kernel) (by decide +kernel), g401]
theorem drawn_wp {ns : List Int} {a : Addr} {n : Nat} {t : Dk} {Q : D → Dk → Prop} {X : Str → Fds → Dk → Prop} (g : Gd ns a n t) (hc : n < 10000000000) (h : ∀ (p q : Int) (t' : Dk), p.natAbs < 10 ^ 402 → q.natAbs < 10 ^ 402 → Gd ns a (n + 30) t' → Q (.tup [.int p, .int q]) t') :
    oE (m__law_drawn [.at a] t) Q X := by
  unfold m__law_drawn b__law_drawn
  simp
  refine take_wp g (by omega) (many_of (by decide) (by decide)) fun k t1 k0 k1 g1 => ?_
  simp
  by_cases hk : k = 0
  · right
    refine ⟨hk, take_wp g1 (by omega) (many_of (by decide) (by decide)) fun r t2 r0 r1 g2 => ?_⟩
    have hn : ∃ w : Int, atI [D.int 399, .int 400, .int 401] r = some (.int w) ∧ (w = 399 ∨ w = 400 ∨ w = 401) := by
      have : r = 0 ∨ r = 1 ∨ r = 2 := by omega
      rcases this with rfl | rfl | rfl
      · exact ⟨_, rfl, .inl rfl⟩
      · exact ⟨_, rfl, .inr (.inl rfl)⟩
      · exact ⟨_, rfl, .inr (.inr rfl)⟩
    obtain ⟨w, ew, hw⟩ := hn
    obtain ⟨z, G, e1, e2, e3, e4⟩ := nines hw
    simp [ew, e1, e2]
    unfold Nxt
    simp
    refine take_wp g2 (by omega) (many_of (by decide) (by decide)) fun i t3 i0 i1 g3 => ?_
    have o1 : (1 : Int).natAbs < 10 ^ 402 := by decide +kernel
    have : i = 0 ∨ i = 1 ∨ i = 2 ∨ i = 3 := by omega
    rcases this with rfl | rfl | rfl | rfl
    · exact ⟨_, rfl, h _ _ _ e4 o1 (g3.le (by omega))⟩
    · exact ⟨_, rfl, h _ _ _ (by rw [Int.natAbs_neg]; exact e4) o1 (g3.le (by omega))⟩
    · exact ⟨_, rfl, h _ _ _ o1 e4 (g3.le (by omega))⟩
    · exact ⟨_, rfl, h _ _ _ (by omega) e4 (g3.le (by omega))⟩
  · left
    refine ⟨hk, ?_⟩
    unfold Nxt
    simp
    refine whole_wp g1 (by omega) fun p t2 hp g2 => ?_
    unfold Nxt
    simp
    refine whole_wp g2 (by omega) fun b t3 hb g3 => ?_
    simp
    refine take_wp g3 (by omega) (many_of (by decide) (by decide)) fun c t4 c0 c1 g4 => ?_
    simp
    refine take_wp g4 (by omega) (many_of (by decide) (by decide)) fun i t5 i0 i1 g5 => ?_
    have fin : ∀ d : Int, 1 ≤ d → d.natAbs < 2 ^ 200 → ∃ z, some (D.int d) = some z ∧ oE (m__law_share [.int p, z] ()) (fun d _ => Q d t5) (fun n fs _ => X n fs t5) := fun d d1 d2 => by
      refine ⟨_, rfl, ?_⟩
      have sz := divInt_sz (a := p) (b := d) (n := 200) (by omega) (Nat.lt_of_lt_of_le hp (by decide)) d2
      rw [law_share_R (by omega) (Nat.lt_of_lt_of_le d2 (Nat.pow_le_pow_right (by decide) (by decide)))]
      exact h _ _ _ (p402 sz.nu) (p402 sz.den) (g5.le (by omega))
    have : i = 0 ∨ i = 1 ∨ i = 2 := by omega
    rcases this with rfl | rfl | rfl
    · exact fin 1 (by decide) (by decide)
    · exact fin _ (by omega) (by omega)
    · exact fin _ (by omega) (by omega)
theorem sign_wp {ns : List Int} {a : Addr} {n : Nat} {t : Dk} {Q : D → Dk → Prop} {X : Str → Fds → Dk → Prop} (g : Gd ns a n t) (hc : n < 10000000000) (h : ∀ (y : Str) (t' : Dk), y.length ≤ 1 → Gd ns a (n + 2) t' → Q (.str y) t') : oE (m__law_sign [.at a] t) Q X := by
  unfold m__law_sign b__law_sign
  generalize hS : ("0123456789/-+., :;=_abcdefghijklmnopqrstuvwxyzABCDEFGHIJKLMNOPQRSTUVWXYZ!\"#$&'()*<>?@\x5b\\]^`{|}~\n" : Str) = S
  have sl : 1 ≤ S.length ∧ S.length ≤ 200 := by rw [← hS]; decide +kernel
  clear hS
  have lS := fLen_str (z := S) (by omega)
  simp
  unfold Nxt
  simp
  unfold Nxt
  simp
  refine take_wp g (by omega) (many_of (by decide) (by decide)) fun k t1 k0 k1 g1 => ?_
  simp
  by_cases hk : k = 0
  · right
    refine ⟨hk, take_wp g1 (by omega) (many_of (by decide) (by decide)) fun r t2 r0 r1 g2 => ?_⟩
    have : r = 0 ∨ r = 1 ∨ r = 2 ∨ r = 3 ∨ r = 4 ∨ r = 5 ∨ r = 6 ∨ r = 7 := by omega
    rcases this with rfl | rfl | rfl | rfl | rfl | rfl | rfl | rfl <;> exact ⟨_, rfl, h _ _ (by decide +kernel) g2⟩
  · left
    refine ⟨hk, ?_⟩
    unfold Nxt
    simp [lS]
    refine take_wp g1 (by omega) (many_of (by omega) (by omega)) fun r t2 r0 r1 g2 => ?_
    have lt : r.toNat < S.cps.toList.length := by rw [← slen]; omega
    have : dIx (.str S) (.int r) = some (.str ⟨#[S.cps.toList[r.toNat]]⟩) := by
      show (if lim2 S.length = true then (atI S.cps.toList r).map fun c => D.str ⟨#[c]⟩ else none) = _
      rw [if_pos (show lim2 _ = true from decide_eq_true (by omega))]
      have : atI S.cps.toList ((r.toNat : Nat) : Int) = some S.cps.toList[r.toNat] := atI_nat (List.getElem?_eq_getElem lt)
      rw [Int.toNat_of_nonneg r0] at this
      rw [this]
      rfl
    exact ⟨_, this, h _ _ (Nat.le_refl 1) g2⟩
theorem cut_str (z : Str) (lo hi : Option Int) (h : z.length ≤ 10000) : dCutA (.str z) lo hi = some (.str (cutS z lo hi)) := by
  show (if lim2 z.length = true then some (D.str (cutS z lo hi)) else none) = _
  rw [if_pos (show lim2 _ = true from decide_eq_true (by omega))]
theorem bent_wp {ns : List Int} {a : Addr} {n : Nat} {t : Dk} {p q : Int} {Q : D → Dk → Prop} {X : Str → Fds → Dk → Prop} (hp : p.natAbs < 10 ^ 402) (hq : q.natAbs < 10 ^ 402) (g : Gd ns a n t) (hc : n < 1000000000) (h : ∀ (y : Str) (t' : Dk), y.length ≤ 10000 → Gd ns a (n + 10) t' → Q (.str y) t') :
    oE (m__law_bent [.at a, .tup [.int p, .int q]] t) Q X := by
  have w3 : (10 : Nat) ^ 402 ≤ 10 ^ 403 := by decide +kernel
  have tl := txt_len (a := p) (b := q) (by omega) (by omega)
  have tk := (text_ok (a := p) (b := q) (by omega) (by omega)).1
  generalize txt p q = z at tl tk
  have ln := fLen_str (z := z) (by omega)
  have cl : ∀ lo hi, (cutS z lo hi).length ≤ 809 := fun lo hi => Nat.le_trans (cutS_length z _ _) tl
  have cz : ∀ lo hi, dCutA (.str z) lo hi = some (.str (cutS z lo hi)) := fun lo hi => cut_str z lo hi (by omega)
  unfold m__law_bent b__law_bent
  simp
  refine take_wp g (by omega) (many_of (by decide) (by decide)) fun k t1 k0 k1 g1 => ?_
  unfold Nxt
  simp [tk]
  unfold Nxt
  simp [ln]
  refine take_wp g1 (by omega) (many_of (by omega) (by omega)) fun at_ t2 a0 a1 g2 => ?_
  unfold Nxt
  simp
  have step : ∀ (j : Int) (A B : Prop), (k = j → B) → (k ≠ j → A) → (¬ k = j ∧ A) ∨ (k = j ∧ B) := fun j A B h1 h2 => by
    by_cases e : k = j
    · exact .inr ⟨e, h1 e⟩
    · exact .inl ⟨e, h2 e⟩
  refine step _ _ _ (fun _ => ?_) (fun k00 => ?_)
  · simp [cz]
    refine sign_wp g2 (by omega) fun y t3 y1 g3 => ?_
    have c1 := cl none (some at_)
    have c2 := cl (some at_) none
    simp [add_ss _ _ (show (cutS z none (some at_)).length + y.length ≤ 16777216 by omega), cz]
    have l1 := app_len (cutS z none (some at_)) y
    rw [add_ss _ _ (by omega)]
    refine ⟨_, rfl, h _ _ ?_ (g3.le (by omega))⟩
    rw [app_len]
    omega
  unfold Nxt
  simp
  refine step _ _ _ (fun _ => ?_) (fun k01 => ?_)
  · simp [cz]
    refine sign_wp g2 (by omega) fun y t3 y1 g3 => ?_
    have c1 := cl none (some at_)
    have c2 := cl (some (at_ + 1)) none
    simp [add_ss _ _ (show (cutS z none (some at_)).length + y.length ≤ 16777216 by omega), cz]
    have l1 := app_len (cutS z none (some at_)) y
    rw [add_ss _ _ (by omega)]
    refine ⟨_, rfl, h _ _ ?_ (g3.le (by omega))⟩
    rw [app_len]
    omega
  unfold Nxt
  simp
  refine step _ _ _ (fun _ => ?_) (fun k02 => ?_)
  · have c1 := cl none (some at_)
    have c2 := cl (some (at_ + 1)) none
    simp [cz]
    rw [add_ss _ _ (by omega)]
    refine ⟨_, rfl, h _ _ ?_ (g2.le (by omega))⟩
    rw [app_len]
    omega
  unfold Nxt
  simp
  refine step _ _ _ (fun _ => ?_) (fun k03 => ?_)
  · simp [cz]
    unfold Nxt
    have c0 := cl (some at_) (some (at_ + 2))
    generalize cutS z (some at_) (some (at_ + 2)) = w at c0
    have c1 := cl none (some at_)
    have c2 := cl (some (at_ + 2)) none
    have c3 := Nat.le_trans (cutS_length w (some 1) none) c0
    have c4 := Nat.le_trans (cutS_length w none (some 1)) c0
    have z1 := cut_str w (some 1) none (by omega)
    have z2 := cut_str w none (some 1) (by omega)
    generalize cutS w (some 1) none = w1 at c3 z1
    generalize cutS w none (some 1) = w2 at c4 z2
    have cz1 := cz none (some at_)
    have cz2 := cz (some (at_ + 2)) none
    generalize cutS z none (some at_) = w3 at c1 cz1
    generalize cutS z (some (at_ + 2)) none = w4 at c2 cz2
    have l1 := app_len w3 w1
    have l2 := app_len (w3 ++ w1) w2
    have l3 := app_len (w3 ++ w1 ++ w2) w4
    simp [cz1, cz2, z1, z2, add_ss w3 w1 (by omega), add_ss (w3 ++ w1) w2 (by omega), add_ss (w3 ++ w1 ++ w2) w4 (by omega)]
    exact h _ _ (by omega) (g2.le (by omega))
  unfold Nxt
  simp
  have small : ∀ (y : Str), y.length ≤ 4 → (∃ v, dAdd (.str y) (.str z) = some v ∧ ∀ t3, Gd ns a (n + 3) t3 → Q v t3) ∧ (∃ v, dAdd (.str z) (.str y) = some v ∧ ∀ t3, Gd ns a (n + 3) t3 → Q v t3) := fun y hy => by
    constructor
    · rw [add_ss _ _ (by omega)]
      exact ⟨_, rfl, fun t3 g3 => h _ _ (by rw [app_len]; omega) (g3.le (by omega))⟩
    · rw [add_ss _ _ (by omega)]
      exact ⟨_, rfl, fun t3 g3 => h _ _ (by rw [app_len]; omega) (g3.le (by omega))⟩
  refine step _ _ _ (fun _ => ?_) (fun k04 => ?_)
  · refine take_wp g2 (by omega) (many_of (by decide) (by decide)) fun r t3 r0 r1 g3 => ?_
    have : r = 0 ∨ r = 1 ∨ r = 2 ∨ r = 3 ∨ r = 4 ∨ r = 5 ∨ r = 6 ∨ r = 7 := by omega
    have fin : ∀ y : Str, y.length ≤ 4 → ∃ w, some (D.str y) = some w ∧ ∃ v, dAdd w (.str z) = some v ∧ Q v t3 := fun y hy => by
      obtain ⟨⟨v, e, hv⟩, _⟩ := small y hy
      exact ⟨_, rfl, v, e, hv t3 (g3.le (by omega))⟩
    rcases this with rfl | rfl | rfl | rfl | rfl | rfl | rfl | rfl <;> exact fin _ (by decide +kernel)
  unfold Nxt
  simp
  refine step _ _ _ (fun _ => ?_) (fun k05 => ?_)
  · refine take_wp g2 (by omega) (many_of (by decide) (by decide)) fun r t3 r0 r1 g3 => ?_
    have : r = 0 ∨ r = 1 ∨ r = 2 ∨ r = 3 ∨ r = 4 ∨ r = 5 ∨ r = 6 ∨ r = 7 := by omega
    have fin : ∀ y : Str, y.length ≤ 4 → ∃ w, some (D.str y) = some w ∧ ∃ v, dAdd (.str z) w = some v ∧ Q v t3 := fun y hy => by
      obtain ⟨_, ⟨v, e, hv⟩⟩ := small y hy
      exact ⟨_, rfl, v, e, hv t3 (g3.le (by omega))⟩
    rcases this with rfl | rfl | rfl | rfl | rfl | rfl | rfl | rfl <;> exact fin _ (by decide +kernel)
  unfold Nxt
  simp
  refine step _ _ _ (fun _ => ?_) (fun k06 => ?_)
  · refine take_wp g2 (by omega) (many_of (by decide) (by decide)) fun r t3 r0 r1 g3 => ?_
    simp
    unfold Nxt
    simp
    have e0 : atI [D.int p, .int q] 0 = some (.int p) := rfl
    have e1 : atI [D.int p, .int q] 1 = some (.int q) := rfl
    have big : ∀ x : Int, x.natAbs < 10 ^ 402 → dMulI (.int (2 + r)) (.int x) = some (.int ((2 + r) * x)) ∧ ((2 + r) * x).natAbs < 10 ^ 403 := fun x hx => by
      have o : mulOk (2 + r) x = true := small_mul (a := 8) (b := 1400) (by omega) (Nat.lt_of_lt_of_le hx (by decide +kernel)) (by decide) (by decide) (by decide)
      refine ⟨?_, ?_⟩
      · show (if mulOk (2 + r) x = true then some (D.int ((2 + r) * x)) else none) = _
        rw [if_pos o]
      · rw [Int.natAbs_mul]
        have : (2 + r).natAbs ≤ 8 := by omega
        have := Nat.mul_le_mul_right x.natAbs this
        have : 8 * 10 ^ 402 ≤ 10 ^ 403 := by decide +kernel
        omega
    obtain ⟨m1, b1⟩ := big p hp
    obtain ⟨m2, b2⟩ := big q hq
    have s1 := strOf_len b1
    have s2 := strOf_len b2
    have sl : ("/" : Str).length = 1 := rfl
    have l1 := app_len (strOf ((2 + r) * p)) "/"
    have l2 := app_len (strOf ((2 + r) * p) ++ "/") (strOf ((2 + r) * q))
    refine ⟨_, e0, _, m1, _, strI_ok b1, _, add_ss _ _ (by omega), _, e1, _, m2, _, strI_ok b2, _, add_ss _ _ (by omega), h _ _ (by omega) (g3.le (by omega))⟩
  unfold Nxt
  simp
  refine take_wp g2 (by omega) (many_of (by decide) (by decide)) fun r t3 r0 r1 g3 => ?_
  have : r = 0 ∨ r = 1 ∨ r = 2 ∨ r = 3 ∨ r = 4 ∨ r = 5 ∨ r = 6 ∨ r = 7 := by omega
  rcases this with rfl | rfl | rfl | rfl | rfl | rfl | rfl | rfl <;> exact ⟨_, rfl, h _ _ (by decide +kernel) (g3.le (by omega))⟩
theorem law_good (ns : List Int) (hl : ns.length ≤ 63) (hb : ∀ z ∈ ns, Builtin.Int.intBits z ≤ 1048576) : lawIs 7 m__law_deck b_law ns := by
  obtain ⟨big, eb⟩ := deck_ok ns hl
  refine ⟨_, big, eb, fun a b => ?_⟩
  have key : oS (b_law ((Slot.val (.scr ns) :: List.replicate (7 - 1) .no).set 1 (.val (.at a))) ⟨a, b, .scr ns, big, 0, 0⟩) { nx := fun _ _ => False, rt := fun d _ => d = .bl true } := by
    unfold b_law
    simp
    refine oS_loop (fun ds ρ t => ds.length ≤ 4 ∧ ∃ s2 s3 s4 s5 s6, ρ = [.val (.scr ns), .val (.at a), s2, s3, s4, s5, s6] ∧ Gd ns a (1000 * (4 - ds.length)) t) _ _ _ ⟨by simp [rngD], _, _, _, _, _, rfl, rfl, rfl, Nat.zero_le _⟩ ?_ ?_
    · rintro d ds ρ t ⟨hl, s2, s3, s4, s5, s6, rfl, g⟩
      refine ⟨_, rfl, ?_⟩
      rw [List.length_cons] at hl g
      simp
      refine drawn_wp g (by omega) fun p q t1 hp hq g1 => ?_
      have w3 : (10 : Nat) ^ 402 ≤ 10 ^ 403 := by decide +kernel
      obtain ⟨k1, k2⟩ := text_ok (a := p) (b := q) (by omega) (by omega)
      have tl := txt_len (a := p) (b := q) (by omega) (by omega)
      generalize txt p q = z at tl k1 k2
      have lr := law_reads_ok z (by omega)
      have ins : fIsi [.str z, .ty "str"] = some (.bl true) := rfl
      have ne : dNeSS (.str z) (.str z) = some (.bl false) := by
        show some (D.bl (z.cps.toList != z.cps.toList)) = _
        rw [bne_self_eq_false]
      unfold Nxt
      simp [k1]
      unfold Nxt
      simp [k2]
      unfold Nxt
      simp [ins, ne, lr]
      unfold Nxt
      simp
      refine oS_loop (fun es ρ t => es.length ≤ 4 ∧ ∃ s6, ρ = [.val (.scr ns), .val (.at a), .val d, .val (.tup [.int p, .int q]), .val (.str z), .val (.str z), s6] ∧ Gd ns a (1000 * (4 - (ds.length + 1)) + 30 + 20 * (4 - es.length)) t) _ _ _ ⟨by simp [rngD], _, rfl, g1.le (by omega)⟩ ?_ ?_
      · rintro e es ρ t2 ⟨he, s6, rfl, g2⟩
        refine ⟨_, rfl, ?_⟩
        rw [List.length_cons] at he g2
        simp
        refine bent_wp hp hq g2 (by omega) fun y t3 hy g3 => ?_
        simp [law_reads_ok y hy]
        exact ⟨by omega, g3.le (by omega)⟩
      · rintro ρ t2 ⟨_, s6, rfl, g2⟩
        simp
        exact ⟨by omega, g2.le (by simp; omega)⟩
    · rintro ρ t ⟨hl, s2, s3, s4, s5, s6, rfl, g⟩
      unfold Nxt
      simp
  obtain ⟨d, t, e, rfl⟩ := oS_rtEx key
  exact ⟨t, e⟩

end MM

noncomputable section
namespace MM
open PySem PySem.Spec PyProof.Rows L2
structure Fx (K : Fg) (mg : Str → Option Value) : Prop where
  z_int : mg "int" = none
  z_isinstance : mg "isinstance" = none
  z_bool : mg "bool" = none
  f_is_whole : ∃ fd, FunD K "is_whole" "is_whole" (defArgs (top 7)) (defBody (top 7)) (defScope (top 7)) [] [] (He.ga K "is_whole") fd
  g_is_whole : mg "is_whole" = some (.ref (He.ga K "is_whole"))
  z_abs : mg "abs" = none
  f_divisor : ∃ fd, FunD K "divisor" "divisor" (defArgs (top 8)) (defBody (top 8)) (defScope (top 8)) [] [] (He.ga K "divisor") fd
  g_divisor : mg "divisor" = some (.ref (He.ga K "divisor"))
  z_tuple : mg "tuple" = none
  z_len : mg "len" = none
  f_is_share : ∃ fd, FunD K "is_share" "is_share" (defArgs (top 9)) (defBody (top 9)) (defScope (top 9)) [] [] (He.ga K "is_share") fd
  g_is_share : mg "is_share" = some (.ref (He.ga K "is_share"))
  z_str : mg "str" = none
  f_share_text : ∃ fd, FunD K "share_text" "share_text" (defArgs (top 10)) (defBody (top 10)) (defScope (top 10)) [] [] (He.ga K "share_text") fd
  g_share_text : mg "share_text" = some (.ref (He.ga K "share_text"))
  c_FIGURES : Glc K mg "FIGURES" (.int 400)
  x_NoShare : ExcF K mg "NoShare"
  lim : NoLim K
  f_figures_read : ∃ fd, FunD K "figures_read" "figures_read" (defArgs (top 11)) (defBody (top 11)) (defScope (top 11)) [] [] (He.ga K "figures_read") fd
  g_figures_read : mg "figures_read" = some (.ref (He.ga K "figures_read"))
  f_whole_read : ∃ fd, FunD K "whole_read" "whole_read" (defArgs (top 12)) (defBody (top 12)) (defScope (top 12)) [] [] (He.ga K "whole_read") fd
  g_whole_read : mg "whole_read" = some (.ref (He.ga K "whole_read"))
  f_read_share : ∃ fd, FunD K "read_share" "read_share" (defArgs (top 13)) (defBody (top 13)) (defScope (top 13)) [] [] (He.ga K "read_share") fd
  g_read_share : mg "read_share" = some (.ref (He.ga K "read_share"))
  f__law_cell : ∃ fd, FunD K "_law_cell" "_law_cell" (defArgs (top 15)) (defBody (top 15)) (defScope (top 15)) [] [] (He.ga K "_law_cell") fd
  g__law_cell : mg "_law_cell" = some (.ref (He.ga K "_law_cell"))
  f__law_mixed : ∃ fd, FunD K "_law_mixed" "_law_mixed" (defArgs (top 16)) (defBody (top 16)) (defScope (top 16)) [] [] (He.ga K "_law_mixed") fd
  g__law_mixed : mg "_law_mixed" = some (.ref (He.ga K "_law_mixed"))
  f__law_deck : ∃ fd, FunD K "_law_deck" "_law_deck" (defArgs (top 17)) (defBody (top 17)) (defScope (top 17)) [] [] (He.ga K "_law_deck") fd
  g__law_deck : mg "_law_deck" = some (.ref (He.ga K "_law_deck"))
  f__law_take : ∃ fd, FunD K "_law_take" "_law_take" (defArgs (top 18)) (defBody (top 18)) (defScope (top 18)) [] [] (He.ga K "_law_take") fd
  g__law_take : mg "_law_take" = some (.ref (He.ga K "_law_take"))
  f__law_gcd : ∃ fd, FunD K "_law_gcd" "_law_gcd" (defArgs (top 19)) (defBody (top 19)) (defScope (top 19)) [] [] (He.ga K "_law_gcd") fd
  g__law_gcd : mg "_law_gcd" = some (.ref (He.ga K "_law_gcd"))
  f__law_share : ∃ fd, FunD K "_law_share" "_law_share" (defArgs (top 20)) (defBody (top 20)) (defScope (top 20)) [] [] (He.ga K "_law_share") fd
  g__law_share : mg "_law_share" = some (.ref (He.ga K "_law_share"))
  z_range : mg "range" = none
  f__law_whole : ∃ fd, FunD K "_law_whole" "_law_whole" (defArgs (top 21)) (defBody (top 21)) (defScope (top 21)) [] [] (He.ga K "_law_whole") fd
  g__law_whole : mg "_law_whole" = some (.ref (He.ga K "_law_whole"))
  f__law_is_share : ∃ fd, FunD K "_law_is_share" "_law_is_share" (defArgs (top 22)) (defBody (top 22)) (defScope (top 22)) [] [] (He.ga K "_law_is_share") fd
  g__law_is_share : mg "_law_is_share" = some (.ref (He.ga K "_law_is_share"))
  z_max : mg "max" = none
  f__law_drawn : ∃ fd, FunD K "_law_drawn" "_law_drawn" (defArgs (top 23)) (defBody (top 23)) (defScope (top 23)) [] [] (He.ga K "_law_drawn") fd
  g__law_drawn : mg "_law_drawn" = some (.ref (He.ga K "_law_drawn"))
  f__law_text : ∃ fd, FunD K "_law_text" "_law_text" (defArgs (top 24)) (defBody (top 24)) (defScope (top 24)) [] [] (He.ga K "_law_text") fd
  g__law_text : mg "_law_text" = some (.ref (He.ga K "_law_text"))
  f__law_sign : ∃ fd, FunD K "_law_sign" "_law_sign" (defArgs (top 25)) (defBody (top 25)) (defScope (top 25)) [] [] (He.ga K "_law_sign") fd
  g__law_sign : mg "_law_sign" = some (.ref (He.ga K "_law_sign"))
  f__law_bent : ∃ fd, FunD K "_law_bent" "_law_bent" (defArgs (top 26)) (defBody (top 26)) (defScope (top 26)) [] [] (He.ga K "_law_bent") fd
  g__law_bent : mg "_law_bent" = some (.ref (He.ga K "_law_bent"))
  f__law_figures : ∃ fd, FunD K "_law_figures" "_law_figures" (defArgs (top 27)) (defBody (top 27)) (defScope (top 27)) [] [] (He.ga K "_law_figures") fd
  g__law_figures : mg "_law_figures" = some (.ref (He.ga K "_law_figures"))
  f__law_read : ∃ fd, FunD K "_law_read" "_law_read" (defArgs (top 28)) (defBody (top 28)) (defScope (top 28)) [] [] (He.ga K "_law_read") fd
  g__law_read : mg "_law_read" = some (.ref (He.ga K "_law_read"))
  g_NoShare : mg "NoShare" = some (.ref (He.ga K "NoShare"))
  m_NoShare_NoShare : PySem.W.exmOne K (.ref (He.ga K "NoShare")) (.ref (He.ga K "NoShare")) = some true
  z_ValueError : mg "ValueError" = none
  e_NoShare : ExcC K (He.ga K "NoShare")
  k_NoShare_ValueError : PySem.W.kitOne K (.ref (He.ga K "NoShare")) (.type "ValueError") = some true
  g_BodyError : mg "BodyError" = some (.ref (He.ga K "BodyError"))
  k_NoShare_BodyError : PySem.W.kitOne K (.ref (He.ga K "NoShare")) (.ref (He.ga K "BodyError")) = some true
  g_BadText : mg "BadText" = some (.ref (He.ga K "BadText"))
  k_NoShare_BadText : PySem.W.kitOne K (.ref (He.ga K "NoShare")) (.ref (He.ga K "BadText")) = some false
  g_NoWay : mg "NoWay" = some (.ref (He.ga K "NoWay"))
  k_NoShare_NoWay : PySem.W.kitOne K (.ref (He.ga K "NoShare")) (.ref (He.ga K "NoWay")) = some false
  f__law_reads : ∃ fd, FunD K "_law_reads" "_law_reads" (defArgs (top 29)) (defBody (top 29)) (defScope (top 29)) [] [] (He.ga K "_law_reads") fd
  g__law_reads : mg "_law_reads" = some (.ref (He.ga K "_law_reads"))
  f_law : ∃ fd, FunD K "law" "law" (defArgs (top 30)) (defBody (top 30)) (defScope (top 30)) [] [] (He.ga K "law") fd
  g_law : mg "law" = some (.ref (He.ga K "law"))
section
variable {P : Program} {w : World} {K : Fg} {mg : Str → Option Value} {base : Heap}
abbrev N_is_whole : List Str := ["thing"]
theorem sc_is_whole : FnScope N_is_whole ["thing"] (defScope (top 7)) := ⟨rfl, rfl, rfl, by decide +kernel, rfl, by decide +kernel, by decide +kernel⟩
theorem w_is_whole (T : Fx K mg) (fd : FuncData) (cdv : Value) (A : Around) (outer : List Env) (s : Shared) (H : Hp) (E : XK) (hr : Room 0 (A.deeper (envOfC "is_whole" (defScope (top 7)) s.heap.objs.size (He.ga K "is_whole") cdv))) :
    PSs (cxOf (L2.CX P w) P w K mg base N_is_whole "is_whole" (defScope (top 7)) (He.ga K "is_whole") cdv A outer s H E) (defBody (top 7)) (tS K (fun cls d _ H => E cls d H) b_is_whole) := by
  have tk := tk_cx (P := P) (w := w) (K := K) (mg := mg) (base := base) (N := N_is_whole) (qual := "is_whole") (scope := defScope (top 7)) (f := He.ga K "is_whole") (cd := cdv) (A := A) (outer := outer) (s := s) (H := H) (E := E)
  exact (mss_one (ms_ret (me_and (me_callB call_isi c_isi (by rfl) T.z_isinstance (by decide +kernel) (maw_cons (me_varW (pv 0)) (maw_cons (weak (me_type (by rfl) T.z_int (by decide +kernel))) maw_nil))) (me_one (me_not (me_callB call_isi c_isi (by rfl) T.z_isinstance (by decide +kernel) (maw_cons (me_varW (pv 0)) (maw_cons (weak (me_type (by rfl) T.z_bool (by decide +kernel))) maw_nil))))))))
theorem d_is_whole (T : Fx K mg) : Def P w K mg base 1 "is_whole" 1 [] m_is_whole := by
  obtain ⟨fd, F⟩ := T.f_is_whole
  exact Def.mk' (ps := ["thing"]) (N := N_is_whole) (k := 0) F T.g_is_whole sc_is_whole b_is_whole ⟨[], [], .nil, F.bindsN (fun _ _ _ _ _ _ us hl => match us, hl with | [_], _ => rfl), fun _ _ => .nil⟩ (fun cdv A outer s H E hr => w_is_whole T fd cdv A outer s H E hr)
abbrev N_divisor : List Str := ["one", "other"]
theorem sc_divisor : FnScope N_divisor ["one", "other"] (defScope (top 8)) := ⟨rfl, rfl, rfl, by decide +kernel, rfl, by decide +kernel, by decide +kernel⟩
theorem w_divisor (T : Fx K mg) (fd : FuncData) (cdv : Value) (A : Around) (outer : List Env) (s : Shared) (H : Hp) (E : XK) (hr : Room 0 (A.deeper (envOfC "divisor" (defScope (top 8)) s.heap.objs.size (He.ga K "divisor") cdv))) :
    PSs (cxOf (L2.CX P w) P w K mg base N_divisor "divisor" (defScope (top 8)) (He.ga K "divisor") cdv A outer s H E) (defBody (top 8)) (tS K (fun cls d _ H => E cls d H) b_divisor) := by
  have tk := tk_cx (P := P) (w := w) (K := K) (mg := mg) (base := base) (N := N_divisor) (qual := "divisor") (scope := defScope (top 8)) (f := He.ga K "divisor") (cd := cdv) (A := A) (outer := outer) (s := s) (H := H) (E := E)
  exact (mss_cons (ms_par (ps_par (i := 0) (j := 1) rfl sc_divisor.nd rfl rfl (by decide) rfl rfl (ma_cons (me_callB call_abs c_abs (by rfl) T.z_abs (by decide +kernel) (maw_cons (me_varW (pv 0)) maw_nil)) (ma_cons (me_callB call_abs c_abs (by rfl) T.z_abs (by decide +kernel) (maw_cons (me_varW (pv 1)) maw_nil)) ma_nil)) (by rfl)))
  (mss_cons (ms_while po_cx (mt_cmp2 op_gt o_gt (me_varW (pv 1)) (weak me_int) (nomark _)) (mss_one (ms_par (ps_par (i := 0) (j := 1) rfl sc_divisor.nd rfl rfl (by decide) rfl rfl (ma_cons (me_var (pv 1)) (ma_cons (me_op2 op_modN o_mod (me_varW (pv 0)) (me_varW (pv 1))) ma_nil)) (by rfl)))))
  (mss_one (ms_ret (me_var (pv 0))))))
theorem d_divisor (T : Fx K mg) : Def P w K mg base 1 "divisor" 2 [] m_divisor := by
  obtain ⟨fd, F⟩ := T.f_divisor
  exact Def.mk' (ps := ["one", "other"]) (N := N_divisor) (k := 0) F T.g_divisor sc_divisor b_divisor ⟨[], [], .nil, F.bindsN (fun _ _ _ _ _ _ us hl => match us, hl with | [_, _], _ => rfl), fun _ _ => .nil⟩ (fun cdv A outer s H E hr => w_divisor T fd cdv A outer s H E hr)
abbrev N_is_share : List Str := ["thing"]
theorem sc_is_share : FnScope N_is_share ["thing"] (defScope (top 9)) := ⟨rfl, rfl, rfl, by decide +kernel, rfl, by decide +kernel, by decide +kernel⟩
theorem w_is_share (T : Fx K mg) (fd : FuncData) (cdv : Value) (A : Around) (outer : List Env) (s : Shared) (H : Hp) (E : XK) (hr : Room 1 (A.deeper (envOfC "is_share" (defScope (top 9)) s.heap.objs.size (He.ga K "is_share") cdv))) :
    PSs (cxOf (L2.CX P w) P w K mg base N_is_share "is_share" (defScope (top 9)) (He.ga K "is_share") cdv A outer s H E) (defBody (top 9)) (tS K (fun cls d _ H => E cls d H) b_is_share) := by
  have tk := tk_cx (P := P) (w := w) (K := K) (mg := mg) (base := base) (N := N_is_share) (qual := "is_share") (scope := defScope (top 9)) (f := He.ga K "is_share") (cd := cdv) (A := A) (outer := outer) (s := s) (H := H) (E := E)
  exact (mss_cons (ms_if (PW.pt (mw_or (mt_not (mt_truth (weak (me_callB call_isi c_isi (by rfl) T.z_isinstance (by decide +kernel) (maw_cons (me_varW (pv 0)) (maw_cons (weak (me_type (by rfl) T.z_tuple (by decide +kernel))) maw_nil)))))) (mw_or1 (mt_cmp2 (op_neD hr.units) o_ne (weak (me_callB call_len3 c_len (by rfl) T.z_len (by decide +kernel) (maw_cons (me_varW (pv 0)) maw_nil))) (weak me_int) (nomark _))))) (mss_one (ms_ret me_bl)) mss_nil)
  (mss_cons (ms_if (PW.pt (mw_or (mt_not (mt_truth (weak (me_call ((d_is_whole T).mono (by decide)) hr tk (by rfl) (alen_cons alen_nil) (ma_cons (me_ix ix_seq o_ix (me_varW (pv 0)) (weak me_int) (fun _ _ => rfl)) ma_nil))))) (mw_or (mt_not (mt_truth (weak (me_call ((d_is_whole T).mono (by decide)) hr tk (by rfl) (alen_cons alen_nil) (ma_cons (me_ix ix_seq o_ix (me_varW (pv 0)) (weak me_int) (fun _ _ => rfl)) ma_nil))))) (mw_or1 (mt_cmp2 op_lt o_lt (weak (me_ix ix_seq o_ix (me_varW (pv 0)) (weak me_int) (fun _ _ => rfl))) (weak me_int) (nomark _)))))) (mss_one (ms_ret me_bl)) mss_nil)
  (mss_one (ms_ret (me_cmp2 (op_eqD hr.units) o_eq (weak (me_call ((d_divisor T).mono (by decide)) hr tk (by rfl) (alen_cons (alen_cons alen_nil)) (ma_cons (me_ix ix_seq o_ix (me_varW (pv 0)) (weak me_int) (fun _ _ => rfl)) (ma_cons (me_ix ix_seq o_ix (me_varW (pv 0)) (weak me_int) (fun _ _ => rfl)) ma_nil)))) (weak me_int) (nomark _))))))
theorem d_is_share (T : Fx K mg) : Def P w K mg base 2 "is_share" 1 [] m_is_share := by
  obtain ⟨fd, F⟩ := T.f_is_share
  exact Def.mk' (ps := ["thing"]) (N := N_is_share) (k := 1) F T.g_is_share sc_is_share b_is_share ⟨[], [], .nil, F.bindsN (fun _ _ _ _ _ _ us hl => match us, hl with | [_], _ => rfl), fun _ _ => .nil⟩ (fun cdv A outer s H E hr => w_is_share T fd cdv A outer s H E hr)
abbrev N_share_text : List Str := ["one"]
theorem sc_share_text : FnScope N_share_text ["one"] (defScope (top 10)) := ⟨rfl, rfl, rfl, by decide +kernel, rfl, by decide +kernel, by decide +kernel⟩
theorem w_share_text (T : Fx K mg) (fd : FuncData) (cdv : Value) (A : Around) (outer : List Env) (s : Shared) (H : Hp) (E : XK) (hr : Room 0 (A.deeper (envOfC "share_text" (defScope (top 10)) s.heap.objs.size (He.ga K "share_text") cdv))) :
    PSs (cxOf (L2.CX P w) P w K mg base N_share_text "share_text" (defScope (top 10)) (He.ga K "share_text") cdv A outer s H E) (defBody (top 10)) (tS K (fun cls d _ H => E cls d H) b_share_text) := by
  have tk := tk_cx (P := P) (w := w) (K := K) (mg := mg) (base := base) (N := N_share_text) (qual := "share_text") (scope := defScope (top 10)) (f := He.ga K "share_text") (cd := cdv) (A := A) (outer := outer) (s := s) (H := H) (E := E)
  exact (mss_cons (ms_if (mt_cmp2 (op_eqD hr.units) o_eq (weak (me_ix ix_seq o_ix (me_varW (pv 0)) (weak me_int) (fun _ _ => rfl))) (weak me_int) (nomark _)) (mss_one (ms_ret (me_callTy call_str_int c_strI (by rfl) T.z_str (by decide +kernel) (maw_cons (weak (me_ix ix_seq o_ix (me_varW (pv 0)) (weak me_int) (fun _ _ => rfl))) maw_nil)))) mss_nil)
  (mss_one (ms_ret (me_joined (.cons (me_fmt (me_ix ix_seq o_ix (me_varW (pv 0)) (weak me_int) (fun _ _ => rfl))) (.cons me_str (.cons (me_fmt (me_ix ix_seq o_ix (me_varW (pv 0)) (weak me_int) (fun _ _ => rfl))) .nil)))))))
theorem d_share_text (T : Fx K mg) : Def P w K mg base 1 "share_text" 1 [] m_share_text := by
  obtain ⟨fd, F⟩ := T.f_share_text
  exact Def.mk' (ps := ["one"]) (N := N_share_text) (k := 0) F T.g_share_text sc_share_text b_share_text ⟨[], [], .nil, F.bindsN (fun _ _ _ _ _ _ us hl => match us, hl with | [_], _ => rfl), fun _ _ => .nil⟩ (fun cdv A outer s H E hr => w_share_text T fd cdv A outer s H E hr)
abbrev N_figures_read : List Str := ["text", "sign"]
theorem sc_figures_read : FnScope N_figures_read ["text"] (defScope (top 11)) := ⟨rfl, rfl, rfl, by decide +kernel, rfl, by decide +kernel, by decide +kernel⟩
theorem w_figures_read (T : Fx K mg) (fd : FuncData) (cdv : Value) (A : Around) (outer : List Env) (s : Shared) (H : Hp) (E : XK) (hr : Room 0 (A.deeper (envOfC "figures_read" (defScope (top 11)) s.heap.objs.size (He.ga K "figures_read") cdv))) :
    PSs (cxOf (L2.CX P w) P w K mg base N_figures_read "figures_read" (defScope (top 11)) (He.ga K "figures_read") cdv A outer s H E) (defBody (top 11)) (tS K (fun cls d _ H => E cls d H) b_figures_read) := by
  have tk := tk_cx (P := P) (w := w) (K := K) (mg := mg) (base := base) (N := N_figures_read) (qual := "figures_read") (scope := defScope (top 11)) (f := He.ga K "figures_read") (cd := cdv) (A := A) (outer := outer) (s := s) (H := H) (E := E)
  exact (mss_cons (ms_if (PW.pt (mw_or (mt_cmp2 op_eq_ss o_eqSS (me_varW (pv 0)) (weak me_str) (nomark _)) (mw_or (mt_cmp2 op_gt o_gt (weak (me_callB call_len3 c_len (by rfl) T.z_len (by decide +kernel) (maw_cons (me_varW (pv 0)) maw_nil))) (weak (me_g T.c_FIGURES (by rfl))) (nomark _)) (mw_or1 (PW.pt (mw_and (mt_cmp2 op_ne_ss o_neSS (me_varW (pv 0)) (weak me_str) (nomark _)) (mw_and1 (mt_cmp2 op_eq_ss o_eqSS (weak (me_ix ix_seq o_ix (me_varW (pv 0)) (weak me_int) (fun _ _ => rfl))) (weak me_str) (nomark _))))))))) (mss_one (ms_raise rfl tk (pmk_own PySem.F.excBase_ValueError T.x_NoShare.x T.x_NoShare.g T.x_NoShare.k (raises_own T.x_NoShare.b T.x_NoShare.t) (by rfl)))) mss_nil)
  (mss_cons (ms_for po_cx rfl (mi_str (me_var (pv 0))) (mg_name (pg_name (i := 1) sc_figures_read.nd rfl (Or.inl rfl))) (mss_one (ms_if (mt_cmp2 op_notin_str o_notinS (me_varW (pv 1)) (weak me_str) (by rfl)) (mss_one (ms_raise rfl tk (pmk_own PySem.F.excBase_ValueError T.x_NoShare.x T.x_NoShare.g T.x_NoShare.k (raises_own T.x_NoShare.b T.x_NoShare.t) (by rfl)))) mss_nil)))
  (mss_one (ms_ret (me_callTy (call_intA T.lim) c_intA (by rfl) T.z_int (by decide +kernel) (maw_cons (me_varW (pv 0)) maw_nil))))))
theorem d_figures_read (T : Fx K mg) : Def P w K mg base 1 "figures_read" 1 [] m_figures_read := by
  obtain ⟨fd, F⟩ := T.f_figures_read
  exact Def.mk' (ps := ["text"]) (N := N_figures_read) (k := 0) F T.g_figures_read sc_figures_read b_figures_read ⟨[], [], .nil, F.bindsN (fun _ _ _ _ _ _ us hl => match us, hl with | [_], _ => rfl), fun _ _ => .nil⟩ (fun cdv A outer s H E hr => w_figures_read T fd cdv A outer s H E hr)
abbrev N_whole_read : List Str := ["text", "number"]
theorem sc_whole_read : FnScope N_whole_read ["text"] (defScope (top 12)) := ⟨rfl, rfl, rfl, by decide +kernel, rfl, by decide +kernel, by decide +kernel⟩
theorem w_whole_read (T : Fx K mg) (fd : FuncData) (cdv : Value) (A : Around) (outer : List Env) (s : Shared) (H : Hp) (E : XK) (hr : Room 1 (A.deeper (envOfC "whole_read" (defScope (top 12)) s.heap.objs.size (He.ga K "whole_read") cdv))) :
    PSs (cxOf (L2.CX P w) P w K mg base N_whole_read "whole_read" (defScope (top 12)) (He.ga K "whole_read") cdv A outer s H E) (defBody (top 12)) (tS K (fun cls d _ H => E cls d H) b_whole_read) := by
  have tk := tk_cx (P := P) (w := w) (K := K) (mg := mg) (base := base) (N := N_whole_read) (qual := "whole_read") (scope := defScope (top 12)) (f := He.ga K "whole_read") (cd := cdv) (A := A) (outer := outer) (s := s) (H := H) (E := E)
  exact (mss_cons (ms_if (mt_not (mt_truth (weak (me_starts (me_var (pv 0)) me_str)))) (mss_one (ms_ret (me_call ((d_figures_read T).mono (by decide)) hr tk (by rfl) (alen_cons alen_nil) (ma_cons (me_var (pv 0)) ma_nil)))) mss_nil)
  (mss_cons (ms_set (ps_set (i := 1) sc_whole_read.nd rfl (Or.inl rfl) (me_call ((d_figures_read T).mono (by decide)) hr tk (by rfl) (alen_cons alen_nil) (ma_cons (me_cutA (me_varW (pv 0)) (mo_some me_int) mo_none) ma_nil))))
  (mss_cons (ms_if (mt_cmp2 (op_eqD hr.units) o_eq (me_varW (pv 1)) (weak me_int) (nomark _)) (mss_one (ms_raise rfl tk (pmk_own PySem.F.excBase_ValueError T.x_NoShare.x T.x_NoShare.g T.x_NoShare.k (raises_own T.x_NoShare.b T.x_NoShare.t) (by rfl)))) mss_nil)
  (mss_one (ms_ret (me_un un_neg o_neg (me_varW (pv 1))))))))
theorem d_whole_read (T : Fx K mg) : Def P w K mg base 2 "whole_read" 1 [] m_whole_read := by
  obtain ⟨fd, F⟩ := T.f_whole_read
  exact Def.mk' (ps := ["text"]) (N := N_whole_read) (k := 1) F T.g_whole_read sc_whole_read b_whole_read ⟨[], [], .nil, F.bindsN (fun _ _ _ _ _ _ us hl => match us, hl with | [_], _ => rfl), fun _ _ => .nil⟩ (fun cdv A outer s H E hr => w_whole_read T fd cdv A outer s H E hr)
abbrev N_read_share : List Str := ["text", "top", "stroke", "bottom", "found"]
theorem sc_read_share : FnScope N_read_share ["text"] (defScope (top 13)) := ⟨rfl, rfl, rfl, by decide +kernel, rfl, by decide +kernel, by decide +kernel⟩
theorem w_read_share (T : Fx K mg) (fd : FuncData) (cdv : Value) (A : Around) (outer : List Env) (s : Shared) (H : Hp) (E : XK) (hr : Room 2 (A.deeper (envOfC "read_share" (defScope (top 13)) s.heap.objs.size (He.ga K "read_share") cdv))) :
    PSs (cxOf (L2.CX P w) P w K mg base N_read_share "read_share" (defScope (top 13)) (He.ga K "read_share") cdv A outer s H E) (defBody (top 13)) (tS K (fun cls d _ H => E cls d H) b_read_share) := by
  have tk := tk_cx (P := P) (w := w) (K := K) (mg := mg) (base := base) (N := N_read_share) (qual := "read_share") (scope := defScope (top 13)) (f := He.ga K "read_share") (cd := cdv) (A := A) (outer := outer) (s := s) (H := H) (E := E)
  exact (mss_cons (ms_asg (me_part (me_var (pv 0)) me_str) (mg_tup rfl (glen_cons (glen_cons (glen_cons glen_nil))) (mgs_cons (mg_name (pg_name (i := 1) sc_read_share.nd rfl (Or.inl rfl))) (mgs_cons (mg_name (pg_name (i := 2) sc_read_share.nd rfl (Or.inl rfl))) (mgs_cons (mg_name (pg_name (i := 3) sc_read_share.nd rfl (Or.inl rfl))) mgs_nil)))))
  (mss_cons (ms_set (ps_set (i := 4) sc_read_share.nd rfl (Or.inl rfl) (me_tup (ma_cons (me_call ((d_whole_read T).mono (by decide)) hr tk (by rfl) (alen_cons alen_nil) (ma_cons (me_var (pv 1)) ma_nil)) (ma_cons me_int ma_nil)))))
  (mss_cons (ms_if (mt_cmp2 op_ne_ss o_neSS (me_varW (pv 2)) (weak me_str) (nomark _)) (mss_cons (ms_set (ps_set (i := 4) sc_read_share.nd rfl (Or.inl rfl) (me_tup (ma_cons (me_ix ix_seq o_ix (me_varW (pv 4)) (weak me_int) (fun _ _ => rfl)) (ma_cons (me_call ((d_figures_read T).mono (by decide)) hr tk (by rfl) (alen_cons alen_nil) (ma_cons (me_var (pv 3)) ma_nil)) ma_nil)))))
  (mss_one (ms_if (PW.pt (mw_or (mt_cmp2 op_lt o_lt (weak (me_ix ix_seq o_ix (me_varW (pv 4)) (weak me_int) (fun _ _ => rfl))) (weak me_int) (nomark _)) (mw_or1 (mt_not (mt_truth (weak (me_call ((d_is_share T).mono (by decide)) hr tk (by rfl) (alen_cons alen_nil) (ma_cons (me_var (pv 4)) ma_nil)))))))) (mss_one (ms_raise rfl tk (pmk_own PySem.F.excBase_ValueError T.x_NoShare.x T.x_NoShare.g T.x_NoShare.k (raises_own T.x_NoShare.b T.x_NoShare.t) (by rfl)))) mss_nil))) mss_nil)
  (mss_one (ms_ret (me_var (pv 4)))))))
theorem d_read_share (T : Fx K mg) : Def P w K mg base 3 "read_share" 1 [] m_read_share := by
  obtain ⟨fd, F⟩ := T.f_read_share
  exact Def.mk' (ps := ["text"]) (N := N_read_share) (k := 2) F T.g_read_share sc_read_share b_read_share ⟨[], [], .nil, F.bindsN (fun _ _ _ _ _ _ us hl => match us, hl with | [_], _ => rfl), fun _ _ => .nil⟩ (fun cdv A outer s H E hr => w_read_share T fd cdv A outer s H E hr)
abbrev N__law_cell : List Str := ["_law_script", "_law_k"]
theorem sc__law_cell : FnScope N__law_cell ["_law_script", "_law_k"] (defScope (top 15)) := ⟨rfl, rfl, rfl, by decide +kernel, rfl, by decide +kernel, by decide +kernel⟩
theorem w__law_cell (T : Fx K mg) (fd : FuncData) (cdv : Value) (A : Around) (outer : List Env) (s : Shared) (H : Hp) (E : XK) (hr : Room 0 (A.deeper (envOfC "_law_cell" (defScope (top 15)) s.heap.objs.size (He.ga K "_law_cell") cdv))) :
    PSs (cxOf (L2.CX P w) P w K mg base N__law_cell "_law_cell" (defScope (top 15)) (He.ga K "_law_cell") cdv A outer s H E) (defBody (top 15)) (tS K (fun cls d _ H => E cls d H) b__law_cell) := by
  have tk := tk_cx (P := P) (w := w) (K := K) (mg := mg) (base := base) (N := N__law_cell) (qual := "_law_cell") (scope := defScope (top 15)) (f := He.ga K "_law_cell") (cd := cdv) (A := A) (outer := outer) (s := s) (H := H) (E := E)
  exact (mss_cons (ms_if (mt_cmp2 (op_eqD hr.units) o_eq (weak (me_callB call_len3 c_len (by rfl) T.z_len (by decide +kernel) (maw_cons (me_varW (pv 0)) maw_nil))) (weak me_int) (nomark _)) (mss_one (ms_ret (me_op2 op_add4 o_add (weak (me_op2 op_mulW o_mul (weak me_int) (me_varW (pv 1)))) (weak me_int)))) mss_nil)
  (mss_one (ms_ret (me_callB call_abs c_abs (by rfl) T.z_abs (by decide +kernel) (maw_cons (weak (me_ix ix_seq o_ix (me_varW (pv 0)) (weak (me_op2 op_modN o_mod (me_varW (pv 1)) (weak (me_callB call_len3 c_len (by rfl) T.z_len (by decide +kernel) (maw_cons (me_varW (pv 0)) maw_nil))))) (fun _ _ => rfl))) maw_nil)))))
theorem d__law_cell (T : Fx K mg) : Def P w K mg base 1 "_law_cell" 2 [] m__law_cell := by
  obtain ⟨fd, F⟩ := T.f__law_cell
  exact Def.mk' (ps := ["_law_script", "_law_k"]) (N := N__law_cell) (k := 0) F T.g__law_cell sc__law_cell b__law_cell ⟨[], [], .nil, F.bindsN (fun _ _ _ _ _ _ us hl => match us, hl with | [_, _], _ => rfl), fun _ _ => .nil⟩ (fun cdv A outer s H E hr => w__law_cell T fd cdv A outer s H E hr)
abbrev N__law_mixed : List Str := ["_law_script", "_law_k", "_law_many", "_law_number"]
theorem sc__law_mixed : FnScope N__law_mixed ["_law_script", "_law_k", "_law_many"] (defScope (top 16)) := ⟨rfl, rfl, rfl, by decide +kernel, rfl, by decide +kernel, by decide +kernel⟩
theorem w__law_mixed (T : Fx K mg) (fd : FuncData) (cdv : Value) (A : Around) (outer : List Env) (s : Shared) (H : Hp) (E : XK) (hr : Room 1 (A.deeper (envOfC "_law_mixed" (defScope (top 16)) s.heap.objs.size (He.ga K "_law_mixed") cdv))) :
    PSs (cxOf (L2.CX P w) P w K mg base N__law_mixed "_law_mixed" (defScope (top 16)) (He.ga K "_law_mixed") cdv A outer s H E) (defBody (top 16)) (tS K (fun cls d _ H => E cls d H) b__law_mixed) := by
  have tk := tk_cx (P := P) (w := w) (K := K) (mg := mg) (base := base) (N := N__law_mixed) (qual := "_law_mixed") (scope := defScope (top 16)) (f := He.ga K "_law_mixed") (cd := cdv) (A := A) (outer := outer) (s := s) (H := H) (E := E)
  exact (mss_cons (ms_set (ps_set (i := 3) sc__law_mixed.nd rfl (Or.inl rfl) (me_op2 op_modN o_mod (weak (me_op2 op_pow o_pow (weak (me_op2 op_add4 o_add (weak (me_op2 op_mulW o_mul (weak (me_op2 op_add4 o_add (weak (me_op2 op_modN o_mod (weak (me_call ((d__law_cell T).mono (by decide)) hr tk (by rfl) (alen_cons (alen_cons alen_nil)) (ma_cons (me_var (pv 0)) (ma_cons (me_var (pv 1)) ma_nil)))) (weak me_int))) (weak me_int))) (weak (me_op2 op_add4 o_add (me_varW (pv 1)) (weak me_int))))) (weak (me_op2 op_mulW o_mul (weak me_int) (me_varW (pv 1)))))) (weak me_int))) (weak me_int))))
  (mss_one (ms_ret (me_op2 op_modN o_mod (weak (me_op2 op_fdivB o_div (me_varW (pv 3)) (weak me_int))) (me_varW (pv 2))))))
theorem d__law_mixed (T : Fx K mg) : Def P w K mg base 2 "_law_mixed" 3 [] m__law_mixed := by
  obtain ⟨fd, F⟩ := T.f__law_mixed
  exact Def.mk' (ps := ["_law_script", "_law_k", "_law_many"]) (N := N__law_mixed) (k := 1) F T.g__law_mixed sc__law_mixed b__law_mixed ⟨[], [], .nil, F.bindsN (fun _ _ _ _ _ _ us hl => match us, hl with | [_, _, _], _ => rfl), fun _ _ => .nil⟩ (fun cdv A outer s H E hr => w__law_mixed T fd cdv A outer s H E hr)
abbrev N__law_deck : List Str := ["_law_script", "_law_cell_here"]
theorem sc__law_deck : FnScope N__law_deck ["_law_script"] (defScope (top 17)) := ⟨rfl, rfl, rfl, by decide +kernel, rfl, by decide +kernel, by decide +kernel⟩
theorem w__law_deck (T : Fx K mg) (fd : FuncData) (cdv : Value) (A : Around) (outer : List Env) (s : Shared) (H : Hp) (E : XK) (hr : Room 0 (A.deeper (envOfC "_law_deck" (defScope (top 17)) s.heap.objs.size (He.ga K "_law_deck") cdv))) :
    PSs (cxOf (L2.CX P w) P w K mg base N__law_deck "_law_deck" (defScope (top 17)) (He.ga K "_law_deck") cdv A outer s H E) (defBody (top 17)) (tSd K b__law_deck) := by
  have tk := tk_cx (P := P) (w := w) (K := K) (mg := mg) (base := base) (N := N__law_deck) (qual := "_law_deck") (scope := defScope (top 17)) (f := He.ga K "_law_deck") (cd := cdv) (A := A) (outer := outer) (s := s) (H := H) (E := E)
  exact (mss_oneD (ms_retDk (W := fun cls d _ H => E cls d H) (pv 0) (mf_lc (own := [("_law_cell_here", 1)]) (ws := [1]) rfl sc__law_deck.nd (toO (mi_seq (me_var (pv 0)))) (blkOk_by (N := N__law_deck) (sc := defScope (top 17)) (by decide +kernel)) (by decide) (fun _ _ _ _ _ => (mg_name (pg_name (i := 1) sc__law_deck.nd rfl (Or.inl rfl)))) (fun _ _ _ _ _ => (mts_one (mt_cmp2 op_ge o_ge (weak (me_callB call_abs c_abs (by rfl) T.z_abs (by decide +kernel) (maw_cons (me_varW (pv 1)) maw_nil))) (weak (me_op2 op_pow o_pow (weak me_int) (weak me_int))) (nomark _)))) (fun _ _ _ _ _ => (me_callB call_abs c_abs (by rfl) T.z_abs (by decide +kernel) (maw_cons (me_varW (pv 1)) maw_nil))))))
theorem d__law_deck (T : Fx K mg) : DefD P w K mg base 1 "_law_deck" 1 m__law_deck := by
  obtain ⟨fd, F⟩ := T.f__law_deck
  exact DefD.mk' (ps := ["_law_script"]) (N := N__law_deck) (k := 0) F T.g__law_deck sc__law_deck b__law_deck ⟨[], .nil, F.bindsN (fun _ _ _ _ _ _ us hl => match us, hl with | [_], _ => rfl)⟩ (fun cdv A outer s H E hr => w__law_deck T fd cdv A outer s H E hr)
abbrev N__law_take : List Str := ["_law_deck_here", "_law_many", "_law_cell_here"]
theorem sc__law_take : FnScope N__law_take ["_law_deck_here", "_law_many"] (defScope (top 18)) := ⟨rfl, rfl, rfl, by decide +kernel, rfl, by decide +kernel, by decide +kernel⟩
theorem w__law_take (T : Fx K mg) (fd : FuncData) (cdv : Value) (A : Around) (outer : List Env) (s : Shared) (H : Hp) (E : XK) (hr : Room 2 (A.deeper (envOfC "_law_take" (defScope (top 18)) s.heap.objs.size (He.ga K "_law_take") cdv))) :
    PSs (cxOf (L2.CX P w) P w K mg base N__law_take "_law_take" (defScope (top 18)) (He.ga K "_law_take") cdv A outer s H E) (defBody (top 18)) (tS K (fun cls d _ H => E cls d H) b__law_take) := by
  have tk := tk_cx (P := P) (w := w) (K := K) (mg := mg) (base := base) (N := N__law_take) (qual := "_law_take") (scope := defScope (top 18)) (f := He.ga K "_law_take") (cd := cdv) (A := A) (outer := outer) (s := s) (H := H) (E := E)
  exact (mss_cons (ms_while po_cx (mt_cmp2 op_lt o_lt (weak (me_dk (j := 2) (pe_ix ix_list (pv 0) pe_int (fun _ _ => rfl)))) (weak (me_dkLen (pe_callB call_len3 (by rfl) T.z_len (by decide +kernel) (pa_cons (pe_ix ix_list (pv 0) pe_int (fun _ _ => rfl)) pa_nil)))) (nomark _)) (mss_cons (ms_set (ps_set (i := 2) sc__law_take.nd rfl (Or.inl rfl) (me_dkAt (pe_ix ix_list (pe_ix ix_list (pv 0) pe_int (fun _ _ => rfl)) (pe_ix ix_list (pv 0) pe_int (fun _ _ => rfl)) (fun _ _ => rfl)))))
  (mss_cons (ms_if (mt_cmp2 op_gt o_gt (me_varW (pv 2)) (weak me_int) (nomark _)) (mss_cons (ms_dkBig (ps_asg (me_op2 op_fdivB o_div (me_varW (pv 2)) (me_varW (pv 1))) (pg_sub (pe_ix ix_list (pv 0) pe_int (fun _ _ => rfl)) (pe_ix ix_list (pv 0) pe_int (fun _ _ => rfl)) set_list)))
  (mss_one (ms_ret (me_op2 op_modN o_mod (me_varW (pv 2)) (me_varW (pv 1)))))) mss_nil)
  (mss_one (ms_dkSet (j := 2) (ps_asg (me_op2 op_add4 o_add (weak (me_dk (j := 2) (pe_ix ix_list (pv 0) pe_int (fun _ _ => rfl)))) (weak me_int)) (pg_sub (pv 0) pe_int set_list)))))))
  (mss_cons (ms_dkSet (j := 3) (ps_asg (me_op2 op_add4 o_add (weak (me_dk (j := 3) (pe_ix ix_list (pv 0) pe_int (fun _ _ => rfl)))) (weak me_int)) (pg_sub (pv 0) pe_int set_list)))
  (mss_one (ms_ret (me_call ((d__law_mixed T).mono (by decide)) hr tk (by rfl) (alen_cons (alen_cons (alen_cons alen_nil))) (ma_cons (me_dk (j := 0) (pe_ix ix_list (pv 0) pe_int (fun _ _ => rfl))) (ma_cons (me_dk (j := 3) (pe_ix ix_list (pv 0) pe_int (fun _ _ => rfl))) (ma_cons (me_var (pv 1)) ma_nil))))))))
theorem d__law_take (T : Fx K mg) : Def P w K mg base 3 "_law_take" 2 [] m__law_take := by
  obtain ⟨fd, F⟩ := T.f__law_take
  exact Def.mk' (ps := ["_law_deck_here", "_law_many"]) (N := N__law_take) (k := 2) F T.g__law_take sc__law_take b__law_take ⟨[], [], .nil, F.bindsN (fun _ _ _ _ _ _ us hl => match us, hl with | [_, _], _ => rfl), fun _ _ => .nil⟩ (fun cdv A outer s H E hr => w__law_take T fd cdv A outer s H E hr)
abbrev N__law_gcd : List Str := ["_law_one", "_law_other", "_law_rest"]
theorem sc__law_gcd : FnScope N__law_gcd ["_law_one", "_law_other"] (defScope (top 19)) := ⟨rfl, rfl, rfl, by decide +kernel, rfl, by decide +kernel, by decide +kernel⟩
theorem w__law_gcd (T : Fx K mg) (fd : FuncData) (cdv : Value) (A : Around) (outer : List Env) (s : Shared) (H : Hp) (E : XK) (hr : Room 0 (A.deeper (envOfC "_law_gcd" (defScope (top 19)) s.heap.objs.size (He.ga K "_law_gcd") cdv))) :
    PSs (cxOf (L2.CX P w) P w K mg base N__law_gcd "_law_gcd" (defScope (top 19)) (He.ga K "_law_gcd") cdv A outer s H E) (defBody (top 19)) (tS K (fun cls d _ H => E cls d H) b__law_gcd) := by
  have tk := tk_cx (P := P) (w := w) (K := K) (mg := mg) (base := base) (N := N__law_gcd) (qual := "_law_gcd") (scope := defScope (top 19)) (f := He.ga K "_law_gcd") (cd := cdv) (A := A) (outer := outer) (s := s) (H := H) (E := E)
  exact (mss_cons (ms_set (ps_set (i := 0) sc__law_gcd.nd rfl (Or.inl rfl) (me_callB call_abs c_abs (by rfl) T.z_abs (by decide +kernel) (maw_cons (me_varW (pv 0)) maw_nil))))
  (mss_cons (ms_set (ps_set (i := 1) sc__law_gcd.nd rfl (Or.inl rfl) (me_callB call_abs c_abs (by rfl) T.z_abs (by decide +kernel) (maw_cons (me_varW (pv 1)) maw_nil))))
  (mss_cons (ms_while po_cx (mt_cmp2 op_gt o_gt (me_varW (pv 1)) (weak me_int) (nomark _)) (mss_cons (ms_set (ps_set (i := 2) sc__law_gcd.nd rfl (Or.inl rfl) (me_op2 op_modN o_mod (me_varW (pv 0)) (me_varW (pv 1)))))
  (mss_cons (ms_set (ps_set (i := 0) sc__law_gcd.nd rfl (Or.inl rfl) (me_var (pv 1))))
  (mss_one (ms_set (ps_set (i := 1) sc__law_gcd.nd rfl (Or.inl rfl) (me_var (pv 2))))))))
  (mss_one (ms_ret (me_var (pv 0)))))))
theorem d__law_gcd (T : Fx K mg) : Def P w K mg base 1 "_law_gcd" 2 [] m__law_gcd := by
  obtain ⟨fd, F⟩ := T.f__law_gcd
  exact Def.mk' (ps := ["_law_one", "_law_other"]) (N := N__law_gcd) (k := 0) F T.g__law_gcd sc__law_gcd b__law_gcd ⟨[], [], .nil, F.bindsN (fun _ _ _ _ _ _ us hl => match us, hl with | [_, _], _ => rfl), fun _ _ => .nil⟩ (fun cdv A outer s H E hr => w__law_gcd T fd cdv A outer s H E hr)
abbrev N__law_share : List Str := ["_law_top", "_law_bottom", "_law_found"]
theorem sc__law_share : FnScope N__law_share ["_law_top", "_law_bottom"] (defScope (top 20)) := ⟨rfl, rfl, rfl, by decide +kernel, rfl, by decide +kernel, by decide +kernel⟩
theorem w__law_share (T : Fx K mg) (fd : FuncData) (cdv : Value) (A : Around) (outer : List Env) (s : Shared) (H : Hp) (E : XK) (hr : Room 1 (A.deeper (envOfC "_law_share" (defScope (top 20)) s.heap.objs.size (He.ga K "_law_share") cdv))) :
    PSs (cxOf (L2.CX P w) P w K mg base N__law_share "_law_share" (defScope (top 20)) (He.ga K "_law_share") cdv A outer s H E) (defBody (top 20)) (tS K (fun cls d _ H => E cls d H) b__law_share) := by
  have tk := tk_cx (P := P) (w := w) (K := K) (mg := mg) (base := base) (N := N__law_share) (qual := "_law_share") (scope := defScope (top 20)) (f := He.ga K "_law_share") (cd := cdv) (A := A) (outer := outer) (s := s) (H := H) (E := E)
  exact (mss_cons (ms_if (mt_cmp2 op_lt o_lt (me_varW (pv 1)) (weak me_int) (nomark _)) (mss_cons (ms_set (ps_set (i := 0) sc__law_share.nd rfl (Or.inl rfl) (me_un un_neg o_neg (me_varW (pv 0)))))
  (mss_one (ms_set (ps_set (i := 1) sc__law_share.nd rfl (Or.inl rfl) (me_un un_neg o_neg (me_varW (pv 1))))))) mss_nil)
  (mss_cons (ms_set (ps_set (i := 2) sc__law_share.nd rfl (Or.inl rfl) (me_call ((d__law_gcd T).mono (by decide)) hr tk (by rfl) (alen_cons (alen_cons alen_nil)) (ma_cons (me_var (pv 0)) (ma_cons (me_var (pv 1)) ma_nil)))))
  (mss_one (ms_ret (me_tup (ma_cons (me_op2 op_fdivB o_div (me_varW (pv 0)) (me_varW (pv 2))) (ma_cons (me_op2 op_fdivB o_div (me_varW (pv 1)) (me_varW (pv 2))) ma_nil)))))))
theorem d__law_share (T : Fx K mg) : Def P w K mg base 2 "_law_share" 2 [] m__law_share := by
  obtain ⟨fd, F⟩ := T.f__law_share
  exact Def.mk' (ps := ["_law_top", "_law_bottom"]) (N := N__law_share) (k := 1) F T.g__law_share sc__law_share b__law_share ⟨[], [], .nil, F.bindsN (fun _ _ _ _ _ _ us hl => match us, hl with | [_, _], _ => rfl), fun _ _ => .nil⟩ (fun cdv A outer s H E hr => w__law_share T fd cdv A outer s H E hr)
abbrev N__law_whole : List Str := ["_law_deck_here", "_law_kind", "_law_number", "_law_turn"]
theorem sc__law_whole : FnScope N__law_whole ["_law_deck_here"] (defScope (top 21)) := ⟨rfl, rfl, rfl, by decide +kernel, rfl, by decide +kernel, by decide +kernel⟩
theorem w__law_whole (T : Fx K mg) (fd : FuncData) (cdv : Value) (A : Around) (outer : List Env) (s : Shared) (H : Hp) (E : XK) (hr : Room 3 (A.deeper (envOfC "_law_whole" (defScope (top 21)) s.heap.objs.size (He.ga K "_law_whole") cdv))) :
    PSs (cxOf (L2.CX P w) P w K mg base N__law_whole "_law_whole" (defScope (top 21)) (He.ga K "_law_whole") cdv A outer s H E) (defBody (top 21)) (tS K (fun cls d _ H => E cls d H) b__law_whole) := by
  have tk := tk_cx (P := P) (w := w) (K := K) (mg := mg) (base := base) (N := N__law_whole) (qual := "_law_whole") (scope := defScope (top 21)) (f := He.ga K "_law_whole") (cd := cdv) (A := A) (outer := outer) (s := s) (H := H) (E := E)
  exact (mss_cons (ms_set (ps_set (i := 1) sc__law_whole.nd rfl (Or.inl rfl) (me_callS ((d__law_take T).mono (by decide)) hr tk (by rfl) (alen_cons (alen_cons alen_nil)) (ma_cons (me_var (pv 0)) (ma_cons me_int ma_nil)))))
  (mss_cons (ms_if (mt_cmp2 (op_eqD hr.units) o_eq (me_varW (pv 1)) (weak me_int) (nomark _)) (mss_one (ms_ret (me_op2 op_sub o_sub (weak (me_callS ((d__law_take T).mono (by decide)) hr tk (by rfl) (alen_cons (alen_cons alen_nil)) (ma_cons (me_var (pv 0)) (ma_cons me_int ma_nil)))) (weak me_int)))) mss_nil)
  (mss_cons (ms_set (ps_set (i := 2) sc__law_whole.nd rfl (Or.inl rfl) me_int))
  (mss_cons (ms_for po_cx rfl (mi_range1 (by rfl) T.z_range (maw_cons (weak (me_ix ix_seq o_ix (weak (me_new (mf_lst (ma_cons me_int (ma_cons me_int (ma_cons me_int (ma_cons (me_op2 op_add4 o_add (weak me_int) (weak (me_callS ((d__law_take T).mono (by decide)) hr tk (by rfl) (alen_cons (alen_cons alen_nil)) (ma_cons (me_var (pv 0)) (ma_cons me_int ma_nil))))) ma_nil))))))) (me_varW (pv 1)) (fun _ _ => rfl))) maw_nil)) (mg_name (pg_name (i := 3) sc__law_whole.nd rfl (Or.inl rfl))) (mss_one (ms_set (ps_set (i := 2) sc__law_whole.nd rfl (Or.inl rfl) (me_op2 op_add4 o_add (weak (me_op2 op_mulW o_mul (me_varW (pv 2)) (weak (me_op2 op_pow o_pow (weak me_int) (weak me_int))))) (weak (me_callS ((d__law_take T).mono (by decide)) hr tk (by rfl) (alen_cons (alen_cons alen_nil)) (ma_cons (me_var (pv 0)) (ma_cons (me_op2 op_pow o_pow (weak me_int) (weak me_int)) ma_nil)))))))))
  (mss_one (ms_ret (me_op2 op_mulW o_mul (me_varW (pv 2)) (weak (me_op2 op_sub o_sub (weak me_int) (weak (me_op2 op_mulW o_mul (weak me_int) (weak (me_callS ((d__law_take T).mono (by decide)) hr tk (by rfl) (alen_cons (alen_cons alen_nil)) (ma_cons (me_var (pv 0)) (ma_cons me_int ma_nil)))))))))))))))
theorem d__law_whole (T : Fx K mg) : Def P w K mg base 4 "_law_whole" 1 [] m__law_whole := by
  obtain ⟨fd, F⟩ := T.f__law_whole
  exact Def.mk' (ps := ["_law_deck_here"]) (N := N__law_whole) (k := 3) F T.g__law_whole sc__law_whole b__law_whole ⟨[], [], .nil, F.bindsN (fun _ _ _ _ _ _ us hl => match us, hl with | [_], _ => rfl), fun _ _ => .nil⟩ (fun cdv A outer s H E hr => w__law_whole T fd cdv A outer s H E hr)
abbrev N__law_is_share : List Str := ["_law_thing", "_law_number"]
theorem sc__law_is_share : FnScope N__law_is_share ["_law_thing"] (defScope (top 22)) := ⟨rfl, rfl, rfl, by decide +kernel, rfl, by decide +kernel, by decide +kernel⟩
theorem w__law_is_share (T : Fx K mg) (fd : FuncData) (cdv : Value) (A : Around) (outer : List Env) (s : Shared) (H : Hp) (E : XK) (hr : Room 1 (A.deeper (envOfC "_law_is_share" (defScope (top 22)) s.heap.objs.size (He.ga K "_law_is_share") cdv))) :
    PSs (cxOf (L2.CX P w) P w K mg base N__law_is_share "_law_is_share" (defScope (top 22)) (He.ga K "_law_is_share") cdv A outer s H E) (defBody (top 22)) (tS K (fun cls d _ H => E cls d H) b__law_is_share) := by
  have tk := tk_cx (P := P) (w := w) (K := K) (mg := mg) (base := base) (N := N__law_is_share) (qual := "_law_is_share") (scope := defScope (top 22)) (f := He.ga K "_law_is_share") (cd := cdv) (A := A) (outer := outer) (s := s) (H := H) (E := E)
  exact (mss_cons (ms_if (PW.pt (mw_or (mt_not (mt_truth (weak (me_callB call_isi c_isi (by rfl) T.z_isinstance (by decide +kernel) (maw_cons (me_varW (pv 0)) (maw_cons (weak (me_type (by rfl) T.z_tuple (by decide +kernel))) maw_nil)))))) (mw_or1 (mt_cmp2 (op_neD hr.units) o_ne (weak (me_callB call_len3 c_len (by rfl) T.z_len (by decide +kernel) (maw_cons (me_varW (pv 0)) maw_nil))) (weak me_int) (nomark _))))) (mss_one (ms_ret me_bl)) mss_nil)
  (mss_cons (ms_for po_cx rfl (mi_seq (me_var (pv 0))) (mg_name (pg_name (i := 1) sc__law_is_share.nd rfl (Or.inl rfl))) (mss_one (ms_if (PW.pt (mw_or (mt_not (mt_truth (weak (me_callB call_isi c_isi (by rfl) T.z_isinstance (by decide +kernel) (maw_cons (me_varW (pv 1)) (maw_cons (weak (me_type (by rfl) T.z_int (by decide +kernel))) maw_nil)))))) (mw_or1 (mt_truth (weak (me_callB call_isi c_isi (by rfl) T.z_isinstance (by decide +kernel) (maw_cons (me_varW (pv 1)) (maw_cons (weak (me_type (by rfl) T.z_bool (by decide +kernel))) maw_nil)))))))) (mss_one (ms_ret me_bl)) mss_nil)))
  (mss_one (ms_ret (me_and (me_cmp2 op_ge o_ge (weak (me_ix ix_seq o_ix (me_varW (pv 0)) (weak me_int) (fun _ _ => rfl))) (weak me_int) (nomark _)) (me_one (me_cmp2 (op_eqD hr.units) o_eq (weak (me_call ((d__law_gcd T).mono (by decide)) hr tk (by rfl) (alen_cons (alen_cons alen_nil)) (ma_cons (me_ix ix_seq o_ix (me_varW (pv 0)) (weak me_int) (fun _ _ => rfl)) (ma_cons (me_ix ix_seq o_ix (me_varW (pv 0)) (weak me_int) (fun _ _ => rfl)) ma_nil)))) (weak me_int) (nomark _))))))))
theorem d__law_is_share (T : Fx K mg) : Def P w K mg base 2 "_law_is_share" 1 [] m__law_is_share := by
  obtain ⟨fd, F⟩ := T.f__law_is_share
  exact Def.mk' (ps := ["_law_thing"]) (N := N__law_is_share) (k := 1) F T.g__law_is_share sc__law_is_share b__law_is_share ⟨[], [], .nil, F.bindsN (fun _ _ _ _ _ _ us hl => match us, hl with | [_], _ => rfl), fun _ _ => .nil⟩ (fun cdv A outer s H E hr => w__law_is_share T fd cdv A outer s H E hr)
abbrev N__law_drawn : List Str := ["_law_deck_here", "_law_great", "_law_number"]
theorem sc__law_drawn : FnScope N__law_drawn ["_law_deck_here"] (defScope (top 23)) := ⟨rfl, rfl, rfl, by decide +kernel, rfl, by decide +kernel, by decide +kernel⟩
theorem w__law_drawn (T : Fx K mg) (fd : FuncData) (cdv : Value) (A : Around) (outer : List Env) (s : Shared) (H : Hp) (E : XK) (hr : Room 4 (A.deeper (envOfC "_law_drawn" (defScope (top 23)) s.heap.objs.size (He.ga K "_law_drawn") cdv))) :
    PSs (cxOf (L2.CX P w) P w K mg base N__law_drawn "_law_drawn" (defScope (top 23)) (He.ga K "_law_drawn") cdv A outer s H E) (defBody (top 23)) (tS K (fun cls d _ H => E cls d H) b__law_drawn) := by
  have tk := tk_cx (P := P) (w := w) (K := K) (mg := mg) (base := base) (N := N__law_drawn) (qual := "_law_drawn") (scope := defScope (top 23)) (f := He.ga K "_law_drawn") (cd := cdv) (A := A) (outer := outer) (s := s) (H := H) (E := E)
  exact (mss_cons (ms_if (mt_cmp2 (op_eqD hr.units) o_eq (weak (me_callS ((d__law_take T).mono (by decide)) hr tk (by rfl) (alen_cons (alen_cons alen_nil)) (ma_cons (me_var (pv 0)) (ma_cons me_int ma_nil)))) (weak me_int) (nomark _)) (mss_cons (ms_set (ps_set (i := 1) sc__law_drawn.nd rfl (Or.inl rfl) (me_callTy (call_intA T.lim) c_intA (by rfl) T.z_int (by decide +kernel) (maw_cons (weak (me_op2 op_mulS o_mulS (weak me_str) (weak (me_ix ix_seq o_ix (weak (me_new (mf_lst (ma_cons me_int (ma_cons me_int (ma_cons me_int ma_nil)))))) (weak (me_callS ((d__law_take T).mono (by decide)) hr tk (by rfl) (alen_cons (alen_cons alen_nil)) (ma_cons (me_var (pv 0)) (ma_cons me_int ma_nil)))) (fun _ _ => rfl))))) maw_nil))))
  (mss_one (ms_ret (me_ix ix_seq o_ix (weak (me_new (mf_lst (ma_cons (me_tup (ma_cons (me_var (pv 1)) (ma_cons me_int ma_nil))) (ma_cons (me_tup (ma_cons (me_un un_neg o_neg (me_varW (pv 1))) (ma_cons me_int ma_nil))) (ma_cons (me_tup (ma_cons me_int (ma_cons (me_var (pv 1)) ma_nil))) (ma_cons (me_tup (ma_cons (me_op2 op_sub o_sub (me_varW (pv 1)) (weak me_int)) (ma_cons (me_var (pv 1)) ma_nil))) ma_nil))))))) (weak (me_callS ((d__law_take T).mono (by decide)) hr tk (by rfl) (alen_cons (alen_cons alen_nil)) (ma_cons (me_var (pv 0)) (ma_cons me_int ma_nil)))) (fun _ _ => rfl))))) mss_nil)
  (mss_cons (ms_set (ps_set (i := 2) sc__law_drawn.nd rfl (Or.inl rfl) (me_callS ((d__law_whole T).mono (by decide)) hr tk (by rfl) (alen_cons alen_nil) (ma_cons (me_var (pv 0)) ma_nil))))
  (mss_one (ms_ret (me_call ((d__law_share T).mono (by decide)) hr tk (by rfl) (alen_cons (alen_cons alen_nil)) (ma_cons (me_var (pv 2)) (ma_cons (me_ix ix_seq o_ix (weak (me_new (mf_lst (ma_cons me_int (ma_cons (me_callB (call_max2 rfl) c_max2 (by rfl) T.z_max (by decide +kernel) (maw_cons (weak me_int) (maw_cons (weak (me_callB call_abs c_abs (by rfl) T.z_abs (by decide +kernel) (maw_cons (weak (me_callS ((d__law_whole T).mono (by decide)) hr tk (by rfl) (alen_cons alen_nil) (ma_cons (me_var (pv 0)) ma_nil))) maw_nil))) maw_nil))) (ma_cons (me_op2 op_add4 o_add (weak me_int) (weak (me_callS ((d__law_take T).mono (by decide)) hr tk (by rfl) (alen_cons (alen_cons alen_nil)) (ma_cons (me_var (pv 0)) (ma_cons me_int ma_nil))))) ma_nil)))))) (weak (me_callS ((d__law_take T).mono (by decide)) hr tk (by rfl) (alen_cons (alen_cons alen_nil)) (ma_cons (me_var (pv 0)) (ma_cons me_int ma_nil)))) (fun _ _ => rfl)) ma_nil)))))))
theorem d__law_drawn (T : Fx K mg) : Def P w K mg base 5 "_law_drawn" 1 [] m__law_drawn := by
  obtain ⟨fd, F⟩ := T.f__law_drawn
  exact Def.mk' (ps := ["_law_deck_here"]) (N := N__law_drawn) (k := 4) F T.g__law_drawn sc__law_drawn b__law_drawn ⟨[], [], .nil, F.bindsN (fun _ _ _ _ _ _ us hl => match us, hl with | [_], _ => rfl), fun _ _ => .nil⟩ (fun cdv A outer s H E hr => w__law_drawn T fd cdv A outer s H E hr)
abbrev N__law_text : List Str := ["_law_one"]
theorem sc__law_text : FnScope N__law_text ["_law_one"] (defScope (top 24)) := ⟨rfl, rfl, rfl, by decide +kernel, rfl, by decide +kernel, by decide +kernel⟩
theorem w__law_text (T : Fx K mg) (fd : FuncData) (cdv : Value) (A : Around) (outer : List Env) (s : Shared) (H : Hp) (E : XK) (hr : Room 0 (A.deeper (envOfC "_law_text" (defScope (top 24)) s.heap.objs.size (He.ga K "_law_text") cdv))) :
    PSs (cxOf (L2.CX P w) P w K mg base N__law_text "_law_text" (defScope (top 24)) (He.ga K "_law_text") cdv A outer s H E) (defBody (top 24)) (tS K (fun cls d _ H => E cls d H) b__law_text) := by
  have tk := tk_cx (P := P) (w := w) (K := K) (mg := mg) (base := base) (N := N__law_text) (qual := "_law_text") (scope := defScope (top 24)) (f := He.ga K "_law_text") (cd := cdv) (A := A) (outer := outer) (s := s) (H := H) (E := E)
  exact (mss_cons (ms_if (mt_cmp2 (op_eqD hr.units) o_eq (weak (me_ix ix_seq o_ix (me_varW (pv 0)) (weak me_int) (fun _ _ => rfl))) (weak me_int) (nomark _)) (mss_one (ms_ret (me_callTy call_str_int c_strI (by rfl) T.z_str (by decide +kernel) (maw_cons (weak (me_ix ix_seq o_ix (me_varW (pv 0)) (weak me_int) (fun _ _ => rfl))) maw_nil)))) mss_nil)
  (mss_one (ms_ret (me_op2 op_add4 o_add (weak (me_op2 op_add4 o_add (weak (me_callTy call_str_int c_strI (by rfl) T.z_str (by decide +kernel) (maw_cons (weak (me_ix ix_seq o_ix (me_varW (pv 0)) (weak me_int) (fun _ _ => rfl))) maw_nil))) (weak me_str))) (weak (me_callTy call_str_int c_strI (by rfl) T.z_str (by decide +kernel) (maw_cons (weak (me_ix ix_seq o_ix (me_varW (pv 0)) (weak me_int) (fun _ _ => rfl))) maw_nil)))))))
theorem d__law_text (T : Fx K mg) : Def P w K mg base 1 "_law_text" 1 [] m__law_text := by
  obtain ⟨fd, F⟩ := T.f__law_text
  exact Def.mk' (ps := ["_law_one"]) (N := N__law_text) (k := 0) F T.g__law_text sc__law_text b__law_text ⟨[], [], .nil, F.bindsN (fun _ _ _ _ _ _ us hl => match us, hl with | [_], _ => rfl), fun _ _ => .nil⟩ (fun cdv A outer s H E hr => w__law_text T fd cdv A outer s H E hr)
abbrev N__law_sign : List Str := ["_law_deck_here", "_law_signs", "_law_near"]
theorem sc__law_sign : FnScope N__law_sign ["_law_deck_here"] (defScope (top 25)) := ⟨rfl, rfl, rfl, by decide +kernel, rfl, by decide +kernel, by decide +kernel⟩
theorem w__law_sign (T : Fx K mg) (fd : FuncData) (cdv : Value) (A : Around) (outer : List Env) (s : Shared) (H : Hp) (E : XK) (hr : Room 3 (A.deeper (envOfC "_law_sign" (defScope (top 25)) s.heap.objs.size (He.ga K "_law_sign") cdv))) :
    PSs (cxOf (L2.CX P w) P w K mg base N__law_sign "_law_sign" (defScope (top 25)) (He.ga K "_law_sign") cdv A outer s H E) (defBody (top 25)) (tS K (fun cls d _ H => E cls d H) b__law_sign) := by
  have tk := tk_cx (P := P) (w := w) (K := K) (mg := mg) (base := base) (N := N__law_sign) (qual := "_law_sign") (scope := defScope (top 25)) (f := He.ga K "_law_sign") (cd := cdv) (A := A) (outer := outer) (s := s) (H := H) (E := E)
  exact (mss_cons (ms_set (ps_set (i := 1) sc__law_sign.nd rfl (Or.inl rfl) me_str))
  (mss_cons (ms_set (ps_set (i := 2) sc__law_sign.nd rfl (Or.inl rfl) (me_new (mf_lst (ma_cons me_str (ma_cons me_str (ma_cons me_str (ma_cons me_str (ma_cons me_str (ma_cons me_str (ma_cons me_str (ma_cons me_str ma_nil))))))))))))
  (mss_cons (ms_if (mt_cmp2 (op_eqD hr.units) o_eq (weak (me_callS ((d__law_take T).mono (by decide)) hr tk (by rfl) (alen_cons (alen_cons alen_nil)) (ma_cons (me_var (pv 0)) (ma_cons me_int ma_nil)))) (weak me_int) (nomark _)) (mss_one (ms_ret (me_ix ix_seq o_ix (me_varW (pv 2)) (weak (me_callS ((d__law_take T).mono (by decide)) hr tk (by rfl) (alen_cons (alen_cons alen_nil)) (ma_cons (me_var (pv 0)) (ma_cons me_int ma_nil)))) (fun _ _ => rfl)))) mss_nil)
  (mss_one (ms_ret (me_ix ix_seq o_ix (me_varW (pv 1)) (weak (me_callS ((d__law_take T).mono (by decide)) hr tk (by rfl) (alen_cons (alen_cons alen_nil)) (ma_cons (me_var (pv 0)) (ma_cons (me_callB call_len3 c_len (by rfl) T.z_len (by decide +kernel) (maw_cons (me_varW (pv 1)) maw_nil)) ma_nil)))) (fun _ _ => rfl)))))))
theorem d__law_sign (T : Fx K mg) : Def P w K mg base 4 "_law_sign" 1 [] m__law_sign := by
  obtain ⟨fd, F⟩ := T.f__law_sign
  exact Def.mk' (ps := ["_law_deck_here"]) (N := N__law_sign) (k := 3) F T.g__law_sign sc__law_sign b__law_sign ⟨[], [], .nil, F.bindsN (fun _ _ _ _ _ _ us hl => match us, hl with | [_], _ => rfl), fun _ _ => .nil⟩ (fun cdv A outer s H E hr => w__law_sign T fd cdv A outer s H E hr)
abbrev N__law_bent : List Str := ["_law_deck_here", "_law_one", "_law_kind", "_law_text_here", "_law_at", "_law_two", "_law_part"]
theorem sc__law_bent : FnScope N__law_bent ["_law_deck_here", "_law_one"] (defScope (top 26)) := ⟨rfl, rfl, rfl, by decide +kernel, rfl, by decide +kernel, by decide +kernel⟩
theorem w__law_bent (T : Fx K mg) (fd : FuncData) (cdv : Value) (A : Around) (outer : List Env) (s : Shared) (H : Hp) (E : XK) (hr : Room 4 (A.deeper (envOfC "_law_bent" (defScope (top 26)) s.heap.objs.size (He.ga K "_law_bent") cdv))) :
    PSs (cxOf (L2.CX P w) P w K mg base N__law_bent "_law_bent" (defScope (top 26)) (He.ga K "_law_bent") cdv A outer s H E) (defBody (top 26)) (tS K (fun cls d _ H => E cls d H) b__law_bent) := by
  have tk := tk_cx (P := P) (w := w) (K := K) (mg := mg) (base := base) (N := N__law_bent) (qual := "_law_bent") (scope := defScope (top 26)) (f := He.ga K "_law_bent") (cd := cdv) (A := A) (outer := outer) (s := s) (H := H) (E := E)
  exact (mss_cons (ms_set (ps_set (i := 2) sc__law_bent.nd rfl (Or.inl rfl) (me_callS ((d__law_take T).mono (by decide)) hr tk (by rfl) (alen_cons (alen_cons alen_nil)) (ma_cons (me_var (pv 0)) (ma_cons me_int ma_nil)))))
  (mss_cons (ms_set (ps_set (i := 3) sc__law_bent.nd rfl (Or.inl rfl) (me_call ((d__law_text T).mono (by decide)) hr tk (by rfl) (alen_cons alen_nil) (ma_cons (me_var (pv 1)) ma_nil))))
  (mss_cons (ms_set (ps_set (i := 4) sc__law_bent.nd rfl (Or.inl rfl) (me_callS ((d__law_take T).mono (by decide)) hr tk (by rfl) (alen_cons (alen_cons alen_nil)) (ma_cons (me_var (pv 0)) (ma_cons (me_op2 op_add4 o_add (weak (me_callB call_len3 c_len (by rfl) T.z_len (by decide +kernel) (maw_cons (me_varW (pv 3)) maw_nil))) (weak me_int)) ma_nil)))))
  (mss_cons (ms_if (mt_cmp2 (op_eqD hr.units) o_eq (me_varW (pv 2)) (weak me_int) (nomark _)) (mss_one (ms_ret (me_op2 op_add4 o_add (weak (me_op2 op_add4 o_add (weak (me_cutA (me_varW (pv 3)) mo_none (mo_some (me_var (pv 4))))) (weak (me_callS ((d__law_sign T).mono (by decide)) hr tk (by rfl) (alen_cons alen_nil) (ma_cons (me_var (pv 0)) ma_nil))))) (weak (me_cutA (me_varW (pv 3)) (mo_some (me_var (pv 4))) mo_none))))) mss_nil)
  (mss_cons (ms_if (mt_cmp2 (op_eqD hr.units) o_eq (me_varW (pv 2)) (weak me_int) (nomark _)) (mss_one (ms_ret (me_op2 op_add4 o_add (weak (me_op2 op_add4 o_add (weak (me_cutA (me_varW (pv 3)) mo_none (mo_some (me_var (pv 4))))) (weak (me_callS ((d__law_sign T).mono (by decide)) hr tk (by rfl) (alen_cons alen_nil) (ma_cons (me_var (pv 0)) ma_nil))))) (weak (me_cutA (me_varW (pv 3)) (mo_some (me_op2 op_add4 o_add (me_varW (pv 4)) (weak me_int))) mo_none))))) mss_nil)
  (mss_cons (ms_if (mt_cmp2 (op_eqD hr.units) o_eq (me_varW (pv 2)) (weak me_int) (nomark _)) (mss_one (ms_ret (me_op2 op_add4 o_add (weak (me_cutA (me_varW (pv 3)) mo_none (mo_some (me_var (pv 4))))) (weak (me_cutA (me_varW (pv 3)) (mo_some (me_op2 op_add4 o_add (me_varW (pv 4)) (weak me_int))) mo_none))))) mss_nil)
  (mss_cons (ms_if (mt_cmp2 (op_eqD hr.units) o_eq (me_varW (pv 2)) (weak me_int) (nomark _)) (mss_cons (ms_set (ps_set (i := 5) sc__law_bent.nd rfl (Or.inl rfl) (me_cutA (me_varW (pv 3)) (mo_some (me_var (pv 4))) (mo_some (me_op2 op_add4 o_add (me_varW (pv 4)) (weak me_int))))))
  (mss_one (ms_ret (me_op2 op_add4 o_add (weak (me_op2 op_add4 o_add (weak (me_op2 op_add4 o_add (weak (me_cutA (me_varW (pv 3)) mo_none (mo_some (me_var (pv 4))))) (weak (me_cutA (me_varW (pv 5)) (mo_some me_int) mo_none)))) (weak (me_cutA (me_varW (pv 5)) mo_none (mo_some me_int))))) (weak (me_cutA (me_varW (pv 3)) (mo_some (me_op2 op_add4 o_add (me_varW (pv 4)) (weak me_int))) mo_none)))))) mss_nil)
  (mss_cons (ms_if (mt_cmp2 (op_eqD hr.units) o_eq (me_varW (pv 2)) (weak me_int) (nomark _)) (mss_one (ms_ret (me_op2 op_add4 o_add (weak (me_ix ix_seq o_ix (weak (me_new (mf_lst (ma_cons me_str (ma_cons me_str (ma_cons me_str (ma_cons me_str (ma_cons me_str (ma_cons me_str (ma_cons me_str (ma_cons me_str ma_nil))))))))))) (weak (me_callS ((d__law_take T).mono (by decide)) hr tk (by rfl) (alen_cons (alen_cons alen_nil)) (ma_cons (me_var (pv 0)) (ma_cons me_int ma_nil)))) (fun _ _ => rfl))) (me_varW (pv 3))))) mss_nil)
  (mss_cons (ms_if (mt_cmp2 (op_eqD hr.units) o_eq (me_varW (pv 2)) (weak me_int) (nomark _)) (mss_one (ms_ret (me_op2 op_add4 o_add (me_varW (pv 3)) (weak (me_ix ix_seq o_ix (weak (me_new (mf_lst (ma_cons me_str (ma_cons me_str (ma_cons me_str (ma_cons me_str (ma_cons me_str (ma_cons me_str (ma_cons me_str (ma_cons me_str ma_nil))))))))))) (weak (me_callS ((d__law_take T).mono (by decide)) hr tk (by rfl) (alen_cons (alen_cons alen_nil)) (ma_cons (me_var (pv 0)) (ma_cons me_int ma_nil)))) (fun _ _ => rfl)))))) mss_nil)
  (mss_cons (ms_if (mt_cmp2 (op_eqD hr.units) o_eq (me_varW (pv 2)) (weak me_int) (nomark _)) (mss_cons (ms_set (ps_set (i := 6) sc__law_bent.nd rfl (Or.inl rfl) (me_op2 op_add4 o_add (weak me_int) (weak (me_callS ((d__law_take T).mono (by decide)) hr tk (by rfl) (alen_cons (alen_cons alen_nil)) (ma_cons (me_var (pv 0)) (ma_cons me_int ma_nil)))))))
  (mss_one (ms_ret (me_op2 op_add4 o_add (weak (me_op2 op_add4 o_add (weak (me_callTy call_str_int c_strI (by rfl) T.z_str (by decide +kernel) (maw_cons (weak (me_op2 op_mulW o_mul (me_varW (pv 6)) (weak (me_ix ix_seq o_ix (me_varW (pv 1)) (weak me_int) (fun _ _ => rfl))))) maw_nil))) (weak me_str))) (weak (me_callTy call_str_int c_strI (by rfl) T.z_str (by decide +kernel) (maw_cons (weak (me_op2 op_mulW o_mul (me_varW (pv 6)) (weak (me_ix ix_seq o_ix (me_varW (pv 1)) (weak me_int) (fun _ _ => rfl))))) maw_nil))))))) mss_nil)
  (mss_one (ms_ret (me_ix ix_seq o_ix (weak (me_new (mf_lst (ma_cons me_str (ma_cons me_str (ma_cons me_str (ma_cons me_str (ma_cons me_str (ma_cons me_str (ma_cons me_str (ma_cons me_str ma_nil))))))))))) (weak (me_callS ((d__law_take T).mono (by decide)) hr tk (by rfl) (alen_cons (alen_cons alen_nil)) (ma_cons (me_var (pv 0)) (ma_cons me_int ma_nil)))) (fun _ _ => rfl))))))))))))))
theorem d__law_bent (T : Fx K mg) : Def P w K mg base 5 "_law_bent" 2 [] m__law_bent := by
  obtain ⟨fd, F⟩ := T.f__law_bent
  exact Def.mk' (ps := ["_law_deck_here", "_law_one"]) (N := N__law_bent) (k := 4) F T.g__law_bent sc__law_bent b__law_bent ⟨[], [], .nil, F.bindsN (fun _ _ _ _ _ _ us hl => match us, hl with | [_, _], _ => rfl), fun _ _ => .nil⟩ (fun cdv A outer s H E hr => w__law_bent T fd cdv A outer s H E hr)
abbrev N__law_figures : List Str := ["_law_text_here", "_law_sign_here"]
theorem sc__law_figures : FnScope N__law_figures ["_law_text_here"] (defScope (top 27)) := ⟨rfl, rfl, rfl, by decide +kernel, rfl, by decide +kernel, by decide +kernel⟩
theorem w__law_figures (T : Fx K mg) (fd : FuncData) (cdv : Value) (A : Around) (outer : List Env) (s : Shared) (H : Hp) (E : XK) (hr : Room 0 (A.deeper (envOfC "_law_figures" (defScope (top 27)) s.heap.objs.size (He.ga K "_law_figures") cdv))) :
    PSs (cxOf (L2.CX P w) P w K mg base N__law_figures "_law_figures" (defScope (top 27)) (He.ga K "_law_figures") cdv A outer s H E) (defBody (top 27)) (tS K (fun cls d _ H => E cls d H) b__law_figures) := by
  have tk := tk_cx (P := P) (w := w) (K := K) (mg := mg) (base := base) (N := N__law_figures) (qual := "_law_figures") (scope := defScope (top 27)) (f := He.ga K "_law_figures") (cd := cdv) (A := A) (outer := outer) (s := s) (H := H) (E := E)
  exact (mss_cons (ms_if (PW.pt (mw_or (mt_cmp2 op_eq_ss o_eqSS (me_varW (pv 0)) (weak me_str) (nomark _)) (mw_or (mt_cmp2 op_gt o_gt (weak (me_callB call_len3 c_len (by rfl) T.z_len (by decide +kernel) (maw_cons (me_varW (pv 0)) maw_nil))) (weak me_int) (nomark _)) (mw_or1 (PW.pt (mw_and (mt_cmp2 op_eq_ss o_eqSS (weak (me_ix ix_seq o_ix (me_varW (pv 0)) (weak me_int) (fun _ _ => rfl))) (weak me_str) (nomark _)) (mw_and1 (mt_cmp2 op_gt o_gt (weak (me_callB call_len3 c_len (by rfl) T.z_len (by decide +kernel) (maw_cons (me_varW (pv 0)) maw_nil))) (weak me_int) (nomark _))))))))) (mss_one (ms_ret me_non)) mss_nil)
  (mss_cons (ms_for po_cx rfl (mi_str (me_var (pv 0))) (mg_name (pg_name (i := 1) sc__law_figures.nd rfl (Or.inl rfl))) (mss_one (ms_if (mt_cmp2 op_notin_str o_notinS (me_varW (pv 1)) (weak me_str) (by rfl)) (mss_one (ms_ret me_non)) mss_nil)))
  (mss_one (ms_ret (me_callTy (call_intA T.lim) c_intA (by rfl) T.z_int (by decide +kernel) (maw_cons (me_varW (pv 0)) maw_nil))))))
theorem d__law_figures (T : Fx K mg) : Def P w K mg base 1 "_law_figures" 1 [] m__law_figures := by
  obtain ⟨fd, F⟩ := T.f__law_figures
  exact Def.mk' (ps := ["_law_text_here"]) (N := N__law_figures) (k := 0) F T.g__law_figures sc__law_figures b__law_figures ⟨[], [], .nil, F.bindsN (fun _ _ _ _ _ _ us hl => match us, hl with | [_], _ => rfl), fun _ _ => .nil⟩ (fun cdv A outer s H E hr => w__law_figures T fd cdv A outer s H E hr)
abbrev N__law_read : List Str := ["_law_text_here", "_law_parts", "_law_below", "_law_number", "_law_beneath"]
theorem sc__law_read : FnScope N__law_read ["_law_text_here"] (defScope (top 28)) := ⟨rfl, rfl, rfl, by decide +kernel, rfl, by decide +kernel, by decide +kernel⟩
theorem w__law_read (T : Fx K mg) (fd : FuncData) (cdv : Value) (A : Around) (outer : List Env) (s : Shared) (H : Hp) (E : XK) (hr : Room 1 (A.deeper (envOfC "_law_read" (defScope (top 28)) s.heap.objs.size (He.ga K "_law_read") cdv))) :
    PSs (cxOf (L2.CX P w) P w K mg base N__law_read "_law_read" (defScope (top 28)) (He.ga K "_law_read") cdv A outer s H E) (defBody (top 28)) (tS K (fun cls d _ H => E cls d H) b__law_read) := by
  have tk := tk_cx (P := P) (w := w) (K := K) (mg := mg) (base := base) (N := N__law_read) (qual := "_law_read") (scope := defScope (top 28)) (f := He.ga K "_law_read") (cd := cdv) (A := A) (outer := outer) (s := s) (H := H) (E := E)
  exact (mss_cons (ms_set (ps_set (i := 1) sc__law_read.nd rfl (Or.inl rfl) (me_split (me_var (pv 0)) me_str)))
  (mss_cons (ms_set (ps_set (i := 2) sc__law_read.nd rfl (Or.inl rfl) (me_cmp2 op_eq_ss o_eqSS (weak (me_cutA (weak (me_ix ix_seq o_ix (me_varW (pv 1)) (weak me_int) (fun _ _ => rfl))) mo_none (mo_some me_int))) (weak me_str) (nomark _))))
  (mss_cons (ms_set (ps_set (i := 3) sc__law_read.nd rfl (Or.inl rfl) (me_call ((d__law_figures T).mono (by decide)) hr tk (by rfl) (alen_cons alen_nil) (ma_cons (me_cutA (weak (me_ix ix_seq o_ix (me_varW (pv 1)) (weak me_int) (fun _ _ => rfl))) (mo_some (me_callTy (call_intA T.lim) c_intA (by rfl) T.z_int (by decide +kernel) (maw_cons (me_varW (pv 2)) maw_nil))) mo_none) ma_nil))))
  (mss_cons (ms_if (PW.pt (mw_or (mt_cmp2 op_isN o_is (me_varW (pv 3)) (weak me_non) (nomark _)) (mw_or (PW.pt (mw_and (mt_truth (me_varW (pv 2))) (mw_and1 (mt_cmp2 (op_eqD hr.units) o_eq (me_varW (pv 3)) (weak me_int) (nomark _))))) (mw_or1 (mt_cmp2 op_gt o_gt (weak (me_callB call_len3 c_len (by rfl) T.z_len (by decide +kernel) (maw_cons (me_varW (pv 1)) maw_nil))) (weak me_int) (nomark _)))))) (mss_one (ms_ret me_non)) mss_nil)
  (mss_cons (ms_if (mt_truth (me_varW (pv 2))) (mss_one (ms_set (ps_set (i := 3) sc__law_read.nd rfl (Or.inl rfl) (me_un un_neg o_neg (me_varW (pv 3)))))) mss_nil)
  (mss_cons (ms_if (mt_cmp2 (op_eqD hr.units) o_eq (weak (me_callB call_len3 c_len (by rfl) T.z_len (by decide +kernel) (maw_cons (me_varW (pv 1)) maw_nil))) (weak me_int) (nomark _)) (mss_one (ms_ret (me_tup (ma_cons (me_var (pv 3)) (ma_cons me_int ma_nil))))) mss_nil)
  (mss_cons (ms_set (ps_set (i := 4) sc__law_read.nd rfl (Or.inl rfl) (me_call ((d__law_figures T).mono (by decide)) hr tk (by rfl) (alen_cons alen_nil) (ma_cons (me_ix ix_seq o_ix (me_varW (pv 1)) (weak me_int) (fun _ _ => rfl)) ma_nil))))
  (mss_cons (ms_if (PW.pt (mw_or (mt_cmp2 op_isN o_is (me_varW (pv 4)) (weak me_non) (nomark _)) (mw_or (mt_cmp2 op_lt o_lt (me_varW (pv 4)) (weak me_int) (nomark _)) (mw_or1 (mt_cmp2 (op_neD hr.units) o_ne (weak (me_call ((d__law_gcd T).mono (by decide)) hr tk (by rfl) (alen_cons (alen_cons alen_nil)) (ma_cons (me_var (pv 3)) (ma_cons (me_var (pv 4)) ma_nil)))) (weak me_int) (nomark _)))))) (mss_one (ms_ret me_non)) mss_nil)
  (mss_one (ms_ret (me_tup (ma_cons (me_var (pv 3)) (ma_cons (me_var (pv 4)) ma_nil)))))))))))))
theorem d__law_read (T : Fx K mg) : Def P w K mg base 2 "_law_read" 1 [] m__law_read := by
  obtain ⟨fd, F⟩ := T.f__law_read
  exact Def.mk' (ps := ["_law_text_here"]) (N := N__law_read) (k := 1) F T.g__law_read sc__law_read b__law_read ⟨[], [], .nil, F.bindsN (fun _ _ _ _ _ _ us hl => match us, hl with | [_], _ => rfl), fun _ _ => .nil⟩ (fun cdv A outer s H E hr => w__law_read T fd cdv A outer s H E hr)
abbrev N__law_reads : List Str := ["_law_text_here", "_law_found", "_law_refused", "e", "_law_due"]
theorem sc__law_reads : FnScope N__law_reads ["_law_text_here"] (defScope (top 29)) := ⟨rfl, rfl, rfl, by decide +kernel, rfl, by decide +kernel, by decide +kernel⟩
theorem w__law_reads (T : Fx K mg) (fd : FuncData) (cdv : Value) (A : Around) (outer : List Env) (s : Shared) (H : Hp) (E : XK) (hr : Room 3 (A.deeper (envOfC "_law_reads" (defScope (top 29)) s.heap.objs.size (He.ga K "_law_reads") cdv))) :
    PSs (cxOf (L2.CX P w) P w K mg base N__law_reads "_law_reads" (defScope (top 29)) (He.ga K "_law_reads") cdv A outer s H E) (defBody (top 29)) (tS K (fun cls d _ H => E cls d H) b__law_reads) := by
  have tk := tk_cx (P := P) (w := w) (K := K) (mg := mg) (base := base) (N := N__law_reads) (qual := "_law_reads") (scope := defScope (top 29)) (f := He.ga K "_law_reads") (cd := cdv) (A := A) (outer := outer) (s := s) (H := H) (E := E)
  exact (mss_cons (ms_set (ps_set (i := 1) sc__law_reads.nd rfl (Or.inl rfl) me_non))
  (mss_cons (ms_set (ps_set (i := 2) sc__law_reads.nd rfl (Or.inl rfl) (me_new (mf_lst ma_nil))))
  (mss_cons (ms_tryW (i := 3) (l := [(2, (fun _ => (fxLim .lst (fxCons (fX0 true) (fxCons (fX0 true) (fun _ => some [])))))), (2, (fwAdd 2 (fxLim .lst (fxCons (fX0 false) (fxCons (fX0 false) (fun _ => some []))))))]) rfl rfl sc__law_reads.nd rfl (by rfl) ⟨by rfl, by decide, .inl T.g_NoShare⟩ tk T.m_NoShare_NoShare (fun W pn xe tk2 po2 => (mss_one (ms_set (ps_set (i := 1) sc__law_reads.nd rfl (Or.inl rfl) (me_call ((d_read_share T).mono (by decide)) hr tk2 (by rfl) (alen_cons alen_nil) (ma_cons (me_var (pv 0)) ma_nil)))))) (.cons (by decide) (SuW.hx (hx_lst (hxs_cons (hx_is0 T.e_NoShare (fun _ _ => by rfl) T.z_isinstance (fun _ _ _ => pv 3) (fun _ _ _ => (pe_glob (v := .ref (He.ga K "BodyError")) (by rfl) T.g_BodyError rfl)) (fun _ h => h) T.k_NoShare_BodyError) (hxs_cons (hx_is0 T.e_NoShare (fun _ _ => by rfl) T.z_isinstance (fun _ _ _ => pv 3) (fun _ _ _ => (pe_bltn (v := .ty "ValueError") (by rfl) T.z_ValueError (by decide +kernel) rfl)) (fun _ h => h) T.k_NoShare_ValueError) hxs_nil))) (fun a oe pn t h => ps_set (i := 2) sc__law_reads.nd rfl (Or.inl rfl) h)) (.cons (by decide) (SuW.add (fun _ _ _ => pv 2) (hx_lst (hxs_cons (hx_is0 T.e_NoShare (fun _ _ => by rfl) T.z_isinstance (fun _ _ _ => pv 3) (fun _ _ _ => (pe_glob (v := .ref (He.ga K "NoWay")) (by rfl) T.g_NoWay rfl)) (fun _ h => h) T.k_NoShare_NoWay) (hxs_cons (hx_is0 T.e_NoShare (fun _ _ => by rfl) T.z_isinstance (fun _ _ _ => pv 3) (fun _ _ _ => (pe_glob (v := .ref (He.ga K "BadText")) (by rfl) T.g_BadText rfl)) (fun _ h => h) T.k_NoShare_BadText) hxs_nil))) (fun a oe pn t h => ps_set (i := 2) sc__law_reads.nd rfl (Or.inl rfl) h)) .nil)))
  (mss_cons (ms_set (ps_set (i := 4) sc__law_reads.nd rfl (Or.inl rfl) (me_call ((d__law_read T).mono (by decide)) hr tk (by rfl) (alen_cons alen_nil) (ma_cons (me_var (pv 0)) ma_nil))))
  (mss_cons (ms_if (mt_cmp2 op_isN o_is (me_varW (pv 4)) (weak me_non) (nomark _)) (mss_one (ms_ret (me_cmp2 (op_eqD hr.units) o_eq (me_varW (pv 2)) (weak (me_new (mf_lst (ma_cons me_bl (ma_cons me_bl (ma_cons me_bl (ma_cons me_bl ma_nil))))))) (nomark _)))) mss_nil)
  (mss_one (ms_ret (me_and (me_cmp2 (op_eqD hr.units) o_eq (me_varW (pv 2)) (weak (me_new (mf_lst ma_nil))) (nomark _)) (me_and (me_call ((d__law_is_share T).mono (by decide)) hr tk (by rfl) (alen_cons alen_nil) (ma_cons (me_var (pv 1)) ma_nil)) (me_one (me_cmp2 (op_eqD hr.units) o_eq (me_varW (pv 1)) (me_varW (pv 4)) (nomark _))))))))))))
theorem d__law_reads (T : Fx K mg) : Def P w K mg base 4 "_law_reads" 1 [] m__law_reads := by
  obtain ⟨fd, F⟩ := T.f__law_reads
  exact Def.mk' (ps := ["_law_text_here"]) (N := N__law_reads) (k := 3) F T.g__law_reads sc__law_reads b__law_reads ⟨[], [], .nil, F.bindsN (fun _ _ _ _ _ _ us hl => match us, hl with | [_], _ => rfl), fun _ _ => .nil⟩ (fun cdv A outer s H E hr => w__law_reads T fd cdv A outer s H E hr)
abbrev N_law : List Str := ["_law_script", "_law_deck_here", "_law_turn", "_law_one", "_law_text_here", "_law_found", "_law_bend"]
theorem sc_law : FnScope N_law ["_law_script"] (defScope (top 30)) := ⟨rfl, rfl, rfl, by decide +kernel, rfl, by decide +kernel, by decide +kernel⟩
def law0 : Stmt := (defBody (top 30)).headD (.Pass ⟨0, 0, 0, 0⟩)
def lawr : List Stmt := (defBody (top 30)).tail
theorem law_body : defBody (top 30) = law0 :: lawr := by rfl
theorem w_law0 (T : Fx K mg) (cdv : Value) (A : Around) (outer : List Env) (s : Shared) (H : Hp) (E : XK) (hr : Room 5 (A.deeper (envOfC "law" (defScope (top 30)) s.heap.objs.size (He.ga K "law") cdv))) :
    PS (cxOf (L2.CX P w) P w K mg base N_law "law" (defScope (top 30)) (He.ga K "law") cdv A outer s H E) law0 (tAsg (tCallSD (spDk 1 K m__law_deck) [] (WE fun cls d _ H => E cls d H) (tCons (tVar 0) tNil)) (gName 1)) := by
  have tk := tk_cx (P := P) (w := w) (K := K) (mg := mg) (base := base) (N := N_law) (qual := "law") (scope := defScope (top 30)) (f := He.ga K "law") (cd := cdv) (A := A) (outer := outer) (s := s) (H := H) (E := E)
  exact (ps_set (i := 1) sc_law.nd rfl (Or.inl rfl) (pe_deck ((d__law_deck T).mono (by decide)) hr tk (by rfl) (pa_cons (pv 0) pa_nil)))
theorem w_law (T : Fx K mg) (cdv : Value) (A : Around) (outer : List Env) (s : Shared) (H : Hp) (E : XK) (hr : Room 5 (A.deeper (envOfC "law" (defScope (top 30)) s.heap.objs.size (He.ga K "law") cdv))) :
    PSs (cxOf (L2.CX P w) P w K mg base N_law "law" (defScope (top 30)) (He.ga K "law") cdv A outer s H E) lawr (tS K (fun cls d _ H => E cls d H) b_law) := by
  have tk := tk_cx (P := P) (w := w) (K := K) (mg := mg) (base := base) (N := N_law) (qual := "law") (scope := defScope (top 30)) (f := He.ga K "law") (cd := cdv) (A := A) (outer := outer) (s := s) (H := H) (E := E)
  exact (mss_cons (ms_for po_cx rfl (mi_range1 (by rfl) T.z_range (maw_cons (weak me_int) maw_nil)) (mg_name (pg_name (i := 2) sc_law.nd rfl (Or.inl rfl))) (mss_cons (ms_set (ps_set (i := 3) sc_law.nd rfl (Or.inl rfl) (me_callS ((d__law_drawn T).mono (by decide)) hr tk (by rfl) (alen_cons alen_nil) (ma_cons (me_var (pv 1)) ma_nil))))
  (mss_cons (ms_set (ps_set (i := 4) sc_law.nd rfl (Or.inl rfl) (me_call ((d__law_text T).mono (by decide)) hr tk (by rfl) (alen_cons alen_nil) (ma_cons (me_var (pv 3)) ma_nil))))
  (mss_cons (ms_set (ps_set (i := 5) sc_law.nd rfl (Or.inl rfl) (me_call ((d_share_text T).mono (by decide)) hr tk (by rfl) (alen_cons alen_nil) (ma_cons (me_var (pv 3)) ma_nil))))
  (mss_cons (ms_if (PW.pt (mw_or (mt_not (mt_truth (weak (me_callB call_isi c_isi (by rfl) T.z_isinstance (by decide +kernel) (maw_cons (me_varW (pv 5)) (maw_cons (weak (me_type (by rfl) T.z_str (by decide +kernel))) maw_nil)))))) (mw_or (mt_cmp2 op_ne_ss o_neSS (me_varW (pv 5)) (me_varW (pv 4)) (nomark _)) (mw_or1 (mt_not (mt_truth (weak (me_call ((d__law_reads T).mono (by decide)) hr tk (by rfl) (alen_cons alen_nil) (ma_cons (me_var (pv 4)) ma_nil))))))))) (mss_one (ms_ret me_bl)) mss_nil)
  (mss_one (ms_for po_cx rfl (mi_range1 (by rfl) T.z_range (maw_cons (weak me_int) maw_nil)) (mg_name (pg_name (i := 6) sc_law.nd rfl (Or.inl rfl))) (mss_one (ms_if (mt_not (mt_truth (weak (me_call ((d__law_reads T).mono (by decide)) hr tk (by rfl) (alen_cons alen_nil) (ma_cons (me_callS ((d__law_bent T).mono (by decide)) hr tk (by rfl) (alen_cons (alen_cons alen_nil)) (ma_cons (me_var (pv 1)) (ma_cons (me_var (pv 3)) ma_nil))) ma_nil))))) (mss_one (ms_ret me_bl)) mss_nil)))))))))
  (mss_one (ms_ret me_bl)))
theorem d_law (T : Fx K mg) : ∃ fd : FuncData, (∀ (s : Shared) (u : Value), BindsTo s fd ⟨[u], []⟩ [("_law_script", u)]) ∧ ∀ base : Heap, FnOk P w K mg base (L2.CX P w) 6 (He.ga K "law") fd ["_law_script"] (spLaw K 7 m__law_deck b_law) := by
  obtain ⟨fd, F⟩ := T.f_law
  refine ⟨fd, fun s u => F.bindsA (ps := ["_law_script"]) (fun _ _ _ _ _ _ us hl => match us, hl with | [_], _ => rfl) s [u] rfl, fun base => ?_⟩
  rw [law_body] at F
  exact law_fn (N := N_law) F sc_law (by decide) ((d__law_deck T).mono (by decide)) (fun cdv A outer s H E hr => w_law0 T cdv A outer s H E hr) (fun cdv A outer s H E hr => w_law T cdv A outer s H E hr)
end
end MM
end
namespace MM
open PySem PySem.Spec PyProof.Rows L2
theorem lawFx {K : Fg} {h : Heap} {mg : Str → Option Value} (X : K.In h) (G : h.Ns mainGlobals mg) (c : SaysM lawChk lawFn K) : Fx K mg where
  z_int := cFree_ok X G (c.fact 0)
  z_isinstance := cFree_ok X G (c.fact 1)
  z_bool := cFree_ok X G (c.fact 2)
  f_is_whole := c.def_ 0
  g_is_whole := cGlo_ok X G (c.fact 3)
  z_abs := cFree_ok X G (c.fact 4)
  f_divisor := c.def_ 1
  g_divisor := cGlo_ok X G (c.fact 5)
  z_tuple := cFree_ok X G (c.fact 6)
  z_len := cFree_ok X G (c.fact 7)
  f_is_share := c.def_ 2
  g_is_share := cGlo_ok X G (c.fact 8)
  z_str := cFree_ok X G (c.fact 9)
  f_share_text := c.def_ 3
  g_share_text := cGlo_ok X G (c.fact 10)
  c_FIGURES := cVal_ok X G (c.fact 11)
  x_NoShare := cExc_ok X G (c.fact 12)
  lim := cLim_ok (c.fact 13)
  f_figures_read := c.def_ 4
  g_figures_read := cGlo_ok X G (c.fact 14)
  f_whole_read := c.def_ 5
  g_whole_read := cGlo_ok X G (c.fact 15)
  f_read_share := c.def_ 6
  g_read_share := cGlo_ok X G (c.fact 16)
  f__law_cell := c.def_ 7
  g__law_cell := cGlo_ok X G (c.fact 17)
  f__law_mixed := c.def_ 8
  g__law_mixed := cGlo_ok X G (c.fact 18)
  f__law_deck := c.def_ 9
  g__law_deck := cGlo_ok X G (c.fact 19)
  f__law_take := c.def_ 10
  g__law_take := cGlo_ok X G (c.fact 20)
  f__law_gcd := c.def_ 11
  g__law_gcd := cGlo_ok X G (c.fact 21)
  f__law_share := c.def_ 12
  g__law_share := cGlo_ok X G (c.fact 22)
  z_range := cFree_ok X G (c.fact 23)
  f__law_whole := c.def_ 13
  g__law_whole := cGlo_ok X G (c.fact 24)
  f__law_is_share := c.def_ 14
  g__law_is_share := cGlo_ok X G (c.fact 25)
  z_max := cFree_ok X G (c.fact 26)
  f__law_drawn := c.def_ 15
  g__law_drawn := cGlo_ok X G (c.fact 27)
  f__law_text := c.def_ 16
  g__law_text := cGlo_ok X G (c.fact 28)
  f__law_sign := c.def_ 17
  g__law_sign := cGlo_ok X G (c.fact 29)
  f__law_bent := c.def_ 18
  g__law_bent := cGlo_ok X G (c.fact 30)
  f__law_figures := c.def_ 19
  g__law_figures := cGlo_ok X G (c.fact 31)
  f__law_read := c.def_ 20
  g__law_read := cGlo_ok X G (c.fact 32)
  g_NoShare := cGlo_ok X G (c.fact 33)
  m_NoShare_NoShare := cExm_ok (c.fact 34)
  z_ValueError := cFree_ok X G (c.fact 35)
  e_NoShare := cExcC_ok (c.fact 36)
  k_NoShare_ValueError := cKit_ok (c.fact 37)
  g_BodyError := cGlo_ok X G (c.fact 38)
  k_NoShare_BodyError := cKit_ok (c.fact 39)
  g_BadText := cGlo_ok X G (c.fact 40)
  k_NoShare_BadText := cKit_ok (c.fact 41)
  g_NoWay := cGlo_ok X G (c.fact 42)
  k_NoShare_NoWay := cKit_ok (c.fact 43)
  f__law_reads := c.def_ 21
  g__law_reads := cGlo_ok X G (c.fact 44)
  f_law := c.def_ 22
  g_law := cGlo_ok X G (c.fact 45)
end MM
open PySem PySem.W PySem.Calls PyProof.Rows
theorem PySem.Challenge.cw_restbodies_k04_shares_written_holds : PySem.Challenge.rw_restbodies_k04_shares_written.Holds := by
  w_on; o_law
  refine MM.head_anyL (r := OpenLaw.row PySem.Challenge.rw_restbodies_k04_shares_written) (q := view (OpenLaw.row PySem.Challenge.rw_restbodies_k04_shares_written).prog [30]) (H := MM.lawHook) (ob := MM.lawOb) (M := 20000) (loose := MM.lawLoose) (d := HandSHeadRun.topDef (OpenLaw.row PySem.Challenge.rw_restbodies_k04_shares_written).prog 30) (kwd := []) MM.lawOb_eq
    (by kernel_rfl) (fun s => by kernel_rfl) MM.lawRun (fun _ => ⟨rfl, rfl, rfl⟩) (by kernel_rfl) (by kernel_rfl) (by kernel_rfl) (by rfl) (by first | assumption | decide +kernel) (by decide +kernel) ⟨rfl, rfl, rfl, rfl, rfl, by decide +kernel⟩ ?hw ?hc
  case hw => w_witness2
  case hc =>
    exact MM.walk_mm (n := 63) (k := 6) (nn := 5) (N := 7) (m := MM.m__law_deck) (rest := MM.b_law) rfl (by decide) rfl rfl (MM.room_k (by decide))
      (fun w mg K h X G c => ⟨MM.cGlo_ok X G (c.fact 45), MM.d_law (MM.lawFx X G c)⟩) (fun ns hl hb => MM.law_good ns hl hb)

