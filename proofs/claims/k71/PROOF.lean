import PyProof.Rows.All
import Wide.All
import OpenK.AllK
import Wide.FinOn
import HandS.ForMost
import HandS.ForExc
import HandS.Wide
import HandS.CallSlots
import HandS.HeadHook2
import HandS.Walk
import PyProof.DictRoadsH
import HandS.TryOnly
import HandS.ExcIs
import HandS.IsInst
import HandS.TupAny
import HandS.Flow
import HandS.EndBits
import HandS.IntHex
import HandS.Head0
import HandS.Head1
import HandS.Head2
import HandS.HeadEnd
import HandS.HeadHook1
import HandS.Ends
import KE.KUnpackStar
import HandS.Iter
import HandS.Zip
import HandS.Rev
import HandS.List
import HandS.SortInts
import HandS.Defaults
import HandS.Zip0
import HandS.Style
import KE.SortData
import KE.DataMinMax
import HandS.Deep
import KE.DataEq
import HandS.DictComp
import HandS.Small
import KE.KDictWalk
import KE.KDictList
import HandS.DictSubView
import KE.GoesMore
import HandS.Sort
import PyProof.NeKinds
import HandS.TupMul
import HandS.ExcInit
import HandS.ExcField
import HandS.ClsMeth
import PyProof.WalkInts
import KE.KIsAll
import HandS.HotCalls
import HandS.RevRange
import HandS.Conv
import KE.KDictZip
import KE.KDictPairs
import PyProof.ReprRoads
import HandS.Strs
import HandS.TryMany
import HandS.FStr
import HandS.Text
import PyProof.SliceStr2
import HandS.SuiteRaise
import HandS.RaiseFrom
import HandS.ExcInitHot
import PyProof.CompFree
import HandS.Comp
import HandS.More
import PyProof.RowDictHeap
import KE.KCallOwn
import HandS.OwnEq
import PySem.Challenge.RW_restbodies_k71_states_written
set_option Elab.async false
set_option linter.all false
set_option maxRecDepth 100000
set_option maxHeartbeats 4000000
namespace MM
open PySem PySem.Spec PyProof.Rows L2
inductive D where
  | non | bl (b : Bool) | int (i : Int) | str (x : Str)
  | tup (xs : List D) | lst (xs : List D) | dct (ks vs : List D) | obj (C : Str) (ns : List Str) (vs : List D) | at (a : Addr) | ty (n : String) | cls (C : Str) | scr (ns : List Int)

abbrev Fg := PySem.W.Frag

abbrev Chk := List (Fg → Bool)
def obsM (chk : Chk) (fn : List He.DefD) (K : Fg) : He.AlD := ((chk.all fun f => f K) && fn.all fun d => d.ok K, fn.map fun d => He.fnW K d.at_)
def SaysM (chk : Chk) (fn : List He.DefD) (K : Fg) : Prop := obsM chk fn K = He.valD fn
def strN {α : Type} (n : Nat) (k : Nat → α) : α := match n with
  | 0 => k 0
  | m + 1 => k (m + 1)
def bitIn (s r : Nat) : Bool := Nat.beq (Nat.land (Nat.shiftRight s r) 1) 1
def seeK {α : Type} : List Addr → Nat → List Addr → (Nat → List Addr → α) → α
  | [], s, acc, k => k s acc
  | r :: rs, s, acc, k => match bitIn s r with
    | true => seeK rs s acc k
    | false => strN (Nat.lor s (Nat.shiftLeft 1 r)) fun s => seeK rs s (r :: acc) k
def growK {α : Type} (g : Addr → Option Obj) : List Addr → Nat → List Addr → (Nat → List Addr → α) → α
  | [], s, acc, k => k s acc
  | a :: as, s, acc, k => match g a with
    | some o => seeK (He.refsD o) s acc fun s acc => growK g as s acc k
    | none => growK g as s acc k
def bfsK (g : Addr → Option Obj) : Nat → List Addr → Nat → List Addr → List Addr
  | 0, _, _, all => all
  | n + 1, fr, s, all => growK g fr s [] fun s new => bfsK g n new s (all ++ new)
def asM (g : Addr → Option Obj) (n : Nat) : List Addr := bfsK g n [mainGlobals] (Nat.shiftLeft 1 mainGlobals) [mainGlobals] ++ [cStatics]
def obsMG (n : Nat) (chk : Chk) (fn : List He.DefD) (g : Addr → Option Obj) : He.AlD := obsM chk fn (He.frG g (asM g n))
def hookM (n : Nat) (chk : Chk) (fn : List He.DefD) : PySem.W.Hook where
  α := He.AlD
  obs := fun s => obsMG n chk fn s.heap.get?
  val := fun _ => He.valD fn
  says := fun _ h => ∃ K : Fg, K.In h ∧ SaysM chk fn K
  of := fun _ _ e => ⟨_, He.frG_in, e⟩
  keeps := fun _ _ _ ⟨K, hK, c⟩ k => ⟨K, PySem.W.Frag.In.keeps hK k, c⟩
theorem obsMG_eq {n : Nat} {chk : Chk} {fn : List He.DefD} {g : Addr → Option Obj} {s : Shared} (h : ∀ a, g a = s.heap.get? a) : obsMG n chk fn g = (hookM n chk fn).obs s := by
  have e : g = s.heap.get? := funext h
  rw [e] <;> rfl
def cGlo (x : Str) : Fg → Bool := fun K => He.Fa.ok K (.glo x)
def cFree (x : Str) : Fg → Bool := fun K => He.Fa.ok K (.free x)
def cExc (x : Str) : Fg → Bool := fun K => He.Fa.ok K (.exc x) && He.Fa.ok K (.glo x)
def cExcC (x : Str) : Fg → Bool := fun K => decide (PySem.W.findIn K (.ref (He.ga K x)) "__getattribute__" = some (some (.builtin "BaseException.__getattribute__"))) && (decide (PySem.W.findIn K (.ref (He.ga K x)) "__getattr__" = some none) &&
  (decide (PySem.W.subIn K (.ref (He.ga K x)) (.type "BaseException") = some true) && (PySem.W.hasDictIn K (He.ga K x) && (decide (PySem.W.findIn K (.ref (He.ga K x)) "__class__" = some (some (.builtin "object.__class__"))) &&
  (decide (PySem.W.specialIn K (.builtin "object.__class__") "__get__" = some (some (.builtin "getset_descriptor.__get__"))) && (decide (PySem.W.takesIn K (.builtin "object.__class__") = some true) && decide (PySem.W.mroIn K (He.ga K x) (.type "object") = some true)))))))
def cKit (x : Str) (c : Fg → Value) (b : Bool) : Fg → Bool := fun K => decide (PySem.W.kitOne K (.ref (He.ga K x)) (c K) = some b)
def cExm (x : Str) (c : Fg → Value) (b : Bool) : Fg → Bool := fun K => decide (PySem.W.exmOne K (.ref (He.ga K x)) (c K) = some b)
def cLim : Fg → Bool := fun K => decide (PySem.W.nsIn K cStatics "sys.int_max_str_digits" = some none)
mutual
def isDV (K : Fg) : Nat → Value → D → Bool
  | _, .none, .non => true
  | _, .bool b, .bl c => b == c
  | _, .int i _, .int j => decide (i = j)
  | _, .str x _, .str y => decide (x = y)
  | n + 1, .ref a, .tup ds => (match K.lookup a with
    | some ⟨.type c, _, .seq its _, _⟩ => decide (c = "tuple") && (decide (its.size ≤ sizeLine) && isDVs K n its.toList ds)
    | _ => false)
  | _, _, _ => false
def isDVs (K : Fg) : Nat → List Value → List D → Bool
  | _, [], [] => true
  | n, v :: vs, d :: ds => isDV K n v d && isDVs K n vs ds
  | _, _, _ => false
end
def cVal (x : Str) (d : D) : Fg → Bool := fun K => match PySem.W.nsIn K mainGlobals x with
  | some (some v) => isDV K 8 v d
  | _ => false
def clsBody : Stmt → List Stmt
  | .ClassDef _ _ _ body _ _ _ _ _ _ _ => body
  | _ => []
def cClsF (x : Str) : Fg → Bool := fun K => He.Fa.ok K (.cls x) && (decide (PySem.W.findIn K (.ref (He.ga K x)) "__class__" = some (some (.builtin "object.__class__"))) && (decide (PySem.W.specialIn K (.builtin "object.__class__") "__get__" = some (some (.builtin "getset_descriptor.__get__"))) &&
  (decide (PySem.W.takesIn K (.builtin "object.__class__") = some true) && decide (PySem.W.mroIn K (He.ga K x) (.type "object") = some true))))
def cNoat (x f : Str) : Fg → Bool := fun K => decide (PySem.W.findIn K (.ref (He.ga K x)) f = some none)
def cMeth (x m : Str) : Fg → Bool := fun K => He.Fa.ok K (.meth x m)
def cMkr (x : Str) : Fg → Bool := fun K => He.Fa.ok K (.mkr x)
def cBaseX (B : Str) : Fg → Bool := fun K => He.Fa.ok K (.glo B) && (PySem.W.readsIn K (He.ga K B) (.type "type") && (decide (PySem.W.specialIn K (.ref (He.ga K B)) "__getattribute__" = some (some (.builtin "type.__getattribute__"))) &&
  match PySem.W.findCls K (.ref (He.ga K B)) (.type "type") "__init__" with
  | some (.val v) => v == .builtin "ValueError.__init__"
  | _ => false))
def oexB (K : Fg) (C : Addr) : Bool := match K.lookup C with
  | some ⟨.type "type", _, .cls cd, sl⟩ => (match cd.mro, sl.toList with
    | .ref C' :: bm, [_, _, _, _, some (.builtin n), _] => C' == C && n == "ValueError.__new__" && !cd.hasDel && cd.hasDict && PySem.HandSPX.refsVE bm
    | _, _ => false)
  | _ => false
def cOexX (C : Str) (fs : List Str) : Fg → Bool := fun K => He.Fa.ok K (.glo C) && (oexB K (He.ga K C) && (decide (PySem.W.findIn K (.ref (He.ga K C)) "__setattr__" = some (some (.builtin "object.__setattr__"))) && (decide (PySem.W.subIn K (.ref (He.ga K C)) (.type "BaseException") = some true) &&
  (decide (PySem.W.typeIn K (.ref (He.ga K C)) = some (.type "type")) && (PySem.W.keepIn K (.ref (He.ga K C)) && (decide (PySem.W.findIn K (.ref (He.ga K C)) "__init__" = some (some (.ref (He.ma K (He.ga K C) "__init__")))) &&
  (decide (PySem.W.typeIn K (.ref (He.ma K (He.ga K C) "__init__")) = some (.type "function")) && ((fs.all fun f => decide (PySem.W.findIn K (.ref (He.ga K C)) f = some none)) && xfB K (He.ga K C)))))))))
def nsEq : List Nat → List Nat → Bool
  | [], [] => true
  | a :: x, b :: y => Nat.beq a b && nsEq x y
  | _, _ => false
def sEqL (a b : Str) : Bool := nsEq a.cps.toList b.cps.toList
def linKeys (own : List Str) : List Str → List Str → Bool
  | [], _ => true
  | k :: ks, [] => (startupNames.contains k || own.contains k) && linKeys own ks []
  | k :: ks, x :: xs => match sEqL k x with
    | true => linKeys own ks xs
    | false => (startupNames.contains k || own.contains k) && linKeys own ks (x :: xs)
noncomputable def seenL (q : Program) (loose mods : List Str) (Xt : Shared → Bool) (s : Shared) :=
  ((HandSHeadRun.seenQ q [] mods Xt s).1, (HandSHeadRun.seenQ q [] mods Xt s).2.1,
   linKeys ((recsOf q).map (·.name)) (s.heap.nsKeys mainGlobals) loose && s.heap.accountedOkI mods && s.heap.isNs mainGlobals && s.heap.isNs builtinsNs && tablesOk q s.heap && Xt s && (s.gens.size == 0),
   (HandSHeadRun.seenQ q [] mods Xt s).2.2.2)
def RunEqL (r : PySem.W.OpenRow) (q : Program) (H : PySem.W.Hook) (ob : PySem.W.SharedT → H.α) (M : Nat) (loose : List Str) (w : World) : Prop :=
  ∀ os : OsState, (HandSHeadRun.endF (HandSHeadRun.stepQ (HandSHeadRun.denQ HandSHeadRun.tabQ) r.prog w) M r.prog w os).map (fun s => (HandSHeadRun.looksF r.prog (PySem.W.boot_heap w.params) s.abs, seenL q loose (importedModules r.prog.main.body) (fun s => PySem.W.xlAt q [] s && PySem.W.recOk r.toRowW.records s) s.abs, ob s)) = some (true, PySem.W.openGood q [], H.val w)
def cSys : Fg → Bool := fun K => match K.lookup sysModules with
  | some o => decide (o.cls = .type "dict")
  | none => false
end MM
noncomputable section
namespace MM
open PySem PySem.Spec PyProof.Rows L2
def top (i : Nat) : Stmt := PySem.Challenge.pw_restbodies_k71_states_written.main.body.getD i (.Pass ⟨0, 0, 0, 0⟩)
def mth (i j : Nat) : Stmt := (clsBody (top i)).getD j (.Pass ⟨0, 0, 0, 0⟩)
def lawChk0 : Chk := [cGlo "_wall", cFree "str", cGlo "share_text", cGlo "spot_words", cGlo "body_words", cGlo "body_of", cGlo "state_text", cFree "len", cFree "abs", cGlo "_law_cell", cGlo "_law_mixed", cGlo "_law_deck", cGlo "_law_take", cGlo "_law_gcd", cGlo "_law_share", cLim, cFree "int", cGlo "_law_number", cGlo "_law_part", cFree "range", cGlo "_law_names", cGlo "_law_shape", cGlo "_law_row", cFree "enumerate", cFree "sorted", cFree "tuple", cGlo "_law_state", cGlo "_law_word", cGlo "_law_words", cGlo "_law_lines"]
def lawChk1 : Chk := [cClsF "Railed", cNoat "Railed" "row", cClsF "Free", cNoat "Free" "row", cClsF "Wall", cNoat "Wall" "row", cClsF "Body", cNoat "Body" "row", cMeth "Body" "__str__", cMeth "Wall" "__str__", cMeth "Free" "__str__", cMeth "Railed" "__str__", cFree "zip", cFree "isinstance", cGlo "law", cMeth "Body" "answer", cMeth "Body" "kick", cMeth "Body" "may", cMeth "Wall" "answer", cMeth "Wall" "kick", cMeth "Wall" "may", cMeth "Free" "answer", cMeth "Free" "kick", cMeth "Free" "may", cMeth "Railed" "kick", cMeth "Railed" "answer", cMeth "Railed" "may", cMkr "Wall", cGlo "Wall", cNoat "Wall" "name"]
def lawChk2 : Chk := [cNoat "Wall" "mass", cMkr "Free", cGlo "Free", cNoat "Free" "name", cNoat "Free" "mass", cMkr "Railed", cGlo "Railed", cNoat "Railed" "name", cNoat "Railed" "mass"]
def lawChk : Chk := List.flatten [lawChk0, lawChk1, lawChk2]
def lawFn0 : List He.DefD := [⟨("_wall", none), "_wall", "_wall", defArgs (top 0), defBody (top 0), defScope (top 0), [], []⟩, ⟨("share_text", none), "share_text", "share_text", defArgs (top 2), defBody (top 2), defScope (top 2), [], []⟩, ⟨("spot_words", none), "spot_words", "spot_words", defArgs (top 4), defBody (top 4), defScope (top 4), [], []⟩, ⟨("body_words", none), "body_words", "body_words", defArgs (top 5), defBody (top 5), defScope (top 5), [], []⟩, ⟨("body_of", none), "body_of", "body_of", defArgs (top 10), defBody (top 10), defScope (top 10), [], []⟩, ⟨("state_text", none), "state_text", "state_text", defArgs (top 12), defBody (top 12), defScope (top 12), [], []⟩, ⟨("_law_cell", none), "_law_cell", "_law_cell", defArgs (top 14), defBody (top 14), defScope (top 14), [], []⟩, ⟨("_law_mixed", none), "_law_mixed", "_law_mixed", defArgs (top 15), defBody (top 15), defScope (top 15), [], []⟩, ⟨("_law_deck", none), "_law_deck", "_law_deck", defArgs (top 16), defBody (top 16), defScope (top 16), [], []⟩, ⟨("_law_take", none), "_law_take", "_law_take", defArgs (top 17), defBody (top 17), defScope (top 17), [], []⟩, ⟨("_law_gcd", none), "_law_gcd", "_law_gcd", defArgs (top 18), defBody (top 18), defScope (top 18), [], []⟩, ⟨("_law_share", none), "_law_share", "_law_share", defArgs (top 19), defBody (top 19), defScope (top 19), [], []⟩, ⟨("_law_number", none), "_law_number", "_law_number", defArgs (top 20), defBody (top 20), defScope (top 20), [], []⟩, ⟨("_law_part", none), "_law_part", "_law_part", defArgs (top 21), defBody (top 21), defScope (top 21), [], []⟩, ⟨("_law_names", none), "_law_names", "_law_names", defArgs (top 22), defBody (top 22), defScope (top 22), [], []⟩, ⟨("_law_shape", none), "_law_shape", "_law_shape", defArgs (top 23), defBody (top 23), defScope (top 23), [], []⟩, ⟨("_law_row", none), "_law_row", "_law_row", defArgs (top 24), defBody (top 24), defScope (top 24), [], []⟩, ⟨("_law_state", none), "_law_state", "_law_state", defArgs (top 25), defBody (top 25), defScope (top 25), [], []⟩, ⟨("_law_word", none), "_law_word", "_law_word", defArgs (top 26), defBody (top 26), defScope (top 26), [], []⟩, ⟨("_law_words", none), "_law_words", "_law_words", defArgs (top 27), defBody (top 27), defScope (top 27), [], []⟩, ⟨("_law_lines", none), "_law_lines", "_law_lines", defArgs (top 28), defBody (top 28), defScope (top 28), [], []⟩, ⟨("law", none), "law", "law", defArgs (top 29), defBody (top 29), defScope (top 29), [], []⟩, ⟨("Body", some "__str__"), "__str__", "Body.__str__", defArgs (mth 6 5), defBody (mth 6 5), defScope (mth 6 5), [], []⟩, ⟨("Wall", some "__str__"), "__str__", "Body.__str__", defArgs (mth 6 5), defBody (mth 6 5), defScope (mth 6 5), [], []⟩, ⟨("Free", some "__str__"), "__str__", "Body.__str__", defArgs (mth 6 5), defBody (mth 6 5), defScope (mth 6 5), [], []⟩, ⟨("Railed", some "__str__"), "__str__", "Body.__str__", defArgs (mth 6 5), defBody (mth 6 5), defScope (mth 6 5), [], []⟩, ⟨("Body", some "answer"), "answer", "Body.answer", defArgs (mth 6 1), defBody (mth 6 1), defScope (mth 6 1), [], []⟩, ⟨("Body", some "kick"), "kick", "Body.kick", defArgs (mth 6 2), defBody (mth 6 2), defScope (mth 6 2), [], []⟩, ⟨("Body", some "may"), "may", "Body.may", defArgs (mth 6 3), defBody (mth 6 3), defScope (mth 6 3), [], []⟩, ⟨("Wall", some "answer"), "answer", "Wall.answer", defArgs (mth 7 0), defBody (mth 7 0), defScope (mth 7 0), [], []⟩]
def lawFn1 : List He.DefD := [⟨("Wall", some "kick"), "kick", "Wall.kick", defArgs (mth 7 1), defBody (mth 7 1), defScope (mth 7 1), [], []⟩, ⟨("Wall", some "may"), "may", "Body.may", defArgs (mth 6 3), defBody (mth 6 3), defScope (mth 6 3), [], []⟩, ⟨("Free", some "answer"), "answer", "Body.answer", defArgs (mth 6 1), defBody (mth 6 1), defScope (mth 6 1), [], []⟩, ⟨("Free", some "kick"), "kick", "Body.kick", defArgs (mth 6 2), defBody (mth 6 2), defScope (mth 6 2), [], []⟩, ⟨("Free", some "may"), "may", "Body.may", defArgs (mth 6 3), defBody (mth 6 3), defScope (mth 6 3), [], []⟩, ⟨("Railed", some "kick"), "kick", "Railed.kick", defArgs (mth 9 0), defBody (mth 9 0), defScope (mth 9 0), [], []⟩, ⟨("Railed", some "answer"), "answer", "Body.answer", defArgs (mth 6 1), defBody (mth 6 1), defScope (mth 6 1), [], []⟩, ⟨("Railed", some "may"), "may", "Body.may", defArgs (mth 6 3), defBody (mth 6 3), defScope (mth 6 3), [], []⟩, ⟨("Wall", some "__init__"), "__init__", "Body.__init__", defArgs (mth 6 0), defBody (mth 6 0), defScope (mth 6 0), [], []⟩, ⟨("Free", some "__init__"), "__init__", "Body.__init__", defArgs (mth 6 0), defBody (mth 6 0), defScope (mth 6 0), [], []⟩, ⟨("Railed", some "__init__"), "__init__", "Body.__init__", defArgs (mth 6 0), defBody (mth 6 0), defScope (mth 6 0), [], []⟩]
def lawFn : List He.DefD := List.flatten [lawFn0, lawFn1]
def lawFnA0 : List He.DefD := [⟨("_wall", none), "_wall", "_wall", defArgs (top 0), defBody (top 0), defScope (top 0), [], []⟩, ⟨("share_text", none), "share_text", "share_text", defArgs (top 2), defBody (top 2), defScope (top 2), [], []⟩, ⟨("spot_words", none), "spot_words", "spot_words", defArgs (top 4), defBody (top 4), defScope (top 4), [], []⟩, ⟨("body_words", none), "body_words", "body_words", defArgs (top 5), defBody (top 5), defScope (top 5), [], []⟩, ⟨("body_of", none), "body_of", "body_of", defArgs (top 10), defBody (top 10), defScope (top 10), [], []⟩, ⟨("state_text", none), "state_text", "state_text", defArgs (top 12), defBody (top 12), defScope (top 12), [], []⟩, ⟨("_law_cell", none), "_law_cell", "_law_cell", defArgs (top 14), defBody (top 14), defScope (top 14), [], []⟩, ⟨("_law_mixed", none), "_law_mixed", "_law_mixed", defArgs (top 15), defBody (top 15), defScope (top 15), [], []⟩, ⟨("_law_deck", none), "_law_deck", "_law_deck", defArgs (top 16), defBody (top 16), defScope (top 16), [], []⟩, ⟨("_law_take", none), "_law_take", "_law_take", defArgs (top 17), defBody (top 17), defScope (top 17), [], []⟩, ⟨("_law_gcd", none), "_law_gcd", "_law_gcd", defArgs (top 18), defBody (top 18), defScope (top 18), [], []⟩, ⟨("_law_share", none), "_law_share", "_law_share", defArgs (top 19), defBody (top 19), defScope (top 19), [], []⟩, ⟨("_law_number", none), "_law_number", "_law_number", defArgs (top 20), defBody (top 20), defScope (top 20), [], []⟩, ⟨("_law_part", none), "_law_part", "_law_part", defArgs (top 21), defBody (top 21), defScope (top 21), [], []⟩, ⟨("_law_names", none), "_law_names", "_law_names", defArgs (top 22), defBody (top 22), defScope (top 22), [], []⟩, ⟨("_law_shape", none), "_law_shape", "_law_shape", defArgs (top 23), defBody (top 23), defScope (top 23), [], []⟩, ⟨("_law_row", none), "_law_row", "_law_row", defArgs (top 24), defBody (top 24), defScope (top 24), [], []⟩, ⟨("_law_state", none), "_law_state", "_law_state", defArgs (top 25), defBody (top 25), defScope (top 25), [], []⟩, ⟨("_law_word", none), "_law_word", "_law_word", defArgs (top 26), defBody (top 26), defScope (top 26), [], []⟩, ⟨("_law_words", none), "_law_words", "_law_words", defArgs (top 27), defBody (top 27), defScope (top 27), [], []⟩, ⟨("_law_lines", none), "_law_lines", "_law_lines", defArgs (top 28), defBody (top 28), defScope (top 28), [], []⟩]
def lawFnA : List He.DefD := lawFnA0
def lawFnB0 : List He.DefD := [⟨("law", none), "law", "law", defArgs (top 29), defBody (top 29), defScope (top 29), [], []⟩, ⟨("Body", some "__str__"), "__str__", "Body.__str__", defArgs (mth 6 5), defBody (mth 6 5), defScope (mth 6 5), [], []⟩, ⟨("Wall", some "__str__"), "__str__", "Body.__str__", defArgs (mth 6 5), defBody (mth 6 5), defScope (mth 6 5), [], []⟩, ⟨("Free", some "__str__"), "__str__", "Body.__str__", defArgs (mth 6 5), defBody (mth 6 5), defScope (mth 6 5), [], []⟩, ⟨("Railed", some "__str__"), "__str__", "Body.__str__", defArgs (mth 6 5), defBody (mth 6 5), defScope (mth 6 5), [], []⟩, ⟨("Body", some "answer"), "answer", "Body.answer", defArgs (mth 6 1), defBody (mth 6 1), defScope (mth 6 1), [], []⟩, ⟨("Body", some "kick"), "kick", "Body.kick", defArgs (mth 6 2), defBody (mth 6 2), defScope (mth 6 2), [], []⟩, ⟨("Body", some "may"), "may", "Body.may", defArgs (mth 6 3), defBody (mth 6 3), defScope (mth 6 3), [], []⟩, ⟨("Wall", some "answer"), "answer", "Wall.answer", defArgs (mth 7 0), defBody (mth 7 0), defScope (mth 7 0), [], []⟩, ⟨("Wall", some "kick"), "kick", "Wall.kick", defArgs (mth 7 1), defBody (mth 7 1), defScope (mth 7 1), [], []⟩, ⟨("Wall", some "may"), "may", "Body.may", defArgs (mth 6 3), defBody (mth 6 3), defScope (mth 6 3), [], []⟩, ⟨("Free", some "answer"), "answer", "Body.answer", defArgs (mth 6 1), defBody (mth 6 1), defScope (mth 6 1), [], []⟩, ⟨("Free", some "kick"), "kick", "Body.kick", defArgs (mth 6 2), defBody (mth 6 2), defScope (mth 6 2), [], []⟩, ⟨("Free", some "may"), "may", "Body.may", defArgs (mth 6 3), defBody (mth 6 3), defScope (mth 6 3), [], []⟩, ⟨("Railed", some "kick"), "kick", "Railed.kick", defArgs (mth 9 0), defBody (mth 9 0), defScope (mth 9 0), [], []⟩, ⟨("Railed", some "answer"), "answer", "Body.answer", defArgs (mth 6 1), defBody (mth 6 1), defScope (mth 6 1), [], []⟩, ⟨("Railed", some "may"), "may", "Body.may", defArgs (mth 6 3), defBody (mth 6 3), defScope (mth 6 3), [], []⟩, ⟨("Wall", some "__init__"), "__init__", "Body.__init__", defArgs (mth 6 0), defBody (mth 6 0), defScope (mth 6 0), [], []⟩, ⟨("Free", some "__init__"), "__init__", "Body.__init__", defArgs (mth 6 0), defBody (mth 6 0), defScope (mth 6 0), [], []⟩, ⟨("Railed", some "__init__"), "__init__", "Body.__init__", defArgs (mth 6 0), defBody (mth 6 0), defScope (mth 6 0), [], []⟩]
def lawFnB : List He.DefD := lawFnB0
def lawLoose0 : List Str := [Str.ofString "_wall", Str.ofString "share_text", Str.ofString "spot_words", Str.ofString "body_words", Str.ofString "Body", Str.ofString "Wall", Str.ofString "Free", Str.ofString "Railed", Str.ofString "body_of", Str.ofString "state_text", Str.ofString "_law_cell", Str.ofString "_law_mixed", Str.ofString "_law_deck", Str.ofString "_law_take", Str.ofString "_law_gcd", Str.ofString "_law_share", Str.ofString "_law_number", Str.ofString "_law_part", Str.ofString "_law_names", Str.ofString "_law_shape", Str.ofString "_law_row", Str.ofString "_law_state", Str.ofString "_law_word", Str.ofString "_law_words", Str.ofString "_law_lines"]
def lawLoose : List Str := lawLoose0
abbrev lawRow : PySem.W.OpenRow := PySem.W.OpenLaw.row PySem.Challenge.rw_restbodies_k71_states_written
abbrev lawHook : PySem.W.Hook := hookM 5 lawChk lawFn
def lawOb (s : PySem.W.SharedT) : He.AlD := obsMG 5 lawChk lawFn (HandSHeadRun.getT s)
theorem lawOb_eq (s : PySem.W.SharedT) : lawOb s = lawHook.obs s.abs := obsMG_eq (HandSHeadRun.getT_eq s)
abbrev lawEnd (w : World) (os : OsState) : Option PySem.W.SharedT := HandSHeadRun.endF (HandSHeadRun.stepQ (HandSHeadRun.denQ HandSHeadRun.tabQ) lawRow.prog w) 20000 lawRow.prog w os
def lawK (s : PySem.W.SharedT) : Fg := He.frG (HandSHeadRun.getT s) (asM (HandSHeadRun.getT s) 5)
theorem lawRunA (w : World) (os : OsState) : (lawEnd w os).map (fun s => (HandSHeadRun.looksF lawRow.prog (PySem.W.boot_heap w.params) s.abs, seenL (PySem.W.view lawRow.prog [29]) lawLoose (importedModules lawRow.prog.main.body) (fun s => PySem.W.xlAt (PySem.W.view lawRow.prog [29]) [] s && PySem.W.recOk lawRow.toRowW.records s) s.abs)) = some (true, PySem.W.openGood (PySem.W.view lawRow.prog [29]) []) := by
  kernel_rfl
theorem lawRunB (w : World) (os : OsState) : (lawEnd w os).map (fun s => lawChk.all fun f => f (lawK s)) = some true := by
  kernel_rfl
theorem lawRunC (w : World) (os : OsState) : (lawEnd w os).map (fun s => (lawFnA.all (fun d => d.ok (lawK s)), lawFnA.map fun d => He.fnW (lawK s) d.at_)) = some (true, lawFnA.map He.DefD.val) := by
  kernel_rfl
theorem lawRunD (w : World) (os : OsState) : (lawEnd w os).map (fun s => (lawFnB.all (fun d => d.ok (lawK s)), lawFnB.map fun d => He.fnW (lawK s) d.at_)) = some (true, lawFnB.map He.DefD.val) := by
  kernel_rfl
theorem lawFn_two : lawFn = lawFnA ++ lawFnB := by rfl
theorem lawRun (w : World) : RunEqL lawRow (PySem.W.view lawRow.prog [29]) lawHook lawOb 20000 lawLoose w := by
  intro os
  have a := lawRunA w os
  have b := lawRunB w os
  have c := lawRunC w os
  have d := lawRunD w os
  show (lawEnd w os).map _ = _
  generalize lawEnd w os = e at a b c d ⊢
  cases e with
  | none => cases a
  | some s =>
    rw [Option.map_some, Option.some.injEq, Prod.mk.injEq] at a c d
    rw [Option.map_some, Option.some.injEq] at b
    rw [Option.map_some, Option.some.injEq]
    refine Prod.ext a.1 (Prod.ext a.2 ?_)
    show ((lawChk.all fun f => f (lawK s)) && lawFn.all (fun d => d.ok (lawK s)), lawFn.map fun d => He.fnW (lawK s) d.at_) = (true, lawFn.map He.DefD.val)
    rw [lawFn_two, List.all_append, List.map_append, List.map_append, b, c.1, c.2, d.1, d.2]
    rfl
end MM
end
namespace MM
open PySem PySem.Spec PyProof.Rows L2
abbrev St := L2.St

abbrev Fp := Addr → Prop
def TupF (K : Fg) (F : Fp) (H : Hp) (a : Addr) (xs : List V) : Prop :=
  (¬ F a ∧ Rd H a (.tup xs)) ∨ ∃ (o : Obj) (its : Array Value) (n : Nat), K.lookup a = some o ∧ o.cls = .type "tuple" ∧ o.data = .seq its n ∧ its.size ≤ sizeLine ∧ Vals xs its.toList
abbrev LsR (_ : Fg) (H : Hp) (a : Addr) (xs : List V) : Prop := Rd H a (.lst xs)
def LstF (K : Fg) (F : Fp) (H : Hp) (a : Addr) (xs : List V) : Prop := ¬ F a ∧ LsR K H a xs
def ScrF (K : Fg) (F : Fp) (H : Hp) (a : Addr) (xs : List V) : Prop :=
  (¬ F a ∧ Rd H a (.lst xs)) ∨ ∃ (o : Obj) (its : Array Value) (n : Nat), K.lookup a = some o ∧ o.cls = .type "list" ∧ o.dict = none ∧ o.data = .seq its n ∧ its.size ≤ sizeLine ∧ Vals xs its.toList
theorem LsR.sq {K : Fg} {H : Hp} {a : Addr} {xs : List V} (h : LsR K H a xs) : SqL K H a xs := .inl h
theorem LstF.ls {K : Fg} {F : Fp} {H : Hp} {a : Addr} {xs : List V} (h : LstF K F H a xs) : LsR K H a xs := h.2
theorem ScrF.sq {K : Fg} {F : Fp} {H : Hp} {a : Addr} {xs : List V} (h : ScrF K F H a xs) : SqL K H a xs := by
  rcases h with ⟨_, h⟩ | h
  · exact .inl h
  · exact .inr h
theorem TupF.sq {K : Fg} {F : Fp} {H : Hp} {a : Addr} {xs : List V} (h : TupF K F H a xs) : SqT K H a xs := by
  rcases h with ⟨_, h⟩ | h
  · exact .inl h
  · exact .inr h
theorem LstF.sq {K : Fg} {F : Fp} {H : Hp} {a : Addr} {xs : List V} (h : LstF K F H a xs) : SqL K H a xs := .inl h.2

section
abbrev EX := List Int × Addr × V
def thi (ks : List Int) : Int := reduceHash (Builtin.Tuple.tupleHashOf (ks.map hashInt))
def entX (x : List Int × Addr × Value) : DictEntry := ⟨thi x.1, .ref x.2.1, x.2.2⟩
abbrev PX : List EX → List (List Int × Addr × Value) → Prop := Paired fun p q => p.1 = q.1 ∧ p.2.1 = q.2.1 ∧ RelV p.2.2 q.2.2
def OX (a : Addr) (o : Obj) (es : List EX) : Prop :=
  es.length ≤ sizeLine ∧ (a == sysModules) = false ∧ (es.map (·.1)).Nodup ∧ ∃ xs, PX es xs ∧ ∃ (arr : Array DictEntry) (ep : Nat), o.ExactDict ∧ o.data = .dict arr ep ∧ arr.toList = xs.map entX
def exo (a : Addr) (o : Obj) : HO := .ext fun h => h.get? a = some o
theorem PX.any {es : List EX} {xs : List (List Int × Addr × Value)} (r : PX es xs) (k : List Int) : (es.any fun p => decide (p.1 = k)) = (atKey xs k).isSome := by
  induction r with
  | nil => rfl
  | @cons p q ps qs h t ih =>
    rw [List.any_cons, ih]
    by_cases e : q.1 = k
    · have : atKey (q :: qs) k = some q.2 := by simp [atKey, List.find?_cons, e]
      rw [this, h.1, decide_eq_true e]; rfl
    · have : atKey (q :: qs) k = atKey qs k := by simp [atKey, List.find?_cons, e]
      rw [this, h.1, decide_eq_false e]; rfl
variable {X : Cx} {pins : List (Addr × Obj)} {σ : L2.St} {H : Hp} {s : Shared} {a b : Addr} {es : List EX} {k : List Int} {v : V} {r : Value} {A : Around} {E : Value → Shared → Prop}
def valX (es : List EX) (k : List Int) : Option V := (es.find? fun p => decide (p.1 = k)).map (·.2.2)
theorem PX.val {es : List EX} {xs : List (List Int × Addr × Value)} (r : PX es xs) {k : List Int} {v : V} (h : valX es k = some v) : ∃ p, atKey xs k = some p ∧ RelV v p.2 := by
  induction r with
  | nil => cases h
  | @cons p q ps qs hq t ih =>
    unfold valX at h
    rw [List.find?_cons] at h
    by_cases e : p.1 = k
    · rw [decide_eq_true e] at h
      cases h
      exact ⟨q.2, by simp [atKey, List.find?_cons, ← hq.1, e], hq.2.2⟩
    · rw [decide_eq_false e] at h
      obtain ⟨z, h1, h2⟩ := ih h
      refine ⟨z, ?_, h2⟩
      rw [← h1]
      simp [atKey, List.find?_cons, ← hq.1, e]
end

def keyD : Key → D
  | .inl i => .int i
  | .inr x => .str x

mutual
inductive Rep (K : Fg) (F : Fp) (H : Hp) : V → D → Prop
  | non : Rep K F H .non .non
  | bl (b : Bool) : Rep K F H (.bl b) (.bl b)
  | int (i : Int) : Rep K F H (.int i) (.int i)
  | str (x : Str) : Rep K F H (.str x) (.str x)
  | tup {a : Addr} {vs : List V} {ds : List D} : TupF K F H a vs → Reps K F H vs ds → Rep K F H (.ref a) (.tup ds)
  | lst {a : Addr} {vs : List V} {ds : List D} : LstF K F H a vs → Reps K F H vs ds → Rep K F H (.ref a) (.lst ds)
  | dK {a : Addr} {kvs : List (Key × V)} {ds : List D} : ¬ F a → H a = some (.dK kvs) → Reps K F H (kvs.map (·.2)) ds → Rep K F H (.ref a) (.dct (kvs.map fun p => keyD p.1) ds)
  | dX {a : Addr} {o : Obj} {es : List EX} {ds : List D} : ¬ F a → es ≠ [] → H a = some (exo a o) → OX a o es → (∀ p ∈ es, TupF K F H p.2.1 (p.1.map V.int)) → Reps K F H (es.map (·.2.2)) ds → Rep K F H (.ref a) (.dct (es.map fun p => .tup (p.1.map D.int)) ds)
  | obj {a dx : Addr} {C : Str} {fs : List (Str × V)} {ds : List D} : ¬ F a → H a = some (.ins (He.ga K C) dx fs) → Reps K F H (fs.map (·.2)) ds → Rep K F H (.ref a) (.obj C (fs.map (·.1)) ds)
  | at (a : Addr) : Rep K F H (.ref a) (.at a)
  | ty (n : String) : Rep K F H (.ty n) (.ty n)
  | cls (C : Str) : Rep K F H (.ref (He.ga K C)) (.cls C)
  | scr {a : Addr} {ns : List Int} : ScrF K F H a (ns.map V.int) → Rep K F H (.ref a) (.scr ns)
inductive Reps (K : Fg) (F : Fp) (H : Hp) : List V → List D → Prop
  | nil : Reps K F H [] []
  | cons {v : V} {vs : List V} {d : D} {ds : List D} : Rep K F H v d → Reps K F H vs ds → Reps K F H (v :: vs) (d :: ds)
end

section
variable {K : Fg} {F F' F1 F2 : Fp} {H H' H1 H2 : Hp}
theorem Reps.length : ∀ {vs : List V} {ds : List D}, Reps K F H vs ds → vs.length = ds.length
  | _, _, .nil => rfl
  | _, _, .cons _ t => congrArg (· + 1) (Reps.length t)
theorem Reps.get : ∀ {vs : List V} {ds : List D} {i : Nat} {d : D}, Reps K F H vs ds → ds[i]? = some d → ∃ v, vs[i]? = some v ∧ Rep K F H v d
  | _, _, _, _, .nil, e => by simp at e
  | _, _, 0, _, .cons r _, e => by simp at e; subst e; exact ⟨_, rfl, r⟩
  | _, _, i + 1, d, .cons _ t, e => by
    obtain ⟨v, h1, h2⟩ := Reps.get (i := i) (d := d) t (by simpa using e)
    exact ⟨v, by simpa using h1, h2⟩
theorem Reps.getV : ∀ {vs : List V} {ds : List D} {i : Nat} {v : V}, Reps K F H vs ds → vs[i]? = some v → ∃ d, ds[i]? = some d ∧ Rep K F H v d
  | _, _, _, _, .nil, e => by simp at e
  | _, _, 0, _, .cons r _, e => by simp at e; subst e; exact ⟨_, rfl, r⟩
  | _, _, i + 1, v, .cons _ t, e => by
    obtain ⟨d, h1, h2⟩ := Reps.getV (i := i) (v := v) t (by simpa using e)
    exact ⟨d, by simpa using h1, h2⟩
theorem Reps.append : ∀ {vs ws : List V} {ds es : List D}, Reps K F H vs ds → Reps K F H ws es → Reps K F H (vs ++ ws) (ds ++ es)
  | _, _, _, _, .nil, s => s
  | _, _, _, _, .cons r t, s => .cons r (Reps.append t s)
theorem Reps.take : ∀ {vs : List V} {ds : List D} (n : Nat), Reps K F H vs ds → Reps K F H (vs.take n) (ds.take n)
  | _, _, 0, _ => .nil
  | _, _, _ + 1, .nil => .nil
  | _, _, n + 1, .cons r t => .cons r (Reps.take n t)
theorem Reps.drop : ∀ {vs : List V} {ds : List D} (n : Nat), Reps K F H vs ds → Reps K F H (vs.drop n) (ds.drop n)
  | _, _, 0, r => r
  | _, _, _ + 1, .nil => .nil
  | _, _, n + 1, .cons r t => Reps.drop n t
theorem Reps.set {x : V} {d : D} (r : Rep K F H x d) : ∀ {vs : List V} {ds : List D} (i : Nat), Reps K F H vs ds → Reps K F H (vs.set i x) (ds.set i d)
  | _, _, _, .nil => .nil
  | _, _, 0, .cons _ t => .cons r t
  | _, _, i + 1, .cons q t => .cons q (Reps.set r i t)
theorem Reps.snoc {vs : List V} {ds : List D} {v : V} {d : D} (h : Reps K F H vs ds) (r : Rep K F H v d) : Reps K F H (vs ++ [v]) (ds ++ [d]) := h.append (.cons r .nil)

structure Stp (F1 : Fp) (H : Hp) (F2 : Fp) (H' : Hp) : Prop where
  keep : ∀ b o, ¬ F1 b → H b = some o → H' b = some o
  new : ∀ b, F2 b → F1 b ∨ H b = none
abbrev Sm (F : Fp) (H H' : Hp) : Prop := ∀ b o, ¬ F b → H b = some o → H' b = some o
theorem Sm.refl (F : Fp) (H : Hp) : Sm F H H := fun _ _ _ e => e
theorem Sm.trans (a : Sm F H H1) (b : Sm F H1 H2) : Sm F H H2 := fun c o n e => b c o n (a c o n e)
theorem Sm.of_same (a : Same H H') : Sm F H H' := fun b o _ e => a b o e
theorem Sm.mono (a : Sm F H H') (h : ∀ b, F b → F' b) : Sm F' H H' := fun b o n e => a b o (fun z => n (h b z)) e
theorem Stp.refl (F : Fp) (H : Hp) : Stp F H F H := ⟨fun _ _ _ e => e, fun _ h => .inl h⟩
theorem Stp.trans {F3 : Fp} (a : Stp F1 H F2 H1) (b : Stp F2 H1 F3 H2) : Stp F1 H F3 H2 where
  keep := fun c o n e => b.keep c o (fun z => by rcases a.new c z with q | q; exact n q; rw [q] at e; cases e) (a.keep c o n e)
  new := fun c h => by
    rcases b.new c h with q | q
    · exact a.new c q
    · by_cases n : F1 c
      · exact .inl n
      · right
        cases e : H c with
        | none => rfl
        | some o => rw [a.keep c o n e] at q; cases q
theorem Stp.of_sm (a : Sm F H H') (h : ∀ b, F b → F1 b) : Stp F1 H F1 H' := ⟨fun b o n e => a b o (fun z => n (h b z)) e, fun _ z => .inl z⟩

theorem TupF.step {a : Addr} {xs : List V} (h : TupF K F1 H a xs) (s : Stp F1 H F2 H') : TupF K F2 H' a xs := by
  rcases h with ⟨n, h⟩ | h
  · refine .inl ⟨fun z => ?_, ?_⟩
    · rcases s.new a z with q | q
      · exact n q
      · rcases h with h | ⟨o, h⟩ <;> (rw [q] at h; cases h)
    · rcases h with h | ⟨o, h⟩
      · exact .inl (s.keep a _ n h)
      · exact .inr ⟨o, s.keep a _ n h⟩
  · exact .inr h
theorem LstF.step {a : Addr} {xs : List V} (h : LstF K F1 H a xs) (s : Stp F1 H F2 H') : LstF K F2 H' a xs := by
  obtain ⟨n, h⟩ := h
  refine ⟨fun z => ?_, ?_⟩
  · rcases s.new a z with q | q
    · exact n q
    · rcases h with h | ⟨o, h⟩ <;> (rw [q] at h; cases h)
  · rcases h with h | ⟨o, h⟩
    · exact .inl (s.keep a _ n h)
    · exact .inr ⟨o, s.keep a _ n h⟩
theorem ScrF.step {a : Addr} {xs : List V} (h : ScrF K F1 H a xs) (s : Stp F1 H F2 H') : ScrF K F2 H' a xs := by
  rcases h with h | h
  · exact .inl (LstF.step (K := K) h s)
  · exact .inr h
theorem nstep {a : Addr} {o : HO} (s : Stp F1 H F2 H') (n : ¬ F1 a) (e : H a = some o) : ¬ F2 a := fun z => by
  rcases s.new a z with q | q
  · exact n q
  · rw [q] at e; cases e
mutual
theorem Rep.step (s : Stp F1 H F2 H') : ∀ {v : V} {d : D}, Rep K F1 H v d → Rep K F2 H' v d
  | _, _, .non => .non
  | _, _, .bl b => .bl b
  | _, _, .int i => .int i
  | _, _, .str x => .str x
  | _, _, .tup h r => .tup (h.step s) (Reps.step s r)
  | _, _, .lst h r => .lst (h.step s) (Reps.step s r)
  | _, _, .dK n e r => .dK (nstep s n e) (s.keep _ _ n e) (Reps.step s r)
  | _, _, .dX n ne e ox kt r => .dX (nstep s n e) ne (s.keep _ _ n e) ox (fun p hp => (kt p hp).step s) (Reps.step s r)
  | _, _, .obj n e r => .obj (nstep s n e) (s.keep _ _ n e) (Reps.step s r)
  | _, _, .at a => .at a
  | _, _, .ty n => .ty n
  | _, _, .cls C => .cls C
  | _, _, .scr h => .scr (h.step s)
theorem Reps.step (s : Stp F1 H F2 H') : ∀ {vs : List V} {ds : List D}, Reps K F1 H vs ds → Reps K F2 H' vs ds
  | _, _, .nil => .nil
  | _, _, .cons r t => .cons (Rep.step s r) (Reps.step s t)
end
theorem Stp.less (h : ∀ b, F2 b → F1 b) : Stp F1 H F2 H := ⟨fun _ _ _ e => e, fun b z => .inl (h b z)⟩
theorem Rep.anti {v : V} {d : D} (r : Rep K F1 H v d) (h : ∀ b, F2 b → F1 b) : Rep K F2 H v d := Rep.step (Stp.less h) r
theorem Reps.anti {v : List V} {d : List D} (r : Reps K F1 H v d) (h : ∀ b, F2 b → F1 b) : Reps K F2 H v d := Reps.step (Stp.less h) r
theorem Rep.same {v : V} {d : D} (r : Rep K F H v d) (s : Sm F H H') : Rep K F H' v d := Rep.step ⟨s, fun _ z => .inl z⟩ r
theorem Reps.same {v : List V} {d : List D} (r : Reps K F H v d) (s : Sm F H H') : Reps K F H' v d := Reps.step ⟨s, fun _ z => .inl z⟩ r

inductive DOb (K : Fg) (F : Fp) (H : Hp) (a : Addr) : HO → List D → List D → Prop
  | k {kvs : List (Key × V)} {ds : List D} : Reps K F H (kvs.map (·.2)) ds → DOb K F H a (.dK kvs) (kvs.map fun p => keyD p.1) ds
  | x {o : Obj} {es : List EX} {ds : List D} : es ≠ [] → OX a o es → (∀ p ∈ es, TupF K F H p.2.1 (p.1.map V.int)) → Reps K F H (es.map (·.2.2)) ds → DOb K F H a (exo a o) (es.map fun p => .tup (p.1.map D.int)) ds
theorem DOb.step {u : HO} {a : Addr} {ks ds : List D} (s : Stp F1 H F2 H') (r : DOb K F1 H a u ks ds) : DOb K F2 H' a u ks ds := by
  cases r with
  | k r => exact .k (r.step s)
  | x n ox kt r => exact .x n ox (fun p hp => (kt p hp).step s) (r.step s)
theorem DOb.anti {u : HO} {a : Addr} {ks ds : List D} (r : DOb K F1 H a u ks ds) (h : ∀ b, F2 b → F1 b) : DOb K F2 H a u ks ds := r.step (Stp.less h)
theorem DOb.same {u : HO} {a : Addr} {ks ds : List D} (r : DOb K F H a u ks ds) (s : Sm F H H') : DOb K F H' a u ks ds := r.step ⟨s, fun _ z => .inl z⟩
theorem DOb.rep {u : HO} {ks ds : List D} {a : Addr} (r : DOb K F H a u ks ds) (n : ¬ F a) (e : H a = some u) : Rep K F H (.ref a) (.dct ks ds) := by
  cases r with
  | k r => exact .dK n e r
  | x ne ox kt r => exact .dX n ne e ox kt r
inductive RepW (K : Fg) (F0 F : Fp) (H : Hp) : V → D → Prop
  | of {v : V} {d : D} : Rep K F H v d → RepW K F0 F H v d
  | dct {a : Addr} {u : HO} {ks ds : List D} : ¬ F0 a → H a = some u → DOb K F H a u ks ds → RepW K F0 F H (.ref a) (.dct ks ds)
  | lst {a : Addr} {vs : List V} {ds : List D} : LstF K F0 H a vs → Reps K F H vs ds → RepW K F0 F H (.ref a) (.lst ds)
inductive RepsW (K : Fg) (F0 F : Fp) (H : Hp) : List V → List D → Prop
  | nil : RepsW K F0 F H [] []
  | cons {v : V} {vs : List V} {d : D} {ds : List D} : RepW K F0 F H v d → RepsW K F0 F H vs ds → RepsW K F0 F H (v :: vs) (d :: ds)
section
variable {F0 : Fp}
theorem RepW.lstOf {v : V} {ds : List D} (r : RepW K F0 F H v (.lst ds)) : ∃ a vs, v = .ref a ∧ LsR K H a vs ∧ Reps K F H vs ds := by
  cases r with
  | of r => cases r with | lst h r => exact ⟨_, _, rfl, h.ls, r⟩
  | lst h r => exact ⟨_, _, rfl, h.ls, r⟩
theorem RepW.tupOf {v : V} {ds : List D} (r : RepW K F0 F H v (.tup ds)) : ∃ a vs, v = .ref a ∧ TupF K F H a vs ∧ Reps K F H vs ds := by
  cases r with
  | of r => cases r with | tup h r => exact ⟨_, _, rfl, h, r⟩
theorem RepW.scrOf {v : V} {ns : List Int} (r : RepW K F0 F H v (.scr ns)) : ∃ a, v = .ref a ∧ ScrF K F H a (ns.map V.int) := by
  cases r with
  | of r => cases r with | scr h => exact ⟨_, rfl, h⟩
theorem RepW.intOf {v : V} {i : Int} (r : RepW K F0 F H v (.int i)) : v = .int i := by
  cases r with | of r => cases r; rfl
theorem RepW.blOf {v : V} {i : Bool} (r : RepW K F0 F H v (.bl i)) : v = .bl i := by
  cases r with | of r => cases r; rfl
theorem RepW.strOf {v : V} {i : Str} (r : RepW K F0 F H v (.str i)) : v = .str i := by
  cases r with | of r => cases r; rfl
theorem RepW.nonOf {v : V} (r : RepW K F0 F H v .non) : v = .non := by
  cases r with | of r => cases r; rfl
theorem RepW.same {v : V} {d : D} (r : RepW K F0 F H v d) (s : Sm F0 H H') (h : ∀ b, F0 b → F b) : RepW K F0 F H' v d := by
  cases r with
  | of r => exact .of (r.same (s.mono h))
  | lst q r => exact .lst (q.step ⟨s, fun _ z => .inl z⟩) (r.same (s.mono h))
  | dct n e r => exact .dct n (s _ _ n e) (r.same (s.mono h))
theorem RepsW.same : ∀ {v : List V} {d : List D}, RepsW K F0 F H v d → Sm F0 H H' → (∀ b, F0 b → F b) → RepsW K F0 F H' v d
  | _, _, .nil, _, _ => .nil
  | _, _, .cons r t, s, h => .cons (r.same s h) (RepsW.same t s h)
theorem Reps.weak : ∀ {v : List V} {d : List D}, Reps K F H v d → RepsW K F0 F H v d
  | _, _, .nil => .nil
  | _, _, .cons r t => .cons (.of r) (Reps.weak t)
theorem RepW.lend {v : V} {d : D} (r : RepW K F0 F H v d) (h : ∀ b, F0 b → F b) : Rep K F0 H v d := by
  cases r with
  | of r => exact r.anti h
  | lst q r => exact .lst q (Reps.anti r h)
  | dct n e r => exact (r.anti h).rep n e
theorem RepsW.lend : ∀ {v : List V} {d : List D}, RepsW K F0 F H v d → (∀ b, F0 b → F b) → Reps K F0 H v d
  | _, _, .nil, _ => .nil
  | _, _, .cons r t, h => .cons (r.lend h) (RepsW.lend t h)
theorem RepsW.one {vs : List V} {d : D} (r : RepsW K F0 F H vs [d]) : ∃ v, vs = [v] ∧ RepW K F0 F H v d := by
  cases r with | cons r t => cases t; exact ⟨_, rfl, r⟩
theorem RepsW.two {vs : List V} {d e : D} (r : RepsW K F0 F H vs [d, e]) : ∃ v w, vs = [v, w] ∧ RepW K F0 F H v d ∧ RepW K F0 F H w e := by
  cases r with | cons r t => cases t with | cons r2 t => cases t; exact ⟨_, _, rfl, r, r2⟩
end
end

abbrev Fds := Option (List Str × List D)
inductive Res (τ α : Type) where
  | ok (a : α) (t : τ) | ex (n : Str) (fs : Fds) (t : τ) | bad
def Res.bind {τ α β : Type} (r : Res τ α) (k : α → τ → Res τ β) : Res τ β := match r with
  | .ok a t => k a t
  | .ex n fs t => .ex n fs t
  | .bad => .bad
@[simp] theorem Res.bind_ok {τ α β : Type} (a : α) (t : τ) (k : α → τ → Res τ β) : (Res.ok a t).bind k = k a t := rfl
@[simp] theorem Res.bind_ex {τ α β : Type} (n : Str) (fs : Fds) (t : τ) (k : α → τ → Res τ β) : (Res.ex n fs t : Res τ α).bind k = .ex n fs t := rfl
@[simp] theorem Res.bind_bad {τ α β : Type} (k : α → τ → Res τ β) : (Res.bad : Res τ α).bind k = .bad := rfl
def opt {τ α : Type} (o : Option α) (t : τ) : Res τ α := match o with
  | some a => .ok a t
  | none => .bad
@[simp] theorem opt_some {τ α : Type} (a : α) (t : τ) : opt (some a) t = Res.ok a t := rfl
@[simp] theorem opt_none {τ α : Type} (t : τ) : (opt none t : Res τ α) = .bad := rfl

inductive Slot where
  | no | val (d : D) | own (xs : List D) | dct (ks xs : List D)
def Slot.mine : Slot → Bool
  | .own _ => true
  | .dct .. => true
  | _ => false
inductive OwnR (K : Fg) (F : Fp) (H : Hp) (a : Addr) : HO → Slot → Prop
  | lst {vs : List V} {xs : List D} : Reps K F H vs xs → OwnR K F H a (.lst vs) (.own xs)
  | dct {u : HO} {ks xs : List D} : DOb K F H a u ks xs → OwnR K F H a u (.dct ks xs)
theorem OwnR.step {K : Fg} {F1 F2 : Fp} {H H' : Hp} {a : Addr} {u : HO} {x : Slot} (r : OwnR K F1 H a u x) (s : Stp F1 H F2 H') : OwnR K F2 H' a u x := by
  cases r with
  | lst r => exact .lst (r.step s)
  | dct r => exact .dct (r.step s)
theorem OwnR.anti {K : Fg} {F1 F2 : Fp} {H : Hp} {a : Addr} {u : HO} {x : Slot} (r : OwnR K F1 H a u x) (h : ∀ b, F2 b → F1 b) : OwnR K F2 H a u x := r.step (Stp.less h)
theorem OwnR.same {K : Fg} {F : Fp} {H H' : Hp} {a : Addr} {u : HO} {x : Slot} (r : OwnR K F H a u x) (s : Sm F H H') : OwnR K F H' a u x := r.step ⟨s, fun _ z => .inl z⟩
abbrev Rho := List Slot
inductive Fl (τ : Type) where
  | nx (ρ : Rho) (t : τ) | rt (d : D) (t : τ) | bk (ρ : Rho) (t : τ) | ct (ρ : Rho) (t : τ) | ex (n : Str) (fs : Fds) (ρ : Rho) (t : τ) | bad

def XRep (K : Fg) (F : Fp) (H : Hp) (n : Str) (fs : Fds) (cls : Value) (dd : Option Addr) : Prop :=
  cls = .ref (He.ga K n) ∧ match fs with
    | none => dd = none
    | some (ns, ds) => ∃ a vs, dd = some a ∧ H a = some (.xd (ns.zip vs)) ∧ vs.length = ns.length ∧ Reps K F H vs ds
theorem XRep.anti {K : Fg} {F F' : Fp} {H : Hp} {n : Str} {fs : Fds} {cls : Value} {dd : Option Addr} (x : XRep K F H n fs cls dd) (h : ∀ b, F' b → F b) : XRep K F' H n fs cls dd := by
  obtain ⟨e, x⟩ := x
  refine ⟨e, ?_⟩
  cases fs with
  | none => exact x
  | some p =>
    obtain ⟨ns, ds⟩ := p
    obtain ⟨a, vs, h1, h2, h3, h4⟩ := x
    exact ⟨a, vs, h1, h2, h3, h4.anti h⟩

structure SC (τ : Type) where
  F : Fp
  Iv : τ → Fp → Hp → Prop
  dom : ∀ t G H b, Iv t G H → F b → H b ≠ none
  step : ∀ t G H G' H', Iv t G H → (∀ b o, F b → H b = some o → H' b = some o) → Stp G H G' H' → Iv t G' H'
theorem SC.stay {τ : Type} (C : SC τ) {t : τ} {G : Fp} {H H' : Hp} (i : C.Iv t G H) (s : Same H H') : C.Iv t G H' := C.step t G H G H' i (fun b o _ e => s b o e) ⟨fun b o _ e => s b o e, fun _ h => .inl h⟩
theorem SC.less {τ : Type} (C : SC τ) {t : τ} {G G' : Fp} {H : Hp} (i : C.Iv t G H) (h : ∀ b, G' b → G b) : C.Iv t G' H := C.step t G H G' H i (fun _ _ _ e => e) (Stp.less h)

def SC.cmp {τ : Type} (C : SC τ) (D0 : Addr) (u : HO) : SC τ where
  F := fun b => C.F b ∨ b = D0
  Iv := fun t G H => C.Iv t G H ∧ H D0 = some u
  dom := fun t G H b h1 h2 => by
    rcases h2 with h2 | h2
    · exact C.dom t G H b h1.1 h2
    · rw [h2, h1.2]; intro z; cases z
  step := fun t G H G' H' h1 h2 s => ⟨C.step t G H G' H' h1.1 (fun b o q e => h2 b o (.inl q) e) s, h2 _ _ (.inr rfl) h1.2⟩
def SC.ov {τ : Type} (C : SC τ) (F : Fp) (H1 : Hp) (hF : ∀ b, C.F b → F b) (dm : ∀ b, F b → H1 b ≠ none) : SC τ where
  F := F
  Iv := fun t G H' => C.Iv t G H' ∧ Stp F H1 G H' ∧ ∀ b o, F b → ¬ C.F b → H1 b = some o → H' b = some o
  dom := fun t G H' b h hb => by
    by_cases q : C.F b
    · exact C.dom t G H' b h.1 q
    · cases e : H1 b with
      | none => exact absurd e (dm b hb)
      | some o => rw [h.2.2 b o hb q e]; intro z; cases z
  step := fun t G H G' H' h1 h2 s => ⟨C.step t G H G' H' h1.1 (fun b o h e => h2 b o (hF b h) e) s, h1.2.1.trans s, fun b o hb n e => h2 b o hb (h1.2.2 b o hb n e)⟩
def SC.lend {τ : Type} (C : SC τ) (O : Fp) (H1 : Hp) (hO : ∀ b, O b → ¬ C.F b) (dm : ∀ b, O b → H1 b ≠ none) : SC τ where
  F := C.F
  Iv := fun t G H => C.Iv t (fun b => G b ∨ O b) H ∧ (∀ b, O b → ¬ G b) ∧ ∀ b o, O b → H1 b = some o → H b = some o
  dom := fun t G H b h hb => C.dom t _ H b h.1 hb
  step := fun t G H G' H' h1 h2 s => by
    have nn : ∀ b, O b → H b ≠ none := fun b hb => by
      cases e : H1 b with
      | none => exact absurd e (dm b hb)
      | some o => rw [h1.2.2 b o hb e]; intro z; cases z
    refine ⟨C.step t _ H _ H' h1.1 h2 ⟨fun b o n e => s.keep b o (fun z => n (.inl z)) e, fun b h => h.elim (fun z => (s.new b z).elim (fun z => .inl (.inl z)) .inr) fun z => .inl (.inr z)⟩, fun b hb hg => ?_, fun b o hb e => ?_⟩
    · rcases s.new b hg with q | q
      · exact h1.2.1 b hb q
      · exact nn b hb q
    · exact s.keep b o (h1.2.1 b hb) (h1.2.2 b o hb e)
class Sto (τ : Type) where
  ok : Fg → SC τ → Prop
  cmp : ∀ K C D0 u, ¬ C.F D0 → ok K C → ok K (SC.cmp C D0 u)
  ov : ∀ K C F H1 hF dm, ok K C → ok K (SC.ov C F H1 hF dm)
  lend : ∀ K C O H1 hO dm, ok K C → ok K (SC.lend C O H1 hO dm)
instance : Sto Unit := ⟨fun _ _ => True, fun _ _ _ _ _ _ => trivial, fun _ _ _ _ _ _ _ => trivial, fun _ _ _ _ _ _ _ => trivial⟩

def Fo (F : Fp) (ρ : Rho) (σ : St) : Fp := fun b => F b ∨ ∃ (i : Nat) (x : Slot), (ρ[i]? = some x ∧ x.mine = true) ∧ σ[i]? = some (some (.ref b))

structure At {τ : Type} [Sto τ] (K : Fg) (C : SC τ) (ρ : Rho) (t : τ) (σ : St) (H : Hp) : Prop where
  okC : Sto.ok K C
  st : C.Iv t (Fo C.F ρ σ) H
  len : σ.length = ρ.length
  val : ∀ (i : Nat) (d : D), ρ[i]? = some (.val d) → ∃ v, σ[i]? = some (some v) ∧ Rep K (Fo C.F ρ σ) H v d
  mine : ∀ (i : Nat) (x : Slot), (ρ[i]? = some x ∧ x.mine = true) → ∃ (a : Addr) (u : HO), σ[i]? = some (some (.ref a)) ∧ ¬ C.F a ∧ H a = some u ∧ OwnR K (Fo C.F ρ σ) H a u x
  dis : ∀ (i j : Nat) (x y : Slot), (ρ[i]? = some x ∧ x.mine = true) → (ρ[j]? = some y ∧ y.mine = true) → σ[i]? = σ[j]? → i = j

section
variable {τ : Type} [Sto τ] {K : Fg} {C : SC τ} {ρ : Rho} {t t' : τ} {σ : St} {H H' H1 : Hp}
theorem At.dom (A : At K C ρ t σ H) : ∀ b, Fo C.F ρ σ b → H b ≠ none := fun b h => by
  rcases h with h | ⟨i, xs, h1, h2⟩
  · exact C.dom _ _ _ _ A.st h
  · obtain ⟨a, vs, e, _, q, _⟩ := A.mine i xs h1
    rw [e] at h2
    cases h2
    rw [q]
    intro z; cases z
theorem At.own (A : At K C ρ t σ H) (i : Nat) (xs : List D) (e : ρ[i]? = some (.own xs)) : ∃ (a : Addr) (vs : List V), σ[i]? = some (some (.ref a)) ∧ ¬ C.F a ∧ H a = some (.lst vs) ∧ Reps K (Fo C.F ρ σ) H vs xs := by
  obtain ⟨a, u, h1, h2, h3, h4⟩ := A.mine i _ ⟨e, rfl⟩
  cases h4 with
  | lst r => exact ⟨a, _, h1, h2, h3, r⟩
theorem At.dct (A : At K C ρ t σ H) (i : Nat) (ks xs : List D) (e : ρ[i]? = some (.dct ks xs)) : ∃ (a : Addr) (u : HO), σ[i]? = some (some (.ref a)) ∧ ¬ C.F a ∧ H a = some u ∧ DOb K (Fo C.F ρ σ) H a u ks xs := by
  obtain ⟨a, u, h1, h2, h3, h4⟩ := A.mine i _ ⟨e, rfl⟩
  cases h4 with
  | dct r => exact ⟨a, _, h1, h2, h3, r⟩
theorem Fo.base {F : Fp} {b : Addr} (h : F b) : Fo F ρ σ b := .inl h
theorem At.next (A : At K C ρ t σ H) (s : Sm C.F H H') (i : C.Iv t' (Fo C.F ρ σ) H') : At K C ρ t' σ H' where
  okC := A.okC
  st := i
  len := A.len
  val := fun i d e => by
    obtain ⟨v, h1, h2⟩ := A.val i d e
    exact ⟨v, h1, h2.same (s.mono fun _ z => .inl z)⟩
  mine := fun i xs e => by
    obtain ⟨a, vs, h1, h2, h3, h4⟩ := A.mine i xs e
    exact ⟨a, vs, h1, h2, s _ _ h2 h3, h4.same (s.mono fun _ z => .inl z)⟩
  dis := A.dis
end

section
variable {τ : Type} [Sto τ] {α β : Type}
abbrev Rel (β α : Type) := Fg → (Fp → Hp → Prop) → Fp → Fp → Hp → Hp → β → α → Prop
structure RelOk (R : Rel β α) : Prop where
  base : ∀ K I F0 F H H1 H' v d, Sm F H H1 → R K I F0 F H1 H' v d → R K I F0 F H H' v d
def Post (R : Rel β α) (K : Fg) (W : WX) (C : SC τ) (F : Fp) (σ : St) (H : Hp) (r : Res τ α) (Q : β → Hp → Prop) : Prop := match r with
  | .ok d t' => ∀ v H', Sm C.F H H' → C.Iv t' F H' → R K (C.Iv t') C.F F H H' v d → Q v H'
  | .ex n fs t' => ∀ cls dd H', Sm C.F H H' → C.Iv t' F H' → XRep K F H' n fs cls dd → W cls dd σ H'
  | .bad => False
def tG (R : Rel β α) (K : Fg) (W : WX) (m : Rho → τ → Res τ α) : St → Hp → (β → Hp → Prop) → Prop := fun σ H Q =>
  ∃ (C : SC τ) (ρ : Rho) (t : τ), At K C ρ t σ H ∧ Post R K W C (Fo C.F ρ σ) σ H (m ρ t) Q
variable {R : Rel β α} {K : Fg} {W : WX} {C : SC τ} {F : Fp} {σ : St} {H H1 : Hp} {ρ : Rho} {t : τ} {Q Q' : β → Hp → Prop}
theorem Post.rebase (ok : RelOk R) {r : Res τ α} (h : Post R K W C F σ H r Q) (s : Sm C.F H H1) (hF : ∀ b, C.F b → F b) : Post R K W C F σ H1 r Q := by
  cases r with
  | ok d t' => exact fun v H' s' i r => h v H' (s.trans s') i (ok.base _ _ _ _ _ _ _ _ _ (s.mono hF) r)
  | ex n fs t' => exact fun cls dd H' s' i x => h cls dd H' (s.trans s') i x
  | bad => exact h
theorem use {γ δ : Type} {R2 : Rel δ γ} {ma : Rho → τ → Res τ α} {k : α → τ → Res τ γ} {Qd : δ → Hp → Prop} (ok2 : RelOk R2) (A : At K C ρ t σ H) (h : Post R2 K W C (Fo C.F ρ σ) σ H ((ma ρ t).bind k) Qd)
    (hk : ∀ d t1 v H1, ma ρ t = .ok d t1 → Sm C.F H H1 → At K C ρ t1 σ H1 → R K (C.Iv t1) C.F (Fo C.F ρ σ) H H1 v d → Post R2 K W C (Fo C.F ρ σ) σ H1 (k d t1) Qd → Q v H1) : tG R K W ma σ H Q := by
  refine ⟨C, ρ, t, A, ?_⟩
  cases e : ma ρ t with
  | ok d t1 =>
    rw [e] at h
    exact fun v H1 s i r => hk d t1 v H1 e s (A.next s i) r (Post.rebase ok2 h s fun _ z => .inl z)
  | ex n fs t1 =>
    rw [e] at h
    exact h
  | bad =>
    rw [e] at h
    exact h
end

def rE : Rel V D := fun K _ _ F _ H' v d => Rep K F H' v d
def rW : Rel V D := fun K _ F0 F _ H' v d => RepW K F0 F H' v d
def rB : Rel Bool Bool := fun _ _ _ _ _ _ v d => v = d
def rA : Rel (List V) (List D) := fun K _ _ F _ H' v d => Reps K F H' v d
def rAW : Rel (List V) (List D) := fun K _ F0 F _ H' v d => RepsW K F0 F H' v d
def rF : Rel V (List D) := fun K I _ F H H' v ds => ∃ a vs, v = .ref a ∧ ¬ F a ∧ H a = none ∧ H' a = some (.lst vs) ∧ Reps K (fun b => F b ∨ b = a) H' vs ds ∧ I (fun b => F b ∨ b = a) H'
theorem okE : RelOk rE := ⟨fun _ _ _ _ _ _ _ _ _ _ h => h⟩
theorem okB : RelOk rB := ⟨fun _ _ _ _ _ _ _ _ _ _ h => h⟩
theorem okA : RelOk rA := ⟨fun _ _ _ _ _ _ _ _ _ _ h => h⟩
theorem okAW : RelOk rAW := ⟨fun _ _ _ _ _ _ _ _ _ _ h => h⟩
theorem okF : RelOk rF := ⟨fun K I F0 F H H1 H' v d s h => by
  obtain ⟨a, vs, e, n, q, r⟩ := h
  refine ⟨a, vs, e, n, ?_, r⟩
  cases z : H a with
  | none => rfl
  | some o => rw [s a o n z] at q; cases q⟩
abbrev tE {τ : Type} [Sto τ] (K : Fg) (W : WX) (m : Rho → τ → Res τ D) : TE := tG rE K W m
abbrev tW {τ : Type} [Sto τ] (K : Fg) (W : WX) (m : Rho → τ → Res τ D) : TE := tG rW K W m
abbrev tF {τ : Type} [Sto τ] (K : Fg) (W : WX) (m : Rho → τ → Res τ (List D)) : TE := tG rF K W m
abbrev tT {τ : Type} [Sto τ] (K : Fg) (W : WX) (m : Rho → τ → Res τ Bool) : TT := tG rB K W m
abbrev tAW {τ : Type} [Sto τ] (K : Fg) (W : WX) (m : Rho → τ → Res τ (List D)) : TA := tG rAW K W m
abbrev tA {τ : Type} [Sto τ] (K : Fg) (W : WX) (m : Rho → τ → Res τ (List D)) : TA := tG rA K W m

theorem PE.imp {X : Cx} {e : Expr} {t t' : TE} (h : PE X e t) (i : ∀ σ H Q, t' σ H Q → t σ H Q) : PE X e t' := ⟨fun pins s σ H Q I q => h.run pins s σ H Q I (i σ H Q q)⟩
theorem PT.imp {X : Cx} {e : Expr} {t t' : TT} (h : PT X e t) (i : ∀ σ H Q, t' σ H Q → t σ H Q) : PT X e t' := ⟨fun pins s σ H Q I q => h.run pins s σ H Q I (i σ H Q q)⟩
theorem PA.imp {X : Cx} {e : List Expr} {t t' : TA} (h : PA X e t) (i : ∀ σ H Q, t' σ H Q → t σ H Q) : PA X e t' := ⟨fun pos pins s σ H Q I q => h.run pos pins s σ H Q I (i σ H Q q)⟩
theorem PW.imp {X : Cx} {e : Expr} {t t' : TT} (h : PW X e t) (i : ∀ σ H Q, t' σ H Q → t σ H Q) : PW X e t' := ⟨fun wh pins s σ H Q I q => h.run wh pins s σ H Q I (i σ H Q q)⟩
theorem PS.imp {X : Cx} {e : Stmt} {t t' : TS} (h : PS X e t) (i : ∀ D σ H, t' D σ H → t D σ H) : PS X e t' := ⟨fun pins s σ H D I q => h.run pins s σ H D I (i D σ H q)⟩
theorem PSs.imp {X : Cx} {e : List Stmt} {t t' : TS} (h : PSs X e t) (i : ∀ D σ H, t' D σ H → t D σ H) : PSs X e t' := ⟨fun pins s σ H D I q => h.run pins s σ H D I (i D σ H q)⟩

section
variable {τ : Type} [Sto τ]
def SPost (K : Fg) (W : WX) (C : SC τ) (F1 : Fp) (H : Hp) (r : Fl τ) (E : Ends) : Prop := match r with
  | .nx ρ' t' => ∀ σ' H', Stp F1 H (Fo C.F ρ' σ') H' → At K C ρ' t' σ' H' → E.nx σ' H'
  | .bk ρ' t' => ∀ σ' H', Stp F1 H (Fo C.F ρ' σ') H' → At K C ρ' t' σ' H' → E.bk σ' H'
  | .ct ρ' t' => ∀ σ' H', Stp F1 H (Fo C.F ρ' σ') H' → At K C ρ' t' σ' H' → E.ct σ' H'
  | .rt d t' => ∀ v H', Sm F1 H H' → C.Iv t' C.F H' → Rep K C.F H' v d → E.rt v H'
  | .ex n fs ρ' t' => ∀ cls dd σ' H', Stp F1 H (Fo C.F ρ' σ') H' → At K C ρ' t' σ' H' → XRep K (Fo C.F ρ' σ') H' n fs cls dd → W cls dd σ' H'
  | .bad => False
def tS (K : Fg) (W : WX) (m : Rho → τ → Fl τ) : TS := fun E σ H => ∃ (C : SC τ) (ρ : Rho) (t : τ), At K C ρ t σ H ∧ SPost K W C (Fo C.F ρ σ) H (m ρ t) E
variable {K : Fg} {W : WX} {C : SC τ} {F1 F2 : Fp} {H H1 : Hp}
theorem SPost.rebase {r : Fl τ} {E : Ends} (h : SPost K W C F1 H r E) (s : Stp F1 H F2 H1) : SPost K W C F2 H1 r E := by
  cases r with
  | nx ρ' t' => exact fun σ' H' s' a => h σ' H' (s.trans s') a
  | bk ρ' t' => exact fun σ' H' s' a => h σ' H' (s.trans s') a
  | ct ρ' t' => exact fun σ' H' s' a => h σ' H' (s.trans s') a
  | rt d t' => exact fun v H' s' i r => h v H' (fun b o n e => s' b o (fun z => by rcases s.new b z with q | q; exact n q; rw [q] at e; cases e) (s.keep b o n e)) i r
  | ex n fs ρ' t' => exact fun cls dd σ' H' s' a x => h cls dd σ' H' (s.trans s') a x
  | bad => exact h
end
end MM

namespace MM
open PySem PySem.Spec PyProof.Rows L2
section
variable {X : Cx} {W : WX} {τ : Type} [Sto τ] {K : Fg}
abbrev ME (τ α : Type) := Rho → τ → Res τ α

def eVar (i : Nat) : ME τ D := fun ρ t => match ρ[i]? with
  | some (.val d) => .ok d t
  | _ => .bad
theorem me_var {i : Nat} {e : Expr} (h : PE X e (tVar i)) : PE X e (tE X.K W (eVar (τ := τ) i)) := PE.imp h fun σ H Q ⟨C, ρ, t, A, p⟩ => by
  unfold eVar at p
  cases e : ρ[i]? with
  | none => rw [e] at p; exact p.elim
  | some s => cases s with
    | no => rw [e] at p; exact p.elim
    | own xs => rw [e] at p; exact p.elim
    | dct ks xs => rw [e] at p; exact p.elim
    | val d =>
      rw [e] at p
      obtain ⟨v, h1, h2⟩ := A.val i d e
      exact ⟨v, h1, p v H (Sm.refl _ _) A.st h2⟩
def eVarW (i : Nat) : ME τ D := fun ρ t => match ρ[i]? with
  | some (.val d) => .ok d t
  | some (.own xs) => .ok (.lst xs) t
  | some (.dct ks xs) => .ok (.dct ks xs) t
  | _ => .bad
theorem me_varW {i : Nat} {e : Expr} (h : PE X e (tVar i)) : PE X e (tW X.K W (eVarW (τ := τ) i)) := PE.imp h fun σ H Q ⟨C, ρ, t, A, p⟩ => by
  unfold eVarW at p
  cases e : ρ[i]? with
  | none => rw [e] at p; exact p.elim
  | some s => cases s with
    | no => rw [e] at p; exact p.elim
    | own xs =>
      rw [e] at p
      obtain ⟨a, vs, h1, h2, h3, h4⟩ := A.own i xs e
      exact ⟨.ref a, h1, p _ H (Sm.refl _ _) A.st (.lst ⟨h2, .inl h3⟩ h4)⟩
    | dct ks xs =>
      rw [e] at p
      obtain ⟨a, u, h1, h2, h3, h4⟩ := A.dct i ks xs e
      exact ⟨.ref a, h1, p _ H (Sm.refl _ _) A.st (.dct h2 h3 h4)⟩
    | val d =>
      rw [e] at p
      obtain ⟨v, h1, h2⟩ := A.val i d e
      exact ⟨v, h1, p v H (Sm.refl _ _) A.st (.of h2)⟩
theorem weak {e : Expr} {m : ME τ D} (h : PE X e (tE K W m)) : PE X e (tW K W m) := PE.imp h fun σ H Q ⟨C, ρ, t, A, p⟩ => by
  refine ⟨C, ρ, t, A, ?_⟩
  cases e : m ρ t with
  | ok d t' => rw [e] at p; exact fun v H' s i r => p v H' s i (.of r)
  | ex n fs t' => rw [e] at p; exact p
  | bad => rw [e] at p; exact p
def eC (d : D) : ME τ D := fun _ t => .ok d t
theorem me_c {e : Expr} {v : V} {d : D} (h : PE X e (tC v)) (r : ∀ F H, Rep X.K F H v d) : PE X e (tE X.K W (eC (τ := τ) d)) := PE.imp h fun σ H Q ⟨C, ρ, t, A, p⟩ => p v H (Sm.refl _ _) A.st (r _ _)
theorem me_int {i j pos} : PE X (.Constant (.int i) j pos) (tE X.K W (eC (τ := τ) (.int i))) := me_c pe_int fun _ _ => .int i
theorem me_bl {i j pos} : PE X (.Constant (.bool i) j pos) (tE X.K W (eC (τ := τ) (.bl i))) := me_c pe_bl fun _ _ => .bl i
theorem me_str {i j pos} : PE X (.Constant (.str i) j pos) (tE X.K W (eC (τ := τ) (.str i))) := me_c pe_str fun _ _ => .str i
theorem me_non {j pos} : PE X (.Constant .none j pos) (tE X.K W (eC (τ := τ) .non)) := me_c pe_non fun _ _ => .non

def e1 {α β : Type} (f : α → Option β) (a : ME τ α) : ME τ β := fun ρ t => (a ρ t).bind fun d t => opt (f d) t
def e2 {α β γ : Type} (f : α → β → Option γ) (a : ME τ α) (b : ME τ β) : ME τ γ := fun ρ t => (a ρ t).bind fun d t => (b ρ t).bind fun e t => opt (f d e) t
abbrev Dom (F : Fp) (H : Hp) : Prop := ∀ b, F b → H b ≠ none
def DOp2 (K : Fg) (r : R2) (f : D → D → Option D) : Prop := ∀ (F0 F : Fp) (H : Hp) (x y : V) (d e z : D) (Q : VK), Dom F H → RepW K F0 F H x d → RepW K F0 F H y e → f d e = some z →
  (∀ v H', Same H H' → Rep K F H' v z → Q v H') → r x y H Q
theorem run2 {a b : Expr} {r : R2} {f : D → D → Option D} {ma mb : ME τ D} {σ : L2.St} {H : Hp} {Q : VK} (hf : DOp2 K r f) (p : tE K W (e2 f ma mb) σ H Q) : tOp r (tW K W ma) (tW K W mb) σ H Q := by
  obtain ⟨C, ρ, t, A, p⟩ := p
  refine use okE A p fun d t1 v H1 e1 s1 A1 r1 p1 => ?_
  refine use okE A1 p1 fun d2 t2 v2 H2 e2 s2 A2 r2 p2 => ?_
  cases e : f d d2 with
  | none => rw [e] at p2; exact p2.elim
  | some z =>
    rw [e] at p2
    exact hf C.F _ H2 v v2 d d2 z Q A2.dom (r1.same s2 fun _ => Fo.base) r2 e fun v' H' sm rr => p2 v' H' (Sm.of_same sm) (C.stay A2.st sm) rr
theorem me_op2 {op : Operator} {a b : Expr} {r : R2} {f : D → D → Option D} {ma mb : ME τ D} {pos : Pos} (ho : OpR X (binaryOp op) r) (hf : DOp2 X.K r f) (ha : PE X a (tW X.K W ma)) (hb : PE X b (tW X.K W mb)) :
    PE X (.BinOp a op b pos) (tE X.K W (e2 f ma mb)) := PE.imp (pe_op ho ha hb) fun σ H Q p => run2 (a := a) (b := b) hf p
theorem me_cmp2 {op : CmpOp} {a b : Expr} {r : R2} {f : D → D → Option D} {ma mb : ME τ D} {pos : Pos} (ho : OpR X (compareOp op) r) (hf : DOp2 X.K r f) (ha : PE X a (tW X.K W ma)) (hb : PE X b (tW X.K W mb)) (hm : behindInMarks op b = false) :
    PE X (.Compare a [op] [b] pos) (tE X.K W (e2 f ma mb)) := PE.imp (pe_cmpR ho ha hb hm) fun σ H Q p => run2 (a := a) (b := b) hf p
theorem me_ix {a b : Expr} {r : R2} {f : D → D → Option D} {ma mb : ME τ D} {pos : Pos} (ho : IxR X r) (hf : DOp2 X.K r f) (ha : PE X a (tW X.K W ma)) (hb : PE X b (tW X.K W mb)) (hs : PlainIx b) :
    PE X (.Subscript a b pos) (tE X.K W (e2 f ma mb)) := PE.imp (pe_ix ho ha hb hs) fun σ H Q p => run2 (a := a) (b := b) hf p
def DOp1 (K : Fg) (r : V → Hp → VK → Prop) (f : D → Option D) : Prop := ∀ (F0 F : Fp) (H : Hp) (x : V) (d z : D) (Q : VK), Dom F H → RepW K F0 F H x d → f d = some z →
  (∀ v H', Same H H' → Rep K F H' v z → Q v H') → r x H Q
theorem me_un {op : UnaryOp} {a : Expr} {r : V → Hp → VK → Prop} {f : D → Option D} {ma : ME τ D} {pos : Pos} (ho : UnR X (unaryOp op) r) (hf : DOp1 X.K r f) (ha : PE X a (tW X.K W ma)) : PE X (.UnaryOp op a pos) (tE X.K W (e1 f ma)) :=
  PE.imp (pe_un ho ha) fun σ H Q ⟨C, ρ, t, A, p⟩ => by
    refine use okE A p fun d t1 v H1 e1 s1 A1 r1 p1 => ?_
    cases e : f d with
    | none => rw [e] at p1; exact p1.elim
    | some z =>
      rw [e] at p1
      exact hf C.F _ H1 v d z Q A1.dom r1 e fun v' H' sm rr => p1 v' H' (Sm.of_same sm) (C.stay A1.st sm) rr

def asB : D → Option Bool
  | .bl b => some b
  | _ => none
theorem mt_cmp2 {op : CmpOp} {a b : Expr} {r : R2} {f : D → D → Option D} {ma mb : ME τ D} {pos : Pos} (ho : OpR X (compareOp op) r) (hf : DOp2 X.K r f) (ha : PE X a (tW X.K W ma)) (hb : PE X b (tW X.K W mb)) (hm : behindInMarks op b = false) :
    PT X (.Compare a [op] [b] pos) (tT X.K W (e1 asB (e2 f ma mb))) := by
  refine PT.imp (pt_cmpR ho ha hb hm) fun σ H Q ⟨C, ρ, t, A, p⟩ => ?_
  refine run2 (a := a) (b := b) (K := X.K) (W := W) hf ?_
  refine use okB A p fun d t1 v H1 e1 s1 A1 r1 p1 => ?_
  cases d <;> first
    | exact p1.elim
    | (cases r1; exact ⟨_, rfl, p1 _ H1 (Sm.refl _ _) A1.st rfl⟩)
def tNot1 (a : ME τ Bool) : ME τ Bool := fun ρ t => (a ρ t).bind fun b t => .ok (!b) t
def tAnd2 (a b : ME τ Bool) : ME τ Bool := fun ρ t => (a ρ t).bind fun c t => if c = true then b ρ t else .ok false t
def tOr2 (a b : ME τ Bool) : ME τ Bool := fun ρ t => (a ρ t).bind fun c t => if c = true then .ok true t else b ρ t
theorem mt_not {a : Expr} {ma : ME τ Bool} {pos : Pos} (h : PT X a (tT X.K W ma)) : PT X (.UnaryOp .Not a pos) (tT X.K W (tNot1 ma)) := PT.imp (pt_not h) fun σ H Q ⟨C, ρ, t, A, p⟩ => by
  refine use okB A p fun d t1 v H1 e1 s1 A1 r1 p1 => ?_
  cases r1
  exact p1 _ H1 (Sm.refl _ _) A1.st rfl
theorem and_red {ta tb : ME τ Bool} {σ : L2.St} {H : Hp} {Q : Bool → Hp → Prop} (p : tT K W (tAnd2 ta tb) σ H Q) : tAnd (tT K W ta) (tT K W tb) σ H Q := by
  obtain ⟨C, ρ, t, A, p⟩ := p
  refine use okB A p fun d t1 v H1 e1 s1 A1 r1 p1 => ?_
  cases r1
  cases d with
  | true => exact ⟨C, ρ, t1, A1, p1⟩
  | false => exact p1 _ H1 (Sm.refl _ _) A1.st rfl
theorem or_red {ta tb : ME τ Bool} {σ : L2.St} {H : Hp} {Q : Bool → Hp → Prop} (p : tT K W (tOr2 ta tb) σ H Q) : tOr (tT K W ta) (tT K W tb) σ H Q := by
  obtain ⟨C, ρ, t, A, p⟩ := p
  refine use okB A p fun d t1 v H1 e1 s1 A1 r1 p1 => ?_
  cases r1
  cases d with
  | false => exact ⟨C, ρ, t1, A1, p1⟩
  | true => exact p1 _ H1 (Sm.refl _ _) A1.st rfl
theorem mw_and1 {a : Expr} {ma : ME τ Bool} {pos : Pos} (h : PT X a (tT X.K W ma)) : PW X (.BoolOp .And [a] pos) (tT X.K W ma) := pw_and1 h
theorem mw_or1 {a : Expr} {ma : ME τ Bool} {pos : Pos} (h : PT X a (tT X.K W ma)) : PW X (.BoolOp .Or [a] pos) (tT X.K W ma) := pw_or1 h
theorem mw_and {a b : Expr} {rest : List Expr} {ma mb : ME τ Bool} {pos : Pos} (h : PT X a (tT X.K W ma)) (h2 : PW X (.BoolOp .And (b :: rest) pos) (tT X.K W mb)) : PW X (.BoolOp .And (a :: b :: rest) pos) (tT X.K W (tAnd2 ma mb)) :=
  PW.imp (pw_and h h2) fun _ _ _ p => and_red p
theorem mw_or {a b : Expr} {rest : List Expr} {ma mb : ME τ Bool} {pos : Pos} (h : PT X a (tT X.K W ma)) (h2 : PW X (.BoolOp .Or (b :: rest) pos) (tT X.K W mb)) : PW X (.BoolOp .Or (a :: b :: rest) pos) (tT X.K W (tOr2 ma mb)) :=
  PW.imp (pw_or h h2) fun _ _ _ p => or_red p
def eAnd2 (a : ME τ D) (b : ME τ D) : ME τ D := fun ρ t => ((e1 asB a) ρ t).bind fun c t => if c = true then b ρ t else .ok (.bl false) t
theorem Res.bind_assoc {α β γ : Type} (r : Res τ α) (f : α → τ → Res τ β) (g : β → τ → Res τ γ) : (r.bind f).bind g = r.bind fun a t => (f a t).bind g := by cases r <;> rfl
theorem me_one {op : BoolOp} {a : Expr} {ma : ME τ D} {pos : Pos} (h : PE X a (tE X.K W ma)) : PE X (.BoolOp op [a] pos) (tE X.K W ma) := pe_one h
theorem me_and {a b : Expr} {rest : List Expr} {ma mb : ME τ D} {pos : Pos} (h : PE X a (tE X.K W ma)) (h2 : PE X (.BoolOp .And (b :: rest) pos) (tE X.K W mb)) : PE X (.BoolOp .And (a :: b :: rest) pos) (tE X.K W (eAnd2 ma mb)) :=
  PE.imp (pe_and h h2) fun σ H Q ⟨C, ρ, t, A, p⟩ => by
    unfold eAnd2 MM.e1 at p
    rw [Res.bind_assoc] at p
    refine use okE A p fun d t1 v H1 e1 s1 A1 r1 p1 => ?_
    cases d <;> first
      | exact p1.elim
      | skip
    rename_i c
    cases r1
    refine ⟨c, rfl, ?_⟩
    cases c with
    | true => exact ⟨C, ρ, t1, A1, p1⟩
    | false => exact p1 _ H1 (Sm.refl _ _) A1.st (.bl false)
def aNil {α : Type} : ME τ (List α) := fun _ t => .ok [] t
def aCons {α : Type} (a : ME τ α) (b : ME τ (List α)) : ME τ (List α) := fun ρ t => (a ρ t).bind fun d t => (b ρ t).bind fun ds t => .ok (d :: ds) t
theorem ma_nil : PA X [] (tA X.K W (aNil (τ := τ))) := PA.imp pa_nil fun σ H Q ⟨C, ρ, t, A, p⟩ => p [] H (Sm.refl _ _) A.st .nil
theorem ma_cons {e : Expr} {es : List Expr} {m : ME τ D} {ms : ME τ (List D)} (h : PE X e (tE X.K W m)) (hs : PA X es (tA X.K W ms)) (hst : starEach (e :: es) X.env = (false, eval e X.env) :: starEach es X.env := by rfl) : PA X (e :: es) (tA X.K W (aCons m ms)) :=
  PA.imp (pa_cons h hs hst) fun σ H Q ⟨C, ρ, t, A, p⟩ => by
    refine use okA A p fun d t1 v H1 e1 s1 A1 r1 p1 => ?_
    refine use okA A1 p1 fun d2 t2 v2 H2 e2 s2 A2 r2 p2 => ?_
    exact p2 _ H2 (Sm.refl _ _) A2.st (.cons (r1.same (s2.mono fun _ => Fo.base)) r2)
theorem maw_nil : PA X [] (tAW X.K W (aNil (τ := τ))) := PA.imp pa_nil fun σ H Q ⟨C, ρ, t, A, p⟩ => p [] H (Sm.refl _ _) A.st .nil
theorem maw_cons {e : Expr} {es : List Expr} {m : ME τ D} {ms : ME τ (List D)} (h : PE X e (tW X.K W m)) (hs : PA X es (tAW X.K W ms)) (hst : starEach (e :: es) X.env = (false, eval e X.env) :: starEach es X.env := by rfl) : PA X (e :: es) (tAW X.K W (aCons m ms)) :=
  PA.imp (pa_cons h hs hst) fun σ H Q ⟨C, ρ, t, A, p⟩ => by
    refine use okAW A p fun d t1 v H1 e1 s1 A1 r1 p1 => ?_
    refine use okAW A1 p1 fun d2 t2 v2 H2 e2 s2 A2 r2 p2 => ?_
    exact p2 _ H2 (Sm.refl _ _) A2.st (.cons (r1.same s2 fun _ => Fo.base) r2)
def lim {α : Type} (ds : List α) : Option (List α) := if ds.length ≤ 16777216 then some ds else none
theorem lim_le {α : Type} {ds es : List α} (h : lim ds = some es) : es = ds ∧ ds.length ≤ sizeLine := by
  unfold lim at h
  split at h
  · cases h; exact ⟨rfl, by assumption⟩
  · cases h
def eTup (a : ME τ (List D)) : ME τ D := e1 (fun ds => (lim ds).map D.tup) a
theorem Rep.newTup {F : Fp} {H : Hp} {vs : List V} {ds : List D} {p : Addr} (r : Reps K F H vs ds) (dm : Dom F H) (np : H p = none) : Rep K F (upd H p (.tup vs)) (.ref p) (.tup ds) :=
  .tup (.inl ⟨fun z => dm p z np, .inl upd_same⟩) (r.same fun b o _ e => by rw [upd_ne (ne_of_none e np)]; exact e)
theorem Rep.newLst {F : Fp} {H : Hp} {vs : List V} {ds : List D} {p : Addr} (r : Reps K F H vs ds) (dm : Dom F H) (np : H p = none) : Rep K F (upd H p (.lst vs)) (.ref p) (.lst ds) :=
    .lst ⟨fun z => dm p z np, .inl upd_same⟩ (r.same fun b o _ e => by rw [upd_ne (ne_of_none e np)]; exact e)
theorem same_upd {H : Hp} {p : Addr} {o : HO} (h : H p = none) : Same H (upd H p o) := fun b x e => by
  rw [upd_ne (ne_of_none e h)]
  exact e
theorem me_tup {es : List Expr} {x1} {pos : Pos} {ms : ME τ (List D)} (h : PA X es (tA X.K W ms)) : PE X (.Tuple es x1 pos) (tE X.K W (eTup ms)) := PE.imp (pe_tup h) fun σ H Q ⟨C, ρ, t, A, p⟩ => by
  refine use okE A p fun d t1 v H1 e1 s1 A1 r1 p1 => ?_
  dsimp only at p1
  cases e : lim d with
  | none => rw [e] at p1; exact p1.elim
  | some z =>
    rw [e] at p1
    obtain ⟨rfl, hz⟩ := lim_le e
    exact ⟨by rw [r1.length]; exact hz, fun a na => p1 _ _ (Sm.of_same (same_upd na)) (C.stay A1.st (same_upd na)) (Rep.newTup r1 A1.dom na)⟩
theorem mf_lst {es : List Expr} {pos : Pos} {ms : ME τ (List D)} (h : PA X es (tA X.K W ms)) : PE X (.List es pos) (tF X.K W (e1 lim ms)) := PE.imp (pe_lst h) fun σ H Q ⟨C, ρ, t, A, p⟩ => by
  refine use okF A p fun d t1 v H1 e1 s1 A1 r1 p1 => ?_
  cases e : lim d with
  | none => rw [e] at p1; exact p1.elim
  | some z =>
    rw [e] at p1
    obtain ⟨rfl, hz⟩ := lim_le e
    refine ⟨by rw [r1.length]; exact hz, fun a na => p1 _ _ (Sm.of_same (same_upd na)) (C.stay A1.st (same_upd na)) ⟨a, v, rfl, fun z => A1.dom a z na, na, upd_same, ?_⟩⟩
    have sp : Stp (Fo C.F ρ σ) H1 (fun b => Fo C.F ρ σ b ∨ b = a) (upd H1 a (.lst v)) := ⟨fun b o _ e => by rw [upd_ne (ne_of_none e na)]; exact e, fun b h => h.elim .inl fun e => .inr (by rw [e]; exact na)⟩
    exact ⟨Reps.step sp r1, C.step _ _ _ _ _ A1.st (fun b o _ e => by rw [upd_ne (ne_of_none e na)]; exact e) sp⟩
def eLst (a : ME τ (List D)) : ME τ D := fun ρ t => (a ρ t).bind fun ds t => .ok (.lst ds) t
theorem me_new {e : Expr} {m : ME τ (List D)} (h : PE X e (tF K W m)) : PE X e (tE K W (eLst m)) := PE.imp h fun σ H Q ⟨C, ρ, t, A, p⟩ => by
  refine ⟨C, ρ, t, A, ?_⟩
  unfold eLst at p
  cases e : m ρ t with
  | ok d t' =>
    rw [e] at p
    intro v H' s i r
    obtain ⟨a, vs, rfl, n, q, l, r, _⟩ := r
    exact p _ H' s i (.lst ⟨n, .inl l⟩ (r.anti fun _ => .inl))
  | ex n fs t' => rw [e] at p; exact p
  | bad => rw [e] at p; exact p

def DCall (K : Fg) (r : List V → Hp → VK → Prop) (f : List D → Option D) : Prop := ∀ (F0 F : Fp) (H : Hp) (xs : List V) (ds : List D) (z : D) (Q : VK), Dom F H → RepsW K F0 F H xs ds → f ds = some z →
  (∀ v H', Same H H' → Rep K F H' v z → Q v H') → r xs H Q
theorem runC {r : List V → Hp → VK → Prop} {f : List D → Option D} {ms : ME τ (List D)} {σ : L2.St} {H : Hp} {Q : VK} (hf : DCall K r f) (p : tE K W (MM.e1 f ms) σ H Q) : tCB r (tAW K W ms) σ H Q := by
  obtain ⟨C, ρ, t, A, p⟩ := p
  refine use okE A p fun d t1 v H1 e1 s1 A1 r1 p1 => ?_
  cases e : f d with
  | none => rw [e] at p1; exact p1.elim
  | some z =>
    rw [e] at p1
    exact hf C.F _ H1 v d z Q A1.dom r1 e fun v' H' sm rr => p1 v' H' (Sm.of_same sm) (C.stay A1.st sm) rr
theorem me_callB {id : String} {x : Str} {e : Expr} {es : List Expr} {p pos : Pos} {r : List V → Hp → VK → Prop} {f : List D → Option D} {ms : ME τ (List D)} (hc : CallR X (.builtin id) r) (hf : DCall X.K r f) (hg : Gl X x) (hm : X.mg x = none) (hv : bootBuiltins x = some (.builtin id))
    (ha : PA X (e :: es) (tAW X.K W ms)) (hn : x ≠ "__name__" := by decide) (hdb : (x == ("__debug__" : Str)) = false := by decide)
    (he : starEach (e :: es) X.env = (false, eval e X.env) :: starEach es X.env := by rfl) (hpl : (backTo pos (starEach es X.env)).any (·.1) = false := by rfl) :
    PE X (.Call (.Name x p) (e :: es) [] pos) (tE X.K W (MM.e1 f ms)) := PE.imp (pe_callB hc hg hm hv ha hn hdb he hpl) fun σ H Q p => runC hf p
theorem me_callTy {id : String} {x : Str} {e : Expr} {es : List Expr} {p pos : Pos} {r : List V → Hp → VK → Prop} {f : List D → Option D} {ms : ME τ (List D)} (hc : CallR X (.type id) r) (hf : DCall X.K r f) (hg : Gl X x) (hm : X.mg x = none) (hv : bootBuiltins x = some (.type id))
    (ha : PA X (e :: es) (tAW X.K W ms)) (hn : x ≠ "__name__" := by decide) (hdb : (x == ("__debug__" : Str)) = false := by decide)
    (he : starEach (e :: es) X.env = (false, eval e X.env) :: starEach es X.env := by rfl) (hpl : (backTo pos (starEach es X.env)).any (·.1) = false := by rfl) :
    PE X (.Call (.Name x p) (e :: es) [] pos) (tE X.K W (MM.e1 f ms)) := PE.imp (pe_callTy hc hg hm hv ha hn hdb he hpl) fun σ H Q p => runC hf p
end
end MM

namespace MM
open PySem PySem.Spec PyProof.Rows L2
abbrev MS (τ : Type) := Rho → τ → Fl τ
abbrev Tgt := Rho → D → Option Rho
abbrev Tgts := Rho → List D → Option Rho

section
variable {τ : Type} [Sto τ] {K : Fg} {C : SC τ} {ρ : Rho} {t t' : τ} {σ : St} {H H' H1 : Hp}
theorem set_at {α : Type} {l : List α} {i j : Nat} {x y : α} (h : (l.set i x)[j]? = some y) : (i = j ∧ y = x ∧ i < l.length) ∨ (i ≠ j ∧ l[j]? = some y) := by
  by_cases e : i = j
  · subst e
    by_cases q : i < l.length
    · rw [List.getElem?_set_self q] at h
      exact .inl ⟨rfl, (Option.some.inj h).symm, q⟩
    · rw [List.getElem?_eq_none (by simpa using q)] at h
      cases h
  · rw [List.getElem?_set_ne e] at h
    exact .inr ⟨e, h⟩
theorem Fo.setVal {F : Fp} {i : Nat} {d : D} {v : Option V} {b : Addr} (h : Fo F (ρ.set i (.val d)) (σ.set i v) b) : Fo F ρ σ b := by
  rcases h with h | ⟨j, xs, ⟨h1, hm⟩, h2⟩
  · exact .inl h
  · rcases set_at h1 with ⟨_, e, _⟩ | ⟨ne, h1⟩
    · cases e; cases hm
    · rw [List.getElem?_set_ne ne] at h2
      exact .inr ⟨j, xs, ⟨h1, hm⟩, h2⟩
theorem At.setVal {i : Nat} {v : V} {d : D} (A : At K C ρ t σ H) (r : Rep K (Fo C.F ρ σ) H v d) : At K C (ρ.set i (.val d)) t (σ.set i (some v)) H where
  okC := A.okC
  st := C.less A.st fun _ => Fo.setVal
  len := by simp [A.len]
  val := fun j e h => by
    rcases set_at h with ⟨rfl, e1, hl⟩ | ⟨ne, h⟩
    · cases e1
      refine ⟨v, ?_, r.anti fun _ => Fo.setVal⟩
      rw [List.getElem?_set_self (by rw [A.len]; exact hl)]
    · obtain ⟨w, h1, h2⟩ := A.val j e h
      exact ⟨w, by rw [List.getElem?_set_ne ne]; exact h1, h2.anti fun _ => Fo.setVal⟩
  mine := fun j xs hh => by
    obtain ⟨h, hm⟩ := hh
    rcases set_at h with ⟨rfl, e1, hl⟩ | ⟨ne, h⟩
    · cases e1; cases hm
    · obtain ⟨a, vs, h1, h2, h3, h4⟩ := A.mine j xs ⟨h, hm⟩
      exact ⟨a, vs, by rw [List.getElem?_set_ne ne]; exact h1, h2, h3, h4.anti fun _ => Fo.setVal⟩
  dis := fun j k xs ys hh1 hh2 e => by
    obtain ⟨h1, m1⟩ := hh1
    obtain ⟨h2, m2⟩ := hh2
    rcases set_at h1 with ⟨_, e1, _⟩ | ⟨n1, h1⟩
    · cases e1; cases m1
    · rcases set_at h2 with ⟨_, e2, _⟩ | ⟨n2, h2⟩
      · cases e2; cases m2
      · rw [List.getElem?_set_ne n1, List.getElem?_set_ne n2] at e
        exact A.dis j k xs ys ⟨h1, m1⟩ ⟨h2, m2⟩ e
theorem Stp.setVal {i : Nat} {v : Option V} {d : D} {F : Fp} : Stp (Fo F ρ σ) H (Fo F (ρ.set i (.val d)) (σ.set i v)) H := Stp.less fun _ => Fo.setVal
theorem Fo.setMine {F : Fp} {i : Nat} {x : Slot} {a b : Addr} (h : Fo F (ρ.set i x) (σ.set i (some (.ref a))) b) : Fo F ρ σ b ∨ b = a := by
  rcases h with h | ⟨j, ys, ⟨h1, hm⟩, h2⟩
  · exact .inl (.inl h)
  · rcases set_at h1 with ⟨rfl, e, _⟩ | ⟨ne, h1⟩
    · rcases set_at h2 with ⟨_, e2, _⟩ | ⟨ne, _⟩
      · cases e2; exact .inr rfl
      · exact absurd rfl ne
    · rw [List.getElem?_set_ne ne] at h2
      exact .inl (.inr ⟨j, ys, ⟨h1, hm⟩, h2⟩)
theorem Fo.setOwn {F : Fp} {i : Nat} {xs : List D} {a b : Addr} (h : Fo F (ρ.set i (.own xs)) (σ.set i (some (.ref a))) b) : Fo F ρ σ b ∨ b = a := Fo.setMine h
theorem At.setMine {i : Nat} {a : Addr} {u : HO} {x : Slot} (hx : x.mine = true) (A0 : At K C ρ t σ H) (s : Sm C.F H H') (iv : C.Iv t' (fun b => Fo C.F ρ σ b ∨ b = a) H') (nF : ¬ Fo C.F ρ σ a) (na : H a = none) (l : H' a = some u) (r : OwnR K (fun b => Fo C.F ρ σ b ∨ b = a) H' a u x) :
    At K C (ρ.set i x) t' (σ.set i (some (.ref a))) H' ∧ Stp (Fo C.F ρ σ) H (Fo C.F (ρ.set i x) (σ.set i (some (.ref a)))) H' := by
  have A := A0.next s (C.less iv fun _ => .inl)
  have sp : Stp (Fo C.F ρ σ) H (Fo C.F (ρ.set i x) (σ.set i (some (.ref a)))) H' := ⟨fun b o n e => s b o (fun z => n (.inl z)) e, fun b h => (Fo.setMine h).elim .inl fun e => .inr (by rw [e]; exact na)⟩
  have iv' : C.Iv t' (Fo C.F (ρ.set i x) (σ.set i (some (.ref a)))) H' := C.less iv fun _ => Fo.setMine
  refine ⟨⟨A.okC, iv', by simp [A.len], fun j e h => ?_, fun j xs hh => ?_, fun j k xs ys hh1 hh2 e => ?_⟩, sp⟩
  · rcases set_at h with ⟨_, e1, _⟩ | ⟨ne, h⟩
    · rw [← e1] at hx; cases hx
    · obtain ⟨w, h1, h2⟩ := A0.val j e h
      exact ⟨w, by rw [List.getElem?_set_ne ne]; exact h1, h2.step sp⟩
  · obtain ⟨h, hm⟩ := hh
    rcases set_at h with ⟨rfl, e1, hl⟩ | ⟨ne, h⟩
    · subst e1
      exact ⟨a, u, by rw [List.getElem?_set_self (by rw [A.len]; exact hl)], fun z => nF (.inl z), l, r.anti fun _ => Fo.setMine⟩
    · obtain ⟨b, ws, h1, h2, h3, h4⟩ := A0.mine j xs ⟨h, hm⟩
      exact ⟨b, ws, by rw [List.getElem?_set_ne ne]; exact h1, h2, s b _ h2 h3, h4.step sp⟩
  · obtain ⟨h1, m1⟩ := hh1
    obtain ⟨h2, m2⟩ := hh2
    have other : ∀ {m : Nat} {z : Slot}, ρ[m]? = some z → z.mine = true → σ[m]? ≠ some (some (.ref a)) := fun {m zs} h hm z => nF (.inr ⟨m, zs, ⟨h, hm⟩, z⟩)
    rcases set_at h1 with ⟨rfl, e1, l1⟩ | ⟨n1, h1⟩
    · rcases set_at h2 with ⟨rfl, e2, _⟩ | ⟨n2, h2⟩
      · rfl
      · rw [List.getElem?_set_self (by rw [A.len]; exact l1), List.getElem?_set_ne n2] at e
        exact absurd e.symm (other h2 m2)
    · rcases set_at h2 with ⟨rfl, e2, l2⟩ | ⟨n2, h2⟩
      · rw [List.getElem?_set_self (by rw [A.len]; exact l2), List.getElem?_set_ne n1] at e
        exact absurd e (other h1 m1)
      · rw [List.getElem?_set_ne n1, List.getElem?_set_ne n2] at e
        exact A.dis j k xs ys ⟨h1, m1⟩ ⟨h2, m2⟩ e
theorem At.setOwn {i : Nat} {a : Addr} {vs : List V} {ds : List D} (A0 : At K C ρ t σ H) (s : Sm C.F H H') (iv : C.Iv t' (fun b => Fo C.F ρ σ b ∨ b = a) H') (nF : ¬ Fo C.F ρ σ a) (na : H a = none) (l : H' a = some (.lst vs)) (r : Reps K (fun b => Fo C.F ρ σ b ∨ b = a) H' vs ds) :
    At K C (ρ.set i (.own ds)) t' (σ.set i (some (.ref a))) H' ∧ Stp (Fo C.F ρ σ) H (Fo C.F (ρ.set i (.own ds)) (σ.set i (some (.ref a)))) H' := At.setMine rfl A0 s iv nF na l (.lst r)
theorem Fo.reMine {F : Fp} {i : Nat} {x y : Slot} (h0 : ρ[i]? = some x ∧ x.mine = true) (hy : y.mine = true) {b : Addr} : Fo F (ρ.set i y) σ b ↔ Fo F ρ σ b := by
  constructor
  · rintro (h | ⟨j, zs, ⟨h1, hm⟩, h2⟩)
    · exact .inl h
    · rcases set_at h1 with ⟨rfl, _, _⟩ | ⟨_, h1⟩
      · exact .inr ⟨_, x, h0, h2⟩
      · exact .inr ⟨j, zs, ⟨h1, hm⟩, h2⟩
  · rintro (h | ⟨j, zs, ⟨h1, hm⟩, h2⟩)
    · exact .inl h
    · by_cases e : i = j
      · subst e
        exact .inr ⟨i, y, ⟨by rw [List.getElem?_set_self (List.getElem?_eq_some_iff.mp h0.1).1], hy⟩, h2⟩
      · exact .inr ⟨j, zs, ⟨by rw [List.getElem?_set_ne e]; exact h1, hm⟩, h2⟩
theorem Fo.reOwn {F : Fp} {i : Nat} {xs ys : List D} (h0 : ρ[i]? = some (.own xs)) {b : Addr} : Fo F (ρ.set i (.own ys)) σ b ↔ Fo F ρ σ b := Fo.reMine ⟨h0, rfl⟩ rfl
theorem At.reMine {i : Nat} {a : Addr} {u : HO} {x y : Slot} (A : At K C ρ t σ H) (h0 : ρ[i]? = some x ∧ x.mine = true) (hy : y.mine = true) (hs : σ[i]? = some (some (.ref a))) (r : OwnR K (Fo C.F ρ σ) H a u y) :
    At K C (ρ.set i y) t σ (upd H a u) ∧ Stp (Fo C.F ρ σ) H (Fo C.F (ρ.set i y) σ) (upd H a u) := by
  obtain ⟨a', vs', hs', nF, ha, _⟩ := A.mine i x h0
  rw [hs] at hs'; cases hs'
  have fa : Fo C.F ρ σ a := .inr ⟨i, x, h0, hs⟩
  have sp : Stp (Fo C.F ρ σ) H (Fo C.F (ρ.set i y) σ) (upd H a u) := ⟨fun b o n e => by rw [upd_ne (fun z => n (by rw [z]; exact fa))]; exact e, fun b h => .inl ((Fo.reMine h0 hy).mp h)⟩
  have iv : C.Iv t (Fo C.F (ρ.set i y) σ) (upd H a u) := C.step _ _ _ _ _ A.st (fun b o h e => by rw [upd_ne (fun z => nF (by rw [← z]; exact h))]; exact e) sp
  refine ⟨⟨A.okC, iv, by simp [A.len], fun j e h => ?_, fun j zs hh => ?_, fun j k zs us hh1 hh2 e => ?_⟩, sp⟩
  · rcases set_at h with ⟨_, e1, _⟩ | ⟨ne, h⟩
    · rw [← e1] at hy; cases hy
    · obtain ⟨w, h1, h2⟩ := A.val j e h
      exact ⟨w, h1, h2.step sp⟩
  · obtain ⟨h, hm⟩ := hh
    rcases set_at h with ⟨rfl, e1, hl⟩ | ⟨ne, h⟩
    · subst e1
      exact ⟨a, u, hs, nF, upd_same, r.step sp⟩
    · obtain ⟨b, us, h1, h2, h3, h4⟩ := A.mine j zs ⟨h, hm⟩
      have nb : b ≠ a := fun z => ne (A.dis i j x zs h0 ⟨h, hm⟩ (by rw [hs, h1, z]))
      exact ⟨b, us, h1, h2, by rw [upd_ne nb]; exact h3, h4.step sp⟩
  · have tr : ∀ {m : Nat} {z : Slot}, ((ρ.set i y)[m]? = some z ∧ z.mine = true) → ∃ us, (ρ[m]? = some us ∧ us.mine = true) := fun {m zs} hh => by
      obtain ⟨h, hm⟩ := hh
      rcases set_at h with ⟨rfl, _, _⟩ | ⟨_, h⟩
      · exact ⟨_, h0⟩
      · exact ⟨_, h, hm⟩
    obtain ⟨u1, g1⟩ := tr hh1
    obtain ⟨u2, g2⟩ := tr hh2
    exact A.dis j k u1 u2 g1 g2 e
theorem At.reOwn {i : Nat} {a : Addr} {ws : List V} {xs ys : List D} (A : At K C ρ t σ H) (h0 : ρ[i]? = some (.own xs)) (hs : σ[i]? = some (some (.ref a))) (r : Reps K (Fo C.F ρ σ) H ws ys) :
    At K C (ρ.set i (.own ys)) t σ (upd H a (.lst ws)) ∧ Stp (Fo C.F ρ σ) H (Fo C.F (ρ.set i (.own ys)) σ) (upd H a (.lst ws)) := A.reMine ⟨h0, rfl⟩ rfl hs (.lst r)
end
end MM

namespace MM
open PySem PySem.Spec PyProof.Rows L2
section
variable {X : Cx} {W : WX} {τ : Type} [Sto τ] {K : Fg}
def sDo {α : Type} (m : ME τ α) (k : α → Rho → τ → Fl τ) : MS τ := fun ρ t => match m ρ t with
  | .ok d t' => k d ρ t'
  | .ex n fs t' => .ex n fs ρ t'
  | .bad => .bad
theorem useS {α β : Type} {R : Rel β α} {C : SC τ} {ρ : Rho} {t : τ} {σ : St} {H : Hp} {ma : ME τ α} {k : α → Rho → τ → Fl τ} {E : Ends} {Q : β → Hp → Prop} (A : At K C ρ t σ H) (h : SPost K W C (Fo C.F ρ σ) H (sDo ma k ρ t) E)
    (hk : ∀ d t1 v H1, ma ρ t = .ok d t1 → Sm C.F H H1 → At K C ρ t1 σ H1 → R K (C.Iv t1) C.F (Fo C.F ρ σ) H H1 v d → SPost K W C (Fo C.F ρ σ) H1 (k d ρ t1) E → Q v H1) : tG R K W ma σ H Q := by
  refine ⟨C, ρ, t, A, ?_⟩
  unfold sDo at h
  cases e : ma ρ t with
  | ok d t1 =>
    rw [e] at h
    exact fun v H1 s i r => hk d t1 v H1 e s (A.next s i) r (SPost.rebase h (Stp.of_sm s fun _ => .inl))
  | ex n fs t1 =>
    rw [e] at h
    exact fun cls dd H' s i x => h cls dd σ H' (Stp.of_sm s fun _ => .inl) (A.next s i) x
  | bad =>
    rw [e] at h
    exact h

def tTg (τ : Type) [Sto τ] (K : Fg) (g : Tgt) (vs : List Nat) : TG := fun v σ H Q => ∃ (C : SC τ) (ρ : Rho) (t : τ) (d : D), At K C ρ t σ H ∧ Rep K (Fo C.F ρ σ) H v d ∧ ∃ ρ', g ρ d = some ρ' ∧
  ∀ σ' H', (σ'.length = σ.length ∧ ∀ (j : Nat), j ∉ vs → σ'[j]? = σ[j]? ∧ ρ'[j]? = ρ[j]?) → Same H H' → Stp (Fo C.F ρ σ) H (Fo C.F ρ' σ') H' → At K C ρ' t σ' H' → Q σ' H'
def tTgs (τ : Type) [Sto τ] (K : Fg) (g : Tgts) (vs : List Nat) : TGs := fun v σ H Q => ∃ (C : SC τ) (ρ : Rho) (t : τ) (d : List D), At K C ρ t σ H ∧ Reps K (Fo C.F ρ σ) H v d ∧ ∃ ρ', g ρ d = some ρ' ∧
  ∀ σ' H', (σ'.length = σ.length ∧ ∀ (j : Nat), j ∉ vs → σ'[j]? = σ[j]? ∧ ρ'[j]? = ρ[j]?) → Same H H' → Stp (Fo C.F ρ σ) H (Fo C.F ρ' σ') H' → At K C ρ' t σ' H' → Q σ' H'
theorem PG.imp {e : Expr} {t t' : TG} (h : PG X e t) (i : ∀ v σ H Q, t' v σ H Q → t v σ H Q) : PG X e t' := ⟨fun pins s σ H v u Q I r q => h.run pins s σ H v u Q I r (i v σ H Q q)⟩
theorem PGs.imp {e : List Expr} {t t' : TGs} (h : PGs X e t) (i : ∀ v σ H Q, t' v σ H Q → t v σ H Q) : PGs X e t' := ⟨fun pins s σ H v u Q I r q => h.run pins s σ H v u Q I r (i v σ H Q q)⟩
def gN (i : Nat) : Tgt := fun ρ d => some (ρ.set i (.val d))
def gNil : Tgts := fun ρ ds => match ds with
  | [] => some ρ
  | _ => none
def gCons (g : Tgt) (gs : Tgts) : Tgts := fun ρ ds => match ds with
  | d :: ds => (g ρ d).bind fun ρ' => gs ρ' ds
  | [] => none
def gT (gs : Tgts) : Tgt := fun ρ d => match d with
  | .tup ds => gs ρ ds
  | _ => none
theorem mg_name {i : Nat} {e : Expr} (h : PG X e (L2.gName i)) : PG X e (tTg τ X.K (gN i) [i]) := PG.imp h fun v σ H Q ⟨C, ρ, t, d, A, r, ρ', e, k⟩ => by
  cases e
  exact k _ H ⟨by simp, fun j hj => ⟨by rw [List.getElem?_set_ne (fun e => hj (by simp [e]))], by rw [List.getElem?_set_ne (fun e => hj (by simp [e]))]⟩⟩ (Same.refl H) Stp.setVal (A.setVal r)
theorem mgs_nil : PGs X [] (tTgs τ X.K gNil []) := PGs.imp pgs_nil fun v σ H Q ⟨C, ρ, t, d, A, r, ρ', e, k⟩ => by
  cases r with
  | nil => cases e; exact ⟨rfl, k σ H ⟨rfl, fun _ _ => ⟨rfl, rfl⟩⟩ (Same.refl H) (Stp.refl _ _) A⟩
  | cons r t => cases e
theorem mgs_cons {e : Expr} {es : List Expr} {g : Tgt} {gs : Tgts} {v1 v2 : List Nat} (h1 : PG X e (tTg τ X.K g v1)) (h2 : PGs X es (tTgs τ X.K gs v2)) (hs : (assignEach (e :: es) X.env).map (·.2) = assign e X.env :: (assignEach es X.env).map (·.2) := by rfl) :
    PGs X (e :: es) (tTgs τ X.K (gCons g gs) (v1 ++ v2)) := PGs.imp (pgs_cons h1 h2 hs) fun v σ H Q ⟨C, ρ, t, d, A, r, ρ', e, k⟩ => by
  cases r with
  | nil => cases e
  | cons r1 r2 =>
    rename_i x xs dd ds _
    have e' : (g ρ dd).bind (fun ρ' => gs ρ' ds) = some ρ' := e
    cases q : g ρ dd with
    | none => rw [q] at e'; cases e'
    | some ρ1 =>
      rw [q] at e'
      exact ⟨x, xs, rfl, C, ρ, t, dd, A, r1, ρ1, q, fun σ1 H1 f1 m1 s1 A1 => ⟨C, ρ1, t, ds, A1, r2.step s1, ρ', e', fun σ2 H2 f2 m2 s2 A2 => k σ2 H2 ⟨f2.1.trans f1.1, fun j hj => ⟨(f2.2 j fun z => hj (List.mem_append_right _ z)).1.trans (f1.2 j fun z => hj (List.mem_append_left _ z)).1, (f2.2 j fun z => hj (List.mem_append_right _ z)).2.trans (f1.2 j fun z => hj (List.mem_append_left _ z)).2⟩⟩ (fun b o e => m2 b o (m1 b o e)) (s1.trans s2) A2⟩⟩
def glen (gs : Tgts) (n : Nat) : Prop := ∀ ρ ds ρ', gs ρ ds = some ρ' → ds.length = n
theorem glen_nil : glen gNil 0 := fun ρ ds ρ' e => by
  cases ds with
  | nil => rfl
  | cons => cases e
theorem glen_cons {g : Tgt} {gs : Tgts} {n : Nat} (h : glen gs n) : glen (gCons g gs) (n + 1) := fun ρ ds ρ' e => by
  cases ds with
  | nil => cases e
  | cons d ds =>
    have e' : (g ρ d).bind (fun ρ' => gs ρ' ds) = some ρ' := e
    cases q : g ρ d with
    | none => rw [q] at e'; cases e'
    | some ρ1 =>
      rw [q] at e'
      show ds.length + 1 = n + 1
      rw [h ρ1 ds ρ' e']
theorem mg_tup {es : List Expr} {k n : Nat} {pos : Pos} {gs : Tgts} (hc : X.calm = true) (hg : glen gs n) {vs : List Nat} (h : PGs X es (tTgs τ X.K gs vs)) (hn : (assignEach es X.env).length = n := by rfl) (hst : (assignEach es X.env).findIdx? (·.1) = none := by rfl) :
    PG X (.Tuple es k pos) (tTg τ X.K (gT gs) vs) := PG.imp (pg_tup hc h hn hst) fun v σ H Q ⟨C, ρ, t, d, A, r, ρ', e, k⟩ => by
  cases r with
  | tup tf rs =>
    have e' : gs ρ _ = some ρ' := e
    exact ⟨_, _, rfl, tf.sq, by rw [rs.length]; exact hg _ _ _ e', C, ρ, t, _, A, rs, ρ', e', k⟩
  | _ => cases e

def sSeq (a b : MS τ) : MS τ := fun ρ t => match a ρ t with
  | .nx ρ' t' => b ρ' t'
  | r => r
theorem mss_cons {s : Stmt} {rest : List Stmt} {a b : MS τ} (h1 : PS X s (tS X.K W a)) (h2 : PSs X rest (tS X.K W b)) : PSs X (s :: rest) (tS X.K W (sSeq a b)) := PSs.imp (pss_cons h1 h2) fun E σ H ⟨C, ρ, t, A, p⟩ => by
  refine ⟨C, ρ, t, A, ?_⟩
  unfold sSeq at p
  cases e : a ρ t with
  | nx ρ' t' => rw [e] at p; exact fun σ' H' s' A' => ⟨C, ρ', t', A', SPost.rebase p s'⟩
  | rt d t' => rw [e] at p; exact p
  | bk ρ' t' => rw [e] at p; exact p
  | ct ρ' t' => rw [e] at p; exact p
  | ex n fs ρ' t' => rw [e] at p; exact p
  | bad => rw [e] at p; exact p
theorem mss_one {s : Stmt} {a : MS τ} (h1 : PS X s (tS X.K W a)) : PSs X [s] (tS X.K W a) := pss_one h1
def sSkip : MS τ := fun ρ t => .nx ρ t
theorem mss_nil : PSs X [] (tS X.K W (sSkip (τ := τ))) := PSs.imp pss_nil fun E σ H ⟨C, ρ, t, A, p⟩ => p σ H (Stp.refl _ _) A
def sAsg (g : Tgt) (m : ME τ D) : MS τ := sDo m fun d ρ t => match g ρ d with
  | some ρ' => .nx ρ' t
  | none => .bad
theorem asg_red {g : Tgt} {vs : List Nat} {m : ME τ D} {E : Ends} {σ : St} {H : Hp} (p : tS K W (sAsg g m) E σ H) : tAsg (tE K W m) (tTg τ K g vs) E σ H := by
  obtain ⟨C, ρ, t, A, p⟩ := p
  refine useS A p fun d t1 v H1 e1 s1 A1 r1 p1 => ?_
  refine ⟨C, ρ, t1, d, A1, r1, ?_⟩
  cases e : g ρ d with
  | none => rw [e] at p1; exact p1.elim
  | some ρ' => rw [e] at p1; exact ⟨ρ', rfl, fun σ' H' _ _ s' A' => p1 σ' H' s' A'⟩
theorem ms_asg {tg e : Expr} {pos : Pos} {g : Tgt} {vs : List Nat} {m : ME τ D} (he : PE X e (tE X.K W m)) (hg : PG X tg (tTg τ X.K g vs)) (hs : swapsWithSole [tg] e pos.line X.env = pure false := by rfl) (hw : swappedStores [tg] e X.env = pure none := by rfl)
    (h1 : (assignEach [tg] X.env).map (·.2) = [assign tg X.env] := by rfl) : PS X (.Assign [tg] e pos) (tS X.K W (sAsg g m)) := PS.imp (ps_asg he hg hs hw h1) fun _ _ _ p => asg_red p
theorem ms_set {s : Stmt} {i : Nat} {m : ME τ D} (h : PS X s (tAsg (tE X.K W m) (gName i))) : PS X s (tS X.K W (sAsg (gN i) m)) := PS.imp h fun E σ H ⟨C, ρ, t, A, p⟩ => by
  refine useS A p fun d t1 v H1 e1 s1 A1 r1 p1 => ?_
  exact p1 _ H1 Stp.setVal (A1.setVal r1)
def sOwn (i : Nat) (m : ME τ (List D)) : MS τ := sDo m fun ds ρ t => .nx (ρ.set i (.own ds)) t
theorem ms_setOwn {s : Stmt} {i : Nat} {m : ME τ (List D)} (h : PS X s (tAsg (tF X.K W m) (gName i))) : PS X s (tS X.K W (sOwn i m)) := PS.imp h fun E σ H ⟨C, ρ, t, A, p⟩ => by
  refine ⟨C, ρ, t, A, ?_⟩
  unfold sOwn sDo at p
  cases e : m ρ t with
  | ok d t1 =>
    rw [e] at p
    intro v H1 s1 i1 r1
    obtain ⟨a, vs, rfl, n, q, l, r, iv⟩ := r1
    obtain ⟨A', sp⟩ := At.setOwn (i := i) A s1 iv n q l r
    exact p _ H1 sp A'
  | ex n fs t1 =>
    rw [e] at p
    exact fun cls dd H' s i x => p cls dd σ H' (Stp.of_sm s fun _ => .inl) (A.next s i) x
  | bad => rw [e] at p; exact p
def sFrz (i : Nat) (m : MS τ) : MS τ := fun ρ t => match ρ[i]? with
  | some (.own xs) => m (ρ.set i (.val (.lst xs))) t
  | some (.dct ks xs) => m (ρ.set i (.val (.dct ks xs))) t
  | _ => m ρ t
theorem frz_one {i : Nat} {x : Slot} {d : D} {C : SC τ} {ρ : Rho} {t : τ} {σ : St} {H : Hp} {r : Fl τ} {E : Ends} (A : At K C ρ t σ H) (e : ρ[i]? = some x ∧ x.mine = true) (hd : ∀ (F' : Fp) (a : Addr) (u : HO), (∀ b, F' b → Fo C.F ρ σ b) → ¬ F' a → H a = some u → OwnR K (Fo C.F ρ σ) H a u x → Rep K F' H (.ref a) d)
    (p : SPost K W C (Fo C.F ρ σ) H r E) : At K C (ρ.set i (.val d)) t σ H ∧ SPost K W C (Fo C.F (ρ.set i (.val d)) σ) H r E := by
  obtain ⟨a, u, hs, nF, ha, hr⟩ := A.mine i x e
  have il : i < ρ.length := (List.getElem?_eq_some_iff.mp e.1).1
  have sub : ∀ b, Fo C.F (ρ.set i (.val d)) σ b → Fo C.F ρ σ b := fun b h => by
    rcases h with h | ⟨j, zs, ⟨h1, hm⟩, h2⟩
    · exact .inl h
    · rcases set_at h1 with ⟨_, e1, _⟩ | ⟨ne, h1⟩
      · cases e1; cases hm
      · exact .inr ⟨j, zs, ⟨h1, hm⟩, h2⟩
  have na : ¬ Fo C.F (ρ.set i (.val d)) σ a := fun h => by
    rcases h with h | ⟨j, zs, ⟨h1, hm⟩, h2⟩
    · exact nF h
    · rcases set_at h1 with ⟨_, e1, _⟩ | ⟨ne, h1⟩
      · cases e1; cases hm
      · exact ne (A.dis i j x zs e ⟨h1, hm⟩ (by rw [hs, h2]))
  refine ⟨⟨A.okC, C.less A.st sub, by simp [A.len], fun j d h => ?_, fun j zs hh => ?_, fun j k zs us hh1 hh2 e2 => ?_⟩, SPost.rebase p (Stp.less sub)⟩
  · rcases set_at h with ⟨rfl, e1, _⟩ | ⟨ne, h⟩
    · cases e1
      exact ⟨.ref a, hs, hd _ a u sub na ha hr⟩
    · obtain ⟨w, h1, h2⟩ := A.val j d h
      exact ⟨w, h1, h2.anti sub⟩
  · obtain ⟨h, hm⟩ := hh
    rcases set_at h with ⟨rfl, e1, _⟩ | ⟨ne, h⟩
    · cases e1; cases hm
    · obtain ⟨b, us, h1, h2, h3, h4⟩ := A.mine j zs ⟨h, hm⟩
      exact ⟨b, us, h1, h2, h3, h4.anti sub⟩
  · obtain ⟨h1, m1⟩ := hh1
    obtain ⟨h2, m2⟩ := hh2
    rcases set_at h1 with ⟨_, e1, _⟩ | ⟨_, h1⟩
    · cases e1; cases m1
    · rcases set_at h2 with ⟨_, e2, _⟩ | ⟨_, h2⟩
      · cases e2; cases m2
      · exact A.dis j k zs us ⟨h1, m1⟩ ⟨h2, m2⟩ e2
theorem frz_red {i : Nat} {m : MS τ} {E : Ends} {σ : St} {H : Hp} (p : tS K W (sFrz i m) E σ H) : tS K W m E σ H := by
  obtain ⟨C, ρ, t, A, p⟩ := p
  unfold sFrz at p
  split at p
  · rename_i xs e
    obtain ⟨A', p'⟩ := frz_one (d := .lst xs) A ⟨e, rfl⟩ (fun F' a u sub na ha hr => by
      cases hr with
      | lst hr => exact .lst ⟨na, .inl ha⟩ (hr.anti sub)) p
    exact ⟨C, _, t, A', p'⟩
  · rename_i ks xs e
    obtain ⟨A', p'⟩ := frz_one (d := .dct ks xs) A ⟨e, rfl⟩ (fun F' a u sub na ha hr => by
      cases hr with
      | dct hr => exact (hr.anti sub).rep na ha) p
    exact ⟨C, _, t, A', p'⟩
  · exact ⟨C, ρ, t, A, p⟩
theorem mss_frz {i : Nat} {sts : List Stmt} {m : MS τ} (h : PSs X sts (tS X.K W m)) : PSs X sts (tS X.K W (sFrz i m)) := PSs.imp h fun _ _ _ p => frz_red p
def sRet (m : ME τ D) : MS τ := sDo m fun d _ t => .rt d t
theorem ms_ret {e : Expr} {pos : Pos} {m : ME τ D} (h : PE X e (tE X.K W m)) : PS X (.Return (some e) pos) (tS X.K W (sRet m)) := PS.imp (ps_ret h) fun E σ H ⟨C, ρ, t, A, p⟩ => by
  refine useS A p fun d t1 v H1 e1 s1 A1 r1 p1 => ?_
  exact p1 v H1 (Sm.refl _ _) (C.less A1.st fun _ => .inl) (r1.anti fun _ => .inl)
def sIf (c : ME τ Bool) (a b : MS τ) : MS τ := sDo c fun k ρ t => if k = true then a ρ t else b ρ t
theorem ms_if {c : Expr} {sa sb : List Stmt} {pos : Pos} {mc : ME τ Bool} {a b : MS τ} (hc : PT X c (tT X.K W mc)) (ha : PSs X sa (tS X.K W a)) (hb : PSs X sb (tS X.K W b)) : PS X (.If c sa sb pos) (tS X.K W (sIf mc a b)) :=
  PS.imp (ps_if hc ha hb) fun E σ H ⟨C, ρ, t, A, p⟩ => by
    refine useS A p fun d t1 v H1 e1 s1 A1 r1 p1 => ?_
    cases r1
    cases d with
    | true => exact ⟨C, ρ, t1, A1, p1⟩
    | false => exact ⟨C, ρ, t1, A1, p1⟩
def sPar (i j : Nat) (a b : ME τ D) : MS τ := sDo (aCons a (aCons b aNil)) fun ds ρ t => match ds with
  | [d, e] => .nx ((ρ.set i (.val d)).set j (.val e)) t
  | _ => .bad
theorem ms_par {s : Stmt} {i j : Nat} {ma mb : ME τ D} (h : PS X s (tPar i j (tA X.K W (aCons ma (aCons mb aNil))))) : PS X s (tS X.K W (sPar i j ma mb)) := PS.imp h fun E σ H ⟨C, ρ, t, A, p⟩ => by
  refine useS A p fun d t1 v H1 e1 s1 A1 r1 p1 => ?_
  cases r1 with
  | nil => exact p1.elim
  | cons r1 r2 => cases r2 with
    | nil => exact p1.elim
    | cons r2 r3 => cases r3 with
      | cons => exact p1.elim
      | nil =>
        exact ⟨_, _, rfl, p1 _ H1 (Stp.setVal.trans Stp.setVal) ((A1.setVal r1).setVal (r2.anti fun _ => Fo.setVal))⟩
def sApp (i : Nat) (m : ME τ D) : MS τ := fun ρ t => match ρ[i]? with
  | some (.own xs) => sDo m (fun d ρ t => if xs.length < 16777216 then .nx (ρ.set i (.own (xs ++ [d]))) t else .bad) ρ t
  | _ => .bad
theorem ms_app {s : Stmt} {i : Nat} {m : ME τ D} (h : PS X s (tDrop (tBM X.K "list" rAppend (tVar i) (tCons (tE X.K W m) tNil)))) : PS X s (tS X.K W (sApp i m)) := PS.imp h fun E σ H ⟨C, ρ, t, A, p⟩ => by
  unfold sApp at p
  split at p
  · rename_i xs hi
    obtain ⟨a, vs, hs, nF, ha, hr⟩ := A.own i xs hi
    refine ⟨_, hs, .inl ⟨rfl, _, .inl (.inl ha)⟩, ?_⟩
    refine useS A p fun d t1 v H1 e1 s1 A1 r1 p1 => ?_
    obtain ⟨a', vs', hs', nF', ha', hr'⟩ := A1.own i xs hi
    rw [hs] at hs'; cases hs'
    split at p1
    · rename_i hl
      obtain ⟨A2, sp⟩ := A1.reOwn (ws := vs' ++ [v]) (ys := xs ++ [d]) hi hs (hr'.snoc r1)
      exact ⟨a, vs', v, rfl, rfl, ha', by rw [hr'.length]; exact hl, p1 σ _ sp A2⟩
    · exact p1.elim
  · exact p.elim
end
end MM

namespace MM
open PySem PySem.Spec PyProof.Rows L2
section
variable {X : Cx} {W : WX} {τ : Type} [Sto τ] {K : Fg}
def loopW (c : ME τ Bool) (b : MS τ) : Nat → MS τ
  | 0 => fun _ _ => .bad
  | n + 1 => sDo c fun k ρ t => if k = true then (match b ρ t with
      | .nx ρ' t' => loopW c b n ρ' t'
      | .ct ρ' t' => loopW c b n ρ' t'
      | .bk ρ' t' => .nx ρ' t'
      | r => r) else .nx ρ t
theorem loopW_mono {c : ME τ Bool} {b : MS τ} : ∀ {n m : Nat} {ρ : Rho} {t : τ}, n ≤ m → loopW c b n ρ t ≠ .bad → loopW c b m ρ t = loopW c b n ρ t
  | 0, _, _, _, _, h => absurd rfl h
  | n + 1, 0, _, _, hl, _ => absurd hl (by omega)
  | n + 1, m + 1, ρ, t, hl, h => by
    unfold loopW sDo at h ⊢
    cases e : c ρ t with
    | ok k t' =>
      rw [e] at h
      dsimp only at h ⊢
      cases k with
      | false => rfl
      | true =>
        rw [if_pos rfl] at h ⊢
        rw [if_pos rfl]
        cases e2 : b ρ t' with
        | nx ρ' t'' => rw [e2] at h; exact loopW_mono (by omega) h
        | ct ρ' t'' => rw [e2] at h; exact loopW_mono (by omega) h
        | _ => rfl
    | ex n fs t' => rfl
    | bad => rfl
open Classical in
noncomputable def sWhile (c : ME τ Bool) (b : MS τ) : MS τ := fun ρ t => if h : ∃ n, loopW c b n ρ t ≠ .bad then loopW c b h.choose ρ t else .bad
theorem sWhile_of {c : ME τ Bool} {b : MS τ} {n : Nat} {ρ : Rho} {t : τ} (h : loopW c b n ρ t ≠ .bad) : sWhile c b ρ t = loopW c b n ρ t := by
  have hx : ∃ n, loopW c b n ρ t ≠ .bad := ⟨n, h⟩
  unfold sWhile
  rw [dif_pos hx]
  have h1 := hx.choose_spec
  rcases Nat.le_total n hx.choose with q | q
  · exact loopW_mono q h
  · exact (loopW_mono q h1).symm
theorem sWhile_turn (c : ME τ Bool) (b : MS τ) (ρ : Rho) (t : τ) : sWhile c b ρ t = sDo c (fun k ρ t => if k = true then (match b ρ t with
      | .nx ρ' t' => sWhile c b ρ' t'
      | .ct ρ' t' => sWhile c b ρ' t'
      | .bk ρ' t' => .nx ρ' t'
      | r => r) else .nx ρ t) ρ t := by
  have inner : ∀ ρ' t', sWhile c b ρ' t' ≠ .bad → ∃ n, sWhile c b ρ' t' = loopW c b n ρ' t' := fun ρ' t' h => by
    unfold sWhile at h ⊢
    split at h
    · rename_i hx
      rw [dif_pos hx]
      exact ⟨_, rfl⟩
    · exact absurd rfl h
  have inner2 : ∀ ρ' t', sWhile c b ρ' t' = .bad → ∀ n, loopW c b n ρ' t' = .bad := fun ρ' t' h n => by
    cases q : loopW c b n ρ' t' with
    | bad => rfl
    | _ =>
      have := sWhile_of (c := c) (b := b) (n := n) (ρ := ρ') (t := t') (by rw [q]; intro z; cases z)
      rw [h, q] at this
      cases this
  unfold sDo
  cases e : c ρ t with
  | ok k t1 =>
    cases k with
    | false =>
      rw [sWhile_of (n := 1) (by unfold loopW sDo; rw [e]; intro z; cases z)]
      unfold loopW sDo
      rw [e]
      rfl
    | true =>
      dsimp only
      rw [if_pos rfl]
      have two : ∀ ρ' t', (∀ n, loopW c b (n + 1) ρ t = loopW c b n ρ' t') → sWhile c b ρ t = sWhile c b ρ' t' := fun ρ' t' h => by
        by_cases q : sWhile c b ρ' t' = .bad
        · rw [q]
          unfold sWhile
          rw [dif_neg]
          rintro ⟨n, hn⟩
          cases n with
          | zero => exact hn rfl
          | succ n => rw [h n, inner2 _ _ q n] at hn; exact hn rfl
        · obtain ⟨n, hn⟩ := inner _ _ q
          rw [hn, ← h n]
          exact sWhile_of (by rw [h n, ← hn]; exact q)
      cases e2 : b ρ t1 with
      | nx ρ' t2 => exact two ρ' t2 fun n => by rw [show loopW c b (n + 1) = sDo c _ from rfl]; unfold sDo; rw [e]; dsimp only; rw [if_pos rfl, e2]
      | ct ρ' t2 => exact two ρ' t2 fun n => by rw [show loopW c b (n + 1) = sDo c _ from rfl]; unfold sDo; rw [e]; dsimp only; rw [if_pos rfl, e2]
      | bk ρ' t2 =>
        have l : loopW c b 1 ρ t = .nx ρ' t2 := by unfold loopW sDo; rw [e]; dsimp only; rw [if_pos rfl, e2]
        rw [sWhile_of (n := 1) (by rw [l]; intro z; cases z), l]
      | rt d t2 =>
        have l : loopW c b 1 ρ t = .rt d t2 := by unfold loopW sDo; rw [e]; dsimp only; rw [if_pos rfl, e2]
        rw [sWhile_of (n := 1) (by rw [l]; intro z; cases z), l]
      | ex n fs ρ' t2 =>
        have l : loopW c b 1 ρ t = .ex n fs ρ' t2 := by unfold loopW sDo; rw [e]; dsimp only; rw [if_pos rfl, e2]
        rw [sWhile_of (n := 1) (by rw [l]; intro z; cases z), l]
      | bad =>
        unfold sWhile
        rw [dif_neg]
        rintro ⟨n, hn⟩
        cases n with
        | zero => exact hn rfl
        | succ n => exact hn (by unfold loopW sDo; rw [e]; dsimp only; rw [if_pos rfl, e2])
  | ex n fs t1 =>
    have l : loopW c b 1 ρ t = .ex n fs ρ t1 := by unfold loopW sDo; rw [e]
    rw [sWhile_of (n := 1) (by rw [l]; intro z; cases z), l]
  | bad =>
    unfold sWhile
    rw [dif_neg]
    rintro ⟨n, hn⟩
    cases n with
    | zero => exact hn rfl
    | succ n => exact hn (by unfold loopW sDo; rw [e])
theorem while_red {c : ME τ Bool} {b : MS τ} {E : Ends} {σ : St} {H : Hp} (p : tS K W (sWhile c b) E σ H) : tWhile (tT K W c) (tS K W b) E σ H := by
  obtain ⟨C, ρ, t, A, p⟩ := p
  unfold sWhile at p
  split at p
  · rename_i hx
    refine ⟨fun n σ H => ∃ ρ t, At K C ρ t σ H ∧ SPost K W C (Fo C.F ρ σ) H (loopW c b n ρ t) E, ⟨_, ρ, t, A, p⟩, ?_⟩
    rintro n σ H ⟨ρ, t, A, p⟩
    cases n with
    | zero => exact p.elim
    | succ n =>
      refine useS A p fun k t1 v H1 e1 s1 A1 r1 p1 => ?_
      cases r1
      cases k with
      | false => exact p1 σ H1 (Stp.refl _ _) A1
      | true =>
        rw [if_pos rfl] at p1
        refine ⟨fun σ' H' => ∃ ρ t, At K C ρ t σ' H' ∧ SPost K W C (Fo C.F ρ σ') H' (loopW c b n ρ t) E, fun σ' H' h => ⟨n, Nat.lt_succ_self n, h⟩, C, ρ, t1, A1, ?_⟩
        cases e2 : b ρ t1 with
        | nx ρ' t2 => rw [e2] at p1; exact fun σ' H' s' A' => ⟨ρ', t2, A', SPost.rebase p1 s'⟩
        | ct ρ' t2 => rw [e2] at p1; exact fun σ' H' s' A' => ⟨ρ', t2, A', SPost.rebase p1 s'⟩
        | bk ρ' t2 => rw [e2] at p1; exact p1
        | rt d t2 => rw [e2] at p1; exact p1
        | ex n fs ρ' t2 => rw [e2] at p1; exact p1
        | bad => rw [e2] at p1; exact p1
  · exact p.elim
theorem ms_while {c : Expr} {body : List Stmt} {pos : Pos} {mc : ME τ Bool} {b : MS τ} (hp : PassesOwn (model X.prog X.w) X.A X.env X.xe) (hc : PT X c (tT X.K W mc)) (hb : PSs X body (tS X.K W b)) : PS X (.While c body [] pos) (tS X.K W (sWhile mc b)) :=
  PS.imp (ps_while hp hc hb) fun _ _ _ p => while_red p

def rIt : Rel It (List D) := fun K _ _ F _ H' J ds => ∃ (G : Hp → Prop) (Y : Nat → Hp → V → Hp → Prop), Walk J ds.length G Y ∧ (∀ H2, Sm F H' H2 → G H2) ∧
  ∀ (Fc : Fp) (i : Nat) (H2 : Hp) (x : V) (H3 : Hp), i < ds.length → Stp F H' Fc H2 → Dom Fc H2 → Y i H2 x H3 → Same H2 H3 ∧ ∃ d, ds[i]? = some d ∧ Rep K Fc H3 x d
theorem okI : RelOk rIt := ⟨fun _ _ _ _ _ _ _ _ _ _ h => h⟩
abbrev tI {τ : Type} [Sto τ] (K : Fg) (W : WX) (m : ME τ (List D)) : TI := tG rIt K W m
theorem PI.imp {tg e : Expr} {t t' : TI} (h : PI X tg e t) (i : ∀ σ H Q, t' σ H Q → t σ H Q) : PI X tg e t' := ⟨fun pins s σ H R I q => h.run pins s σ H R I (i σ H R q)⟩
def itD : D → Option (List D)
  | .lst ds => some ds
  | .tup ds => some ds
  | .scr ns => some (ns.map .int)
  | _ => none
theorem rIt_list {K : Fg} {I : Fp → Hp → Prop} {F0 F : Fp} {H H' : Hp} {a : Addr} {vs : List V} {ds : List D} (hl : LstF K F H' a vs) (r : Reps K F H' vs ds) : rIt K I F0 F H H' (Itl K a) ds := by
  have w : Walk (Itl K a) ds.length (fun H => SqL K H a vs) (YAt vs) := by rw [← r.length]; exact walk_list
  refine ⟨_, _, w, fun H2 s => (hl.step ⟨s, fun _ z => .inl z⟩).sq, fun Fc i H2 x H3 hi s dm y => ?_⟩
  obtain ⟨rfl, y⟩ := y
  obtain ⟨d, e, q⟩ := (r.step s).getV y
  exact ⟨fun _ _ e => e, d, e, q⟩
theorem rIt_scr {K : Fg} {I : Fp → Hp → Prop} {F0 F : Fp} {H H' : Hp} {a : Addr} {ns : List Int} (hl : ScrF K F H' a (ns.map V.int)) : rIt K I F0 F H H' (Itl K a) (ns.map .int) := by
  have w : Walk (Itl K a) (ns.map D.int).length (fun H => SqL K H a (ns.map V.int)) (YAt (ns.map V.int)) := by rw [List.length_map, ← List.length_map (f := V.int)]; exact walk_list
  refine ⟨_, _, w, fun H2 s => (hl.step ⟨s, fun _ z => .inl z⟩).sq, fun Fc i H2 x H3 hi s dm y => ?_⟩
  obtain ⟨rfl, y⟩ := y
  rw [List.getElem?_map] at y ⊢
  cases e : ns[i]? with
  | none => rw [e] at y; cases y
  | some n => rw [e] at y; cases y; exact ⟨fun _ _ e => e, _, rfl, .int n⟩
theorem rIt_tup {K : Fg} {I : Fp → Hp → Prop} {F0 F : Fp} {H H' : Hp} {a : Addr} {vs : List V} {ds : List D} (hl : TupF K F H' a vs) (r : Reps K F H' vs ds) : rIt K I F0 F H H' (Itt K a) ds := by
  have w : Walk (Itt K a) ds.length (fun H => SqT K H a vs) (YAt vs) := by rw [← r.length]; exact walk_tup
  refine ⟨_, _, w, fun H2 s => (hl.step ⟨s, fun _ z => .inl z⟩).sq, fun Fc i H2 x H3 hi s dm y => ?_⟩
  obtain ⟨rfl, y⟩ := y
  obtain ⟨d, e, q⟩ := (r.step s).getV y
  exact ⟨fun _ _ e => e, d, e, q⟩
def iSeq (K : Fg) (tl : TE) : TI := fun σ H R => tl σ H fun x H1 => (∃ a, x = .ref a ∧ (∃ xs, SqL K H1 a xs) ∧ R (Itl K a) H1) ∨ (∃ a, x = .ref a ∧ (∃ xs, SqT K H1 a xs) ∧ R (Itt K a) H1)
theorem pi_seq {tg l : Expr} {tl : TE} (hl : PE X l tl) : PI X tg l (iSeq X.K tl) := by
  refine ⟨fun pins s σ H R I h => ?_⟩
  refine thn (hl.run pins s σ H _ I h) fun v s1 ⟨x, H1, I1, r1, q1⟩ => ?_
  rcases q1 with ⟨a, e, ⟨xs, hq⟩, q⟩ | ⟨a, e, ⟨xs, hq⟩, q⟩
  · subst e
    cases r1
    obtain ⟨its, rv, p, hz⟩ := I1.list hq
    refine wpAny_pyIter_list p.isList ?_
    refine ⟨s1.heap.objs.size, [s1.heap.objs.size], _, _, H1, rfl, I1.kept (t' := s1.toks) fun b o e => Heap.get?_push_of_some _ e, turn_list a _, ⟨_, Heap.get?_push_size _ rfl, rfl, rfl⟩, fun b hb => ?_, q⟩
    have e : b = s1.heap.objs.size := by simpa using hb
    subst e
    exact I1.fpOk (Nat.le_refl _) (I1.hok.fresh (Nat.le_refl _))
  · subst e
    cases r1
    obtain ⟨its, rv, p, hz⟩ := I1.tuple hq
    refine wpAny_pyIter_tuple (show s1.heap.IsTuple a its.toArray from p) ?_
    refine ⟨s1.heap.objs.size, [s1.heap.objs.size], _, _, H1, rfl, I1.kept (t' := s1.toks) fun b o e => Heap.get?_push_of_some _ e, turn_tuple a _, ⟨_, Heap.get?_push_size _ rfl, rfl, rfl⟩, fun b hb => ?_, q⟩
    have e : b = s1.heap.objs.size := by simpa using hb
    subst e
    exact I1.fpOk (Nat.le_refl _) (I1.hok.fresh (Nat.le_refl _))
theorem mi_seq {tg l : Expr} {m : ME τ D} (h : PE X l (tE X.K W m)) : PI X tg l (tI X.K W (e1 itD m)) := PI.imp (pi_seq h) fun σ H R ⟨C, ρ, t, A, p⟩ => by
  refine use okI A p fun d t1 v H1 e1 s1 A1 r1 p1 => ?_
  cases d <;> first
    | exact p1.elim
    | skip
  · cases r1 with
    | tup hl r => exact .inr ⟨_, rfl, ⟨_, hl.sq⟩, p1 _ H1 (Sm.refl _ _) A1.st (rIt_tup hl r)⟩
  · cases r1 with
    | lst hl r => exact .inl ⟨_, rfl, ⟨_, hl.sq⟩, p1 _ H1 (Sm.refl _ _) A1.st (rIt_list hl r)⟩
  · cases r1 with
    | scr hl => exact .inl ⟨_, rfl, ⟨_, hl.sq⟩, p1 _ H1 (Sm.refl _ _) A1.st (rIt_scr hl)⟩
def rngD (lo : Int) (n : Nat) : List D := (List.range n).map fun i => .int (lo + (i : Nat))
theorem rIt_rng {K : Fg} {I : Fp → Hp → Prop} {F0 F : Fp} {H H' : Hp} {lo : Int} {n : Nat} : rIt K I F0 F H H' (Itr lo n) (rngD lo n) := by
  have w : Walk (Itr lo n) (rngD lo n).length (fun _ => True) (YFn fun i => .int (lo + i)) := by
    rw [show (rngD lo n).length = n by simp [rngD]]
    exact walk_range
  refine ⟨_, _, w, fun _ _ => trivial, fun Fc i H2 x H3 hi s dm y => ?_⟩
  obtain ⟨rfl, rfl⟩ := y
  have hn : i < n := by simpa [rngD] using hi
  exact ⟨fun _ _ e => e, .int (lo + i), by simp [rngD, hn], .int _⟩
def fRng1 : List D → Option (List D)
  | [.int j] => if -(2 ^ 62) ≤ j ∧ j < 2 ^ 62 then some (rngD 0 j.toNat) else none
  | _ => none
theorem mi_range1 {tg a : Expr} {p pos : Pos} {m : ME τ (List D)} (hg : Gl X "range") (hm : X.mg "range" = none) (ha : PA X [a] (tAW X.K W m)) (hs : starEach [a] X.env = [(false, eval a X.env)] := by rfl) : PI X tg (.Call (.Name "range" p) [a] [] pos) (tI X.K W (e1 fRng1 m)) :=
  PI.imp (pi_range1 hg hm ha hs) fun σ H R ⟨C, ρ, t, A, p⟩ => by
    refine use okI A p fun d t1 v H1 e1 s1 A1 r1 p1 => ?_
    unfold fRng1 at p1
    split at p1
    · rename_i j
      obtain ⟨x, rfl, rx⟩ := RepsW.one r1
      cases rx.intOf
      split at p1
      · rename_i hj
        exact ⟨j, rfl, hj.1, hj.2, p1 _ H1 (Sm.refl _ _) A1.st rIt_rng⟩
      · exact p1.elim
    · exact p1.elim
def loopF (g : Tgt) (b : MS τ) : List D → MS τ
  | [] => fun ρ t => .nx ρ t
  | d :: ds => fun ρ t => match g ρ d with
    | some ρ1 => (match b ρ1 t with
      | .nx ρ' t' => loopF g b ds ρ' t'
      | .ct ρ' t' => loopF g b ds ρ' t'
      | .bk ρ' t' => .nx ρ' t'
      | r => r)
    | none => .bad
def sFor (m : ME τ (List D)) (g : Tgt) (b : MS τ) : MS τ := sDo m fun ds ρ t => loopF g b ds ρ t
theorem for_red {m : ME τ (List D)} {g : Tgt} {vs : List Nat} {b : MS τ} {E : Ends} {σ : St} {H : Hp} (p : tS K W (sFor m g b) E σ H) : tFor (tI K W m) (tTg τ K g vs) (tS K W b) E σ H := by
  obtain ⟨C, ρ0, t0, A0, p⟩ := p
  refine useS A0 p fun ds t1 J H1 e1 s1 A1 r1 p1 => ?_
  obtain ⟨G, Y, w, hG, hY⟩ := r1
  refine for_it w (fun i σ' H' => ∃ ρ t, At K C ρ t σ' H' ∧ Stp (Fo C.F ρ0 σ) H1 (Fo C.F ρ σ') H' ∧ SPost K W C (Fo C.F ρ σ') H' (loopF g b (ds.drop i) ρ t) E) ⟨ρ0, t1, A1, Stp.refl _ _, p1⟩ ?_ ?_ ?_
  · rintro i σ' H' hi ⟨ρ, t, A, s, q⟩
    exact hG H' s.keep
  · rintro i x σ' H' H'' hi ⟨ρ, t, A, s, q⟩ y
    obtain ⟨sm, d, ed, r⟩ := hY (Fo C.F ρ σ') i H' x H'' hi s A.dom y
    have A' := A.next (Sm.of_same sm) (C.stay A.st sm)
    have dr : ds.drop i = d :: ds.drop (i + 1) := by
      obtain ⟨hl, e⟩ := List.getElem?_eq_some_iff.mp ed
      rw [List.drop_eq_getElem_cons hl, e]
    rw [dr] at q
    unfold loopF at q
    cases eg : g ρ d with
    | none => rw [eg] at q; exact q.elim
    | some ρ1 =>
      rw [eg] at q
      refine ⟨C, ρ, t, d, A', r, ρ1, eg, fun σ2 Hg _ _ s2 A2 => ⟨C, ρ1, t, A2, ?_⟩⟩
      have s02 : Stp (Fo C.F ρ σ') H' (Fo C.F ρ1 σ2) Hg := Stp.trans (Stp.of_sm (Sm.of_same (F := C.F) sm) fun _ => .inl) s2
      dsimp only at q
      cases eb : b ρ1 t with
      | nx ρ' t' => rw [eb] at q; exact fun σ3 H3 s3 A3 => ⟨ρ', t', A3, s.trans (s02.trans s3), SPost.rebase q (s02.trans s3)⟩
      | ct ρ' t' => rw [eb] at q; exact fun σ3 H3 s3 A3 => ⟨ρ', t', A3, s.trans (s02.trans s3), SPost.rebase q (s02.trans s3)⟩
      | bk ρ' t' => rw [eb] at q; exact SPost.rebase (K := K) (W := W) (E := E) (r := .nx ρ' t') q s02
      | rt v t' => rw [eb] at q; exact SPost.rebase (K := K) (W := W) (r := .rt v t') (E := E) q s02
      | ex n fs ρ' t' => rw [eb] at q; exact SPost.rebase (K := K) (W := W) (r := .ex n fs ρ' t') (E := E) q s02
      | bad => rw [eb] at q; exact q.elim
  · rintro σ' H' ⟨ρ, t, A, s, q⟩
    rw [List.drop_length] at q
    exact q σ' H' (Stp.refl _ _) A
theorem ms_for {tg iter : Expr} {body : List Stmt} {pos : Pos} {m : ME τ (List D)} {g : Tgt} {vs : List Nat} {b : MS τ} (hp : PassesOwn (model X.prog X.w) X.A X.env X.xe) (hc : X.calm = true) (hi : PI X tg iter (tI X.K W m)) (hg : PG X tg (tTg τ X.K g vs)) (hb : PSs X body (tS X.K W b))
    (hs : ∀ x, foldedSetIterable iter X.env x = pure x := by intro _; rfl) : PS X (.For tg iter body [] pos) (tS X.K W (sFor m g b)) := PS.imp (ps_for hp hc hi hg hb hs) fun _ _ _ p => for_red p
end
end MM

namespace MM
open PySem PySem.Spec PyProof.Rows L2
abbrev W0 : WX := fun _ _ _ _ => False
section
variable {X : Cx} {W : WX} {τ : Type} [Sto τ] {K : Fg}
def wipeR (ρ : Rho) : List Nat → Rho
  | [] => ρ
  | v :: vs => (wipeR ρ vs).set v .no
theorem wipeR_some {ρ : Rho} {i : Nat} {x : Slot} : ∀ {vs : List Nat}, (wipeR ρ vs)[i]? = some x → x ≠ .no → ρ[i]? = some x ∧ i ∉ vs
  | [], h, _ => ⟨h, by simp⟩
  | v :: vs, h, hn => by
    unfold wipeR at h
    rcases set_at h with ⟨_, e, _⟩ | ⟨ne, h⟩
    · exact absurd e hn
    · obtain ⟨h1, h2⟩ := wipeR_some h hn
      exact ⟨h1, by simp only [List.mem_cons, not_or]; exact ⟨fun e => ne e.symm, h2⟩⟩
theorem wipeR_length (ρ : Rho) : ∀ vs : List Nat, (wipeR ρ vs).length = ρ.length
  | [] => rfl
  | v :: vs => by unfold wipeR; rw [List.length_set, wipeR_length ρ vs]
theorem wipe_keep {σ : St} {i : Nat} : ∀ {vs : List Nat}, i ∉ vs → (wipe σ vs)[i]? = σ[i]?
  | [], _ => rfl
  | v :: vs, h => by
    simp only [List.mem_cons, not_or] at h
    unfold wipe
    rw [List.getElem?_set_ne (fun e => h.1 e.symm), wipe_keep h.2]
def noEx {α : Type} (r : Res τ α) : Res τ α := match r with
  | .ok a t => .ok a t
  | _ => .bad
def compL (g : Tgt) (tt : ME τ Bool) (te : ME τ D) (ρ : Rho) : List D → τ → Res τ (List D)
  | [], t => .ok [] t
  | d :: ds, t => match g ρ d with
    | some ρ1 => (noEx (tt ρ1 t)).bind fun b t => if b = true then (noEx (te ρ1 t)).bind fun y t => (compL g tt te ρ ds t).bind fun ys t => .ok (y :: ys) t else compL g tt te ρ ds t
    | none => .bad
theorem wipe_eq {σ σ' : St} {vs ws : List Nat} (hl : σ'.length = σ.length) (h : ∀ j, j ∉ vs → σ'[j]? = σ[j]?) (hs : ∀ j, j ∈ vs → j ∈ ws) : wipe σ' ws = wipe σ ws := by
  have wn : ∀ (τ0 : St) (us : List Nat) (j : Nat), j ∈ us → j < τ0.length → (wipe τ0 us)[j]? = some none := fun τ0 us => by
    induction us with
    | nil => intro j h; cases h
    | cons u us ih =>
      intro j hj hl
      unfold wipe
      by_cases e : u = j
      · subst e
        rw [List.getElem?_set_self (by rw [wipe_length]; exact hl)]
      · rw [List.getElem?_set_ne e]
        exact ih j ((List.mem_cons.mp hj).resolve_left fun q => e q.symm) hl
  refine List.ext_getElem? fun j => ?_
  by_cases q : j ∈ ws
  · by_cases l : j < σ.length
    · rw [wn σ' ws j q (by rw [hl]; exact l), wn σ ws j q l]
    · rw [List.getElem?_eq_none (by rw [wipe_length, hl]; omega), List.getElem?_eq_none (by rw [wipe_length]; omega)]
  · rw [wipe_keep q, wipe_keep q]
    exact h j fun z => q (hs j z)
def noOwn (ρ : Rho) (vs : List Nat) : Bool := vs.all fun v => match ρ[v]? with
  | some (.own _) => false
  | some (.dct ..) => false
  | _ => true
theorem noOwn_mine {ρ : Rho} {vs : List Nat} (hno : noOwn ρ vs = true) {j : Nat} {x : Slot} (h : ρ[j]? = some x ∧ x.mine = true) (hj : j ∈ vs) : False := by
  have z := List.all_eq_true.mp hno j hj
  rw [h.1] at z
  cases x with
  | own _ => cases z
  | dct _ _ => cases z
  | no => cases h.2
  | val _ => cases h.2
def eComp (mi : ME τ (List D)) (vs : List Nat) (g : Tgt) (tt : ME τ Bool) (te : ME τ D) : ME τ (List D) := fun ρ t => (mi ρ t).bind fun ds t => if ds.length ≤ 16777216 ∧ noOwn ρ vs = true then compL g tt te (wipeR ρ vs) ds t else .bad
theorem At.blk {C : SC τ} {ρ : Rho} {t : τ} {σ : St} {H1 H' : Hp} {D0 : Addr} {acc : HO} {vs : List Nat} {t' : τ} (A : At K C ρ t σ H1) (nD : H1 D0 = none) (s : Sm C.F H1 H') (iv : C.Iv t' (fun b => Fo C.F ρ σ b ∨ b = D0) H') (hD : H' D0 = some acc) :
    At K (C.cmp D0 acc) (wipeR ρ vs) t' (wipe σ vs) H' ∧ ∀ b, Fo (C.cmp D0 acc).F (wipeR ρ vs) (wipe σ vs) b → Fo C.F ρ σ b ∨ b = D0 := by
  have tr : ∀ {j : Nat} {x : Slot}, ((wipeR ρ vs)[j]? = some x ∧ x.mine = true) → (ρ[j]? = some x ∧ x.mine = true) ∧ j ∉ vs := fun {j x} h => by
    obtain ⟨q1, q2⟩ := wipeR_some h.1 (by intro z; rw [z] at h; cases h.2)
    exact ⟨⟨q1, h.2⟩, q2⟩
  have fo : ∀ b, Fo (C.cmp D0 acc).F (wipeR ρ vs) (wipe σ vs) b → Fo C.F ρ σ b ∨ b = D0 := fun b h => by
    rcases h with (h | h) | ⟨j, xs, h1, h2⟩
    · exact .inl (.inl h)
    · exact .inr h
    · obtain ⟨h3, h4⟩ := tr h1
      exact .inl (.inr ⟨j, xs, h3, by rw [← wipe_keep h4]; exact h2⟩)
  have sp : Stp (Fo C.F ρ σ) H1 (Fo (C.cmp D0 acc).F (wipeR ρ vs) (wipe σ vs)) H' := ⟨fun b o n e => s b o (fun z => n (.inl z)) e, fun b h => (fo b h).elim .inl fun e => .inr (by rw [e]; exact nD)⟩
  refine ⟨⟨Sto.cmp _ _ _ _ (fun z => C.dom _ _ _ _ A.st z nD) A.okC, ⟨C.less iv fo, hD⟩, by rw [wipe_length, wipeR_length, A.len], fun j d h => ?_, fun j xs h => ?_, fun i j xs ys h1 h2 e => ?_⟩, fo⟩
  · obtain ⟨h3, h4⟩ := wipeR_some h (by intro z; cases z)
    obtain ⟨v, h5, h6⟩ := A.val j d h3
    exact ⟨v, by rw [wipe_keep h4]; exact h5, h6.step sp⟩
  · obtain ⟨h3, h4⟩ := tr h
    obtain ⟨a, ws, h5, h6, h7, h8⟩ := A.mine j xs h3
    refine ⟨a, ws, by rw [wipe_keep h4]; exact h5, fun z => z.elim h6 fun e => ?_, s a _ h6 h7, h8.step sp⟩
    rw [e, nD] at h7; cases h7
  · obtain ⟨h3, h4⟩ := tr h1
    obtain ⟨h5, h6⟩ := tr h2
    rw [wipe_keep h4, wipe_keep h6] at e
    exact A.dis i j xs ys h3 h5 e
def rItO : Rel It (List D) := fun K _ F0 F _ H' J ds => ∃ (G : Hp → Prop) (Y : Nat → Hp → V → Hp → Prop), Walk J ds.length G Y ∧ (∀ H2, Sm F0 H' H2 → G H2) ∧
  ∀ (Fc : Fp) (i : Nat) (H2 : Hp) (x : V) (H3 : Hp), i < ds.length → Stp F H' Fc H2 → Dom Fc H2 → Y i H2 x H3 → Same H2 H3 ∧ ∃ d, ds[i]? = some d ∧ Rep K Fc H3 x d
abbrev tIO {τ : Type} [Sto τ] (K : Fg) (W : WX) (m : ME τ (List D)) : TI := tG rItO K W m
theorem toO {tg e : Expr} {m : ME τ (List D)} (h : PI X tg e (tI X.K W m)) : PI X tg e (tIO X.K W m) := PI.imp h fun σ H Q ⟨C, ρ, t, A, p⟩ => ⟨C, ρ, t, A, by
  cases q : m ρ t with
  | ok ds t' =>
    rw [q] at p
    exact fun J H' s i ⟨G, Y, w, hG, hY⟩ => p J H' s i ⟨G, Y, w, fun H2 s2 => hG H2 fun b o n e => s2 b o (fun z => n (.inl z)) e, hY⟩
  | ex n fs t' => rw [q] at p; exact p
  | bad => rw [q] at p; exact p⟩
theorem lc_red {mi : ME τ (List D)} {vs ws : List Nat} {g : Tgt} {tt : ME τ Bool} {te : ME τ D} {σ : St} {H : Hp} {Q : VK} (hv : ∀ j, j ∈ ws → j ∈ vs) (p : tF K W (eComp mi vs g tt te) σ H Q) : tLc (tIO K W mi) (tTg τ K g ws) (tT K W0 tt) (tE K W0 te) vs σ H Q := by
  obtain ⟨C, ρ, t0, A0, p⟩ := p
  refine use okF A0 p fun ds t1 J H1 e1 s1 A1 r1 p1 => ?_
  intro D0 nD
  split at p1
  · rename_i hlo
    obtain ⟨hlen, hno⟩ := hlo
    have own_out : ∀ (j : Nat) (x : Slot), (ρ[j]? = some x ∧ x.mine = true) → j ∉ vs := fun j x h hj => noOwn_mine hno h hj
    obtain ⟨G, Y, w, hG, hY⟩ := r1
    have nF0 : ¬ Fo C.F ρ σ D0 := fun z => A1.dom D0 z nD
    have s0 : Sm C.F H1 (upd H1 D0 (.lst [])) := Sm.of_same (same_upd nD)
    have sp0 : Stp (Fo C.F ρ σ) H1 (fun b => Fo C.F ρ σ b ∨ b = D0) (upd H1 D0 (.lst [])) := ⟨fun b o _ e => same_upd nD b o e, fun b h => h.elim .inl fun e => .inr (by rw [e]; exact nD)⟩
    refine lc_it w (fun i H' => ∃ (t : τ) (av : List V) (ad : List D), C.Iv t (fun b => Fo C.F ρ σ b ∨ b = D0) H' ∧ H' D0 = some (.lst av) ∧ Reps K (fun b => Fo C.F ρ σ b ∨ b = D0) H' av ad ∧ av.length ≤ i ∧ Sm C.F H1 H' ∧
        Post rF K W C (Fo C.F ρ σ) σ H1 ((compL g tt te (wipeR ρ vs) (ds.drop i) t).bind fun ys t => .ok (ad ++ ys) t) Q)
      ⟨t1, [], [], C.step _ _ _ _ _ A1.st (fun b o _ e => same_upd nD b o e) sp0, upd_same, .nil, Nat.le_refl _, s0, ?_⟩ ?_ ?_ ?_
    · rw [List.drop_zero]
      cases q : compL g tt te (wipeR ρ vs) ds t1 with
      | ok d t => rw [q] at p1; exact p1
      | ex n fs t => rw [q] at p1; exact p1
      | bad => rw [q] at p1; exact p1
    · rintro i H' hi ⟨t, av, ad, iv, hD, ra, hl, sm, q⟩
      exact hG H' sm
    · rintro i x H' H'' hi ⟨t, av, ad, iv, hD, ra, hl, sm, q⟩ y
      obtain ⟨AB, fo⟩ := At.blk (vs := vs) A1 nD sm iv hD
      have sp : Stp (Fo C.F ρ σ) H1 (Fo (C.cmp D0 (.lst av)).F (wipeR ρ vs) (wipe σ vs)) H' := ⟨fun b o n e => sm b o (fun z => n (.inl z)) e, fun b h => (fo b h).elim .inl fun e => .inr (by rw [e]; exact nD)⟩
      obtain ⟨sy, d, ed, r⟩ := hY _ i H' x H'' hi sp AB.dom y
      have AB2 := AB.next (Sm.of_same sy) ((C.cmp D0 (.lst av)).stay AB.st sy)
      have dr : ds.drop i = d :: ds.drop (i + 1) := by
        obtain ⟨hl, e⟩ := List.getElem?_eq_some_iff.mp ed
        rw [List.drop_eq_getElem_cons hl, e]
      rw [dr] at q
      unfold compL at q
      cases eg : g (wipeR ρ vs) d with
      | none => rw [eg] at q; exact q.elim
      | some ρ1 =>
        rw [eg] at q
        dsimp only at q
        refine ⟨C.cmp D0 (.lst av), wipeR ρ vs, t, d, AB2, r, ρ1, eg, fun σ2 Hg f2 mg s2 A2 => ⟨(wipe_eq (ws := vs) f2.1 (fun j hj => (f2.2 j hj).1) hv).trans (wipe_eq (ws := vs) (vs := vs) (wipe_length σ vs) (fun j hj => wipe_keep hj) fun _ h => h), ?_⟩⟩
        have sy : Same H' Hg := fun b o e => mg b o (sy b o e)
        have sm2 : Sm C.F H1 Hg := sm.trans (Sm.of_same sy)
        have smB : ∀ {H3 : Hp}, Sm (C.cmp D0 (.lst av)).F Hg H3 → Sm C.F H1 H3 := fun {H3} s3 b o n e => s3 b o (fun z => z.elim n fun q => by rw [q, nD] at e; cases e) (sm2 b o n e)
        have big : ∀ b, (Fo C.F ρ σ b ∨ b = D0) → Fo (C.cmp D0 (.lst av)).F ρ1 σ2 b := fun b h => by
          rcases h with (h | ⟨j, xs, h1, h2⟩) | h
          · exact .inl (.inl h)
          · have hj := own_out j xs h1
            have hj2 : j ∉ ws := fun z => hj (hv j z)
            refine .inr ⟨j, xs, ⟨?_, h1.2⟩, ?_⟩
            · rw [(f2.2 j hj2).2]
              have : ∀ us : List Nat, j ∉ us → (wipeR ρ us)[j]? = ρ[j]? := fun us => by
                induction us with
                | nil => intro _; rfl
                | cons u us ih =>
                  intro hu
                  simp only [List.mem_cons, not_or] at hu
                  unfold wipeR
                  rw [List.getElem?_set_ne (fun e => hu.1 e.symm), ih hu.2]
              rw [this vs hj]; exact h1.1
            · rw [(f2.2 j hj2).1, wipe_keep hj, h2]
          · exact .inl (.inr h)
        have raB : ∀ {H3 : Hp}, Sm (C.cmp D0 (.lst av)).F Hg H3 → Reps K (fun b => Fo C.F ρ σ b ∨ b = D0) H3 av ad := fun {H3} s3 => (ra.same (Sm.of_same sy)).same (s3.mono fun b h => h.elim (fun z => .inl (.inl z)) .inr)
        refine ⟨C.cmp D0 (.lst av), ρ1, t, A2, ?_⟩
        unfold noEx at q
        cases et : tt ρ1 t with
        | bad => rw [et] at q; exact q.elim
        | ex n fs t' => rw [et] at q; exact q.elim
        | ok c t3 =>
          rw [et] at q
          intro c' H3 s3 i3 ec
          cases ec
          cases c with
          | false =>
            rw [if_neg Bool.false_ne_true]
            exact ⟨t3, av, ad, C.less i3.1 big, i3.2, raB s3, Nat.le_succ_of_le hl, smB s3, q⟩
          | true =>
            rw [if_pos rfl]
            have A3 := A2.next s3 i3
            refine ⟨C.cmp D0 (.lst av), ρ1, t3, A3, ?_⟩
            simp only [Res.bind_ok, if_true] at q
            cases ee : te ρ1 t3 with
            | bad => rw [ee] at q; exact q.elim
            | ex n fs t' => rw [ee] at q; exact q.elim
            | ok y t4 =>
              rw [ee] at q
              intro yv H4 s4 i4 ry
              have s34 : Sm (C.cmp D0 (.lst av)).F Hg H4 := s3.trans s4
              have yB : Rep K (fun b => Fo C.F ρ σ b ∨ b = D0) H4 yv y := Rep.anti ry big
              refine ⟨av, i4.2, Nat.lt_of_le_of_lt hl (Nat.lt_of_lt_of_le hi hlen), t4, av ++ [yv], ad ++ [y], ?_, upd_same, ?_, by rw [List.length_append]; exact Nat.succ_le_succ hl, ?_, ?_⟩
              · refine C.step _ _ _ _ _ (C.less i4.1 big) (fun b o h e => ?_) ⟨fun b o n e => by rw [upd_ne (fun z => n (.inr z))]; exact e, fun b h => .inl h⟩
                rw [upd_ne (fun z => nF0 (by rw [← z]; exact .inl h))]
                exact e
              · have sp4 : Stp (fun b => Fo C.F ρ σ b ∨ b = D0) H4 (fun b => Fo C.F ρ σ b ∨ b = D0) (upd H4 D0 (.lst (av ++ [yv]))) := ⟨fun b o n e => by rw [upd_ne (fun z => n (.inr z))]; exact e, fun b h => .inl h⟩
                exact Reps.step sp4 ((raB s34).snoc yB)
              · intro b o n e
                have nb : b ≠ D0 := fun z => by rw [z, nD] at e; cases e
                rw [upd_ne nb]
                exact smB s34 b o n e
              · simp only [noEx, Res.bind_ok] at q
                cases ec : compL g tt te (wipeR ρ vs) (ds.drop (i + 1)) t4 with
                | ok zs t5 => rw [ec] at q; simp only [Res.bind_ok, List.append_assoc, List.singleton_append] at q ⊢; exact q
                | ex n fs t5 => rw [ec] at q; exact q
                | bad => rw [ec] at q; exact q
    · rintro H' ⟨t, av, ad, iv, hD, ra, hl, sm, q⟩
      rw [List.drop_length] at q
      simp only [compL, Res.bind_ok, List.append_nil] at q
      exact q (.ref D0) H' sm (C.less iv fun _ => .inl) ⟨D0, av, rfl, nF0, nD, hD, ra, iv⟩
  · exact p1.elim
theorem mf_lc {elt tg iter : Expr} {ifs : List Expr} {scope : Scope} {own : List (Str × Nat)} {ws : List Nat} {pos : Pos} {mi : ME τ (List D)} {g : Tgt} {tt : ME τ Bool} {te : ME τ D} (hc : X.calm = true) (hN : X.N.Nodup) (hi : PI X tg iter (tIO X.K W mi)) (ok : BlkOk X.N X.env.scope scope own)
    (hv : ∀ j, j ∈ ws → j ∈ own.map (·.2))
    (hg : ∀ (s : Shared) (H : Hp) (C : Addr) (cl : List (Str × Addr)) (fp : List Addr), PG (X.blk s H scope (compEnvC scope cl C X.env) fp) tg (tTg τ X.K g ws)) (ht : ∀ (s : Shared) (H : Hp) (C : Addr) (cl : List (Str × Addr)) (fp : List Addr), PTs (X.blk s H scope (compEnvC scope cl C X.env) fp) ifs (tT X.K W0 tt))
    (he : ∀ (s : Shared) (H : Hp) (C : Addr) (cl : List (Str × Addr)) (fp : List Addr), PE (X.blk s H scope (compEnvC scope cl C X.env) fp) elt (tE X.K W0 te)) (hs : ∀ x, foldedSetIterable iter X.env x = pure x := by intro _; rfl) :
    PE X (.ListComp elt [⟨tg, iter, ifs, 0⟩] scope pos) (tF X.K W (eComp mi (own.map (·.2)) g tt te)) := PE.imp (pe_lc hc hN hi ok hg ht he hs) fun _ _ _ p => lc_red hv p
theorem ms_lc {s : Stmt} {i : Nat} {mi : ME τ (List D)} {vs ws : List Nat} {g : Tgt} {tt : ME τ Bool} {te : ME τ D} (hv : ∀ j, j ∈ ws → j ∈ vs) (h : PS X s (tAsg (tLc (tIO X.K W mi) (tTg τ X.K g ws) (tT X.K W0 tt) (tE X.K W0 te) vs) (gName i))) :
    PS X s (tS X.K W (sAsg (gN i) (eLst (eComp mi vs g tt te)))) := ms_set (PS.imp h fun σ _ _ p => by
  obtain ⟨C, ρ, t, A, p⟩ := p
  refine lc_red hv ⟨C, ρ, t, A, ?_⟩
  unfold eLst at p
  cases e : eComp mi vs g tt te ρ t with
  | ok d t' =>
    rw [e] at p
    intro v H' s i r
    obtain ⟨a, us, rfl, n, q, l, r, _⟩ := r
    exact p _ H' s i (.lst ⟨n, .inl l⟩ (r.anti fun _ => .inl))
  | ex n fs t' => rw [e] at p; exact p
  | bad => rw [e] at p; exact p)
theorem mts_nil : PTs X [] (tT X.K W (fun (_ : Rho) (t : τ) => .ok true t)) := ⟨fun pins s σ H Q I ⟨C, ρ, t, A, p⟩ => pts_nil.run pins s σ H Q I (p true H (Sm.refl _ _) A.st rfl)⟩
theorem mts_one {c : Expr} {m : ME τ Bool} (h : PT X c (tT X.K W m)) : PTs X [c] (tT X.K W m) := pts_one h
end

section
variable {τ : Type} [Sto τ]
def FPost (K : Fg) (C : SC τ) (H : Hp) (r : Res τ D) (Q : VK) (E : XK) : Prop := match r with
  | .ok d t' => ∀ v H', Sm C.F H H' → C.Iv t' C.F H' → Rep K C.F H' v d → Q v H'
  | .ex n fs t' => ∀ cls dd H', Sm C.F H H' → C.Iv t' C.F H' → XRep K C.F H' n fs cls dd → E cls dd H'
  | .bad => False
def spF (np : Nat) (K : Fg) (m : List D → τ → Res τ D) : Sp := fun vs H Q E => ∃ (C : SC τ) (ds : List D) (t : τ), Sto.ok K C ∧ C.Iv t C.F H ∧ Reps K C.F H vs ds ∧ ds.length = np ∧ FPost K C H (m ds t) Q E
def runB (n : Nat) (mb : MS τ) : List D → τ → Res τ D := fun ds t => match mb (ds.map Slot.val ++ List.replicate (n - ds.length) .no) t with
  | .nx _ t' => .ok .non t'
  | .rt d t' => .ok d t'
  | .ex n fs _ t' => .ex n fs t'
  | _ => .bad
theorem noOwnStart {ds : List D} {n i : Nat} {x : Slot} : ¬ ((ds.map Slot.val ++ List.replicate n Slot.no)[i]? = some x ∧ x.mine = true) := fun ⟨h, hm⟩ => by
  rw [List.getElem?_append] at h
  split at h
  · rw [List.getElem?_map] at h
    cases e : ds[i]? with
    | none => rw [e] at h; cases h
    | some d => rw [e] at h; cases h; cases hm
  · rw [List.getElem?_replicate] at h
    split at h
    · cases h; cases hm
    · cases h
theorem FoStart {F : Fp} {ds : List D} {n : Nat} {σ : St} {b : Addr} (h : Fo F (ds.map Slot.val ++ List.replicate n .no) σ b) : F b := by
  rcases h with h | ⟨i, xs, h1, _⟩
  · exact h
  · exact absurd h1 noOwnStart
theorem At.start {K : Fg} {C : SC τ} {N : List Str} {vs : List V} {ds : List D} {t : τ} {H : Hp} (okC : Sto.ok K C) (iv : C.Iv t C.F H) (r : Reps K C.F H vs ds) (hl : ds.length ≤ N.length) : At K C (ds.map Slot.val ++ List.replicate (N.length - ds.length) .no) t (start N vs) H where
  okC := okC
  st := C.less iv fun _ => FoStart
  len := by
    unfold L2.start
    rw [List.length_append, List.length_append, List.length_map, List.length_map, List.length_replicate, List.length_replicate, r.length]
  val := fun i d h => by
    rw [List.getElem?_append] at h
    split at h
    · rename_i hi
      rw [List.getElem?_map] at h
      cases e : ds[i]? with
      | none => rw [e] at h; cases h
      | some d' =>
        rw [e] at h
        cases h
        obtain ⟨v, h1, h2⟩ := r.get e
        refine ⟨v, ?_, h2.anti fun _ => FoStart⟩
        unfold L2.start
        rw [List.getElem?_append_left (by rw [List.length_map]; exact (List.getElem?_eq_some_iff.mp h1).1), List.getElem?_map, h1]
        rfl
    · rw [List.getElem?_replicate] at h
      split at h <;> cases h
  mine := fun i xs h => absurd h noOwnStart
  dis := fun i j xs ys h => absurd h noOwnStart
theorem fn_mk {P : Program} {w : World} {K : Fg} {mg : Str → Option Value} {base : Heap} {x qual : Str} {params : Arguments} {body : List Stmt} {scope : Scope} {dvs : List V} {kws : List (Str × V)} {f : Addr} {fd : FuncData} {N ps : List Str} {k : Nat}
    (F : FunD K x qual params body scope dvs kws f fd) (S : FnScope N ps scope) (mb : MS τ)
    (hb : ∀ (cdv : Value) (A : Around) (outer : List Env) (s : Shared) (H : Hp) (E : XK), Room k (A.deeper (envOfC qual scope s.heap.objs.size f cdv)) →
      PSs (cxOf (L2.CX P w) P w K mg base N qual scope f cdv A outer s H E) body (tS K (fun cls d _ H => E cls d H) mb)) : FnOk P w K mg base (L2.CX P w) (k + 1) f fd ps (spF ps.length K (runB N.length mb)) := by
  have hpl : ps.length ≤ N.length := by have := congrArg List.length S.pre; rw [List.length_take] at this; omega
  refine F.ok S (fun vs H Q E ⟨C, ds, t, _, _, r, hl, _⟩ => r.length.trans hl) fun cdv A outer s H vs Q E hr ⟨C, ds, t, okC, iv, r, hl, p⟩ => ⟨_, hb cdv A outer s H E hr, C, _, t, At.start okC iv r (by rw [hl]; exact hpl), ?_⟩
  unfold runB at p
  cases e : mb (ds.map Slot.val ++ List.replicate (N.length - ds.length) .no) t with
  | nx ρ' t' =>
    rw [e] at p
    exact fun σ' H' s' A' => p .non H' (fun b o n e => s'.keep b o (fun z => n (FoStart z)) e) (C.less A'.st fun _ => .inl) .non
  | rt d t' =>
    rw [e] at p
    exact fun v H' s' i r => p v H' (fun b o n e => s' b o (fun z => n (FoStart z)) e) i r
  | ex n fs ρ' t' =>
    rw [e] at p
    exact fun cls dd σ' H' s' A' x => p cls dd H' (fun b o n e => s'.keep b o (fun z => n (FoStart z)) e) (C.less A'.st fun _ => .inl) (x.anti fun _ => .inl)
  | bk ρ' t' => rw [e] at p; exact p.elim
  | ct ρ' t' => rw [e] at p; exact p.elim
  | bad => rw [e] at p; exact p.elim

structure Def (P : Program) (w : World) (K : Fg) (mg : Str → Option Value) (base : Heap) (k : Nat) (x : Str) (np : Nat) (df : List D) (m : List D → τ → Res τ D) : Prop where
  ex : ∃ (fd : FuncData) (ps : List Str) (ds : List Value) (dvs : List V), FnOk P w K mg base (L2.CX P w) k (He.ga K x) fd ps (spF np K m) ∧ mg x = some (.ref (He.ga K x)) ∧ PySem.W.keepIn K (.ref (He.ga K x)) = true ∧ Binds K fd ps ds ∧ Vals dvs ds ∧ (∀ F H, Reps K F H dvs df)

section
variable {X : Cx} {W : WX} {σc : Type}
def ALen {α : Type} (a : ME τ (List α)) (n : Nat) : Prop := ∀ ρ t ds t', a ρ t = .ok ds t' → ds.length = n
theorem alen_nil {α : Type} : ALen (aNil (τ := τ) (α := α)) 0 := fun _ _ _ _ e => by cases e; rfl
theorem alen_cons {α : Type} {a : ME τ α} {b : ME τ (List α)} {n : Nat} (h : ALen b n) : ALen (aCons a b) (n + 1) := fun ρ t ds t' e => by
  unfold aCons at e
  cases e1 : a ρ t with
  | ok d t1 =>
    rw [e1, Res.bind_ok] at e
    cases e2 : b ρ t1 with
    | ok es t2 =>
      rw [e2, Res.bind_ok] at e
      cases e
      show es.length + 1 = n + 1
      rw [h _ _ _ _ e2]
    | ex n fs t2 => rw [e2] at e; cases e
    | bad => rw [e2] at e; cases e
  | ex n fs t1 => rw [e1] at e; cases e
  | bad => rw [e1] at e; cases e
def eCall (m : List D → Unit → Res Unit D) (df : List D) (a : ME τ (List D)) : ME τ D := fun ρ t => (a ρ t).bind fun ds t => match m (ds ++ df) () with
  | .ok d _ => .ok d t
  | .ex n fs _ => .ex n fs t
  | .bad => .bad
def SC.pure (F : Fp) (H1 : Hp) (dm : Dom F H1) : SC Unit where
  F := F
  Iv := fun _ G H' => Stp F H1 G H' ∧ ∀ b o, F b → H1 b = some o → H' b = some o
  dom := fun _ G H' b h hb => by
    cases e : H1 b with
    | none => exact absurd e (dm b hb)
    | some o => rw [h.2 b o hb e]; intro z; cases z
  step := fun _ G H G' H' h1 h2 s => ⟨h1.1.trans s, fun b o hb e => h2 b o hb (h1.2 b o hb e)⟩
theorem SC.pure_same {F : Fp} {H1 : Hp} {dm : Dom F H1} {G : Fp} {H' : Hp} (h : (SC.pure F H1 dm).Iv () G H') : Same H1 H' := fun b o e => by
  by_cases q : F b
  · exact h.2 b o q e
  · exact h.1.keep b o q e
theorem call_red {np j : Nat} {K : Fg} {m : List D → Unit → Res Unit D} {df : List D} {dvs : List V} {a : ME τ (List D)} {σ : St} {H : Hp} {Q : VK} (hd : ∀ F H, Reps K F H dvs df) (hn : ALen a j) (hj : j + df.length = np) (p : tE K W (eCall m df a) σ H Q) :
    tCallSD (spF np K m) dvs (WE W) (tA K W a) σ H Q := by
  obtain ⟨C, ρ, t, A, p⟩ := p
  refine use okE A p fun ds t1 vs H1 e1 s1 A1 r1 p1 => ?_
  refine ⟨SC.pure (Fo C.F ρ σ) H1 A1.dom, ds ++ df, (), trivial, ⟨Stp.refl _ _, fun _ _ _ e => e⟩, Reps.append r1 (hd _ _), by rw [List.length_append, hn _ _ _ _ e1, hj], ?_⟩
  cases e : m (ds ++ df) () with
  | ok d u =>
    rw [e] at p1
    exact fun v H' s i r => p1 v H' (Sm.of_same (SC.pure_same i)) (C.stay A1.st (SC.pure_same i)) r
  | ex n fs u =>
    rw [e] at p1
    exact fun cls dd H' s i x => p1 cls dd H' (Sm.of_same (SC.pure_same i)) (C.stay A1.st (SC.pure_same i)) x
  | bad =>
    rw [e] at p1
    exact p1.elim
theorem me_call {k np j : Nat} {x : Str} {df : List D} {m : List D → Unit → Res Unit D} {e : Expr} {es : List Expr} {p pos : Pos} {a : ME τ (List D)} (Df : Def X.prog X.w X.K X.mg X.base k x np df m) (hr : Room k X.A) (tk : Takes X W) (hg : Gl X x) (hn : ALen a j)
    (ha : PA X (e :: es) (tA X.K W a)) (hdb : (x == ("__debug__" : Str)) = false := by decide) (hj : j + df.length = np := by rfl) (he : starEach (e :: es) X.env = (false, eval e X.env) :: starEach es X.env := by rfl) (hpl : (backTo pos (starEach es X.env)).any (·.1) = false := by rfl) :
    PE X (.Call (.Name x p) (e :: es) [] pos) (tE X.K W (eCall m df a)) := by
  obtain ⟨fd, ps, ds, dvs, F, hm, hk, hb, hd, hdf⟩ := Df.ex
  exact PE.imp (pe_callSD F hr hg hm hk hb hd (fun σ => passAt tk σ) ha hdb he hpl) fun _ _ _ p => call_red hdf hn hj p
def eCallS (m : List D → τ → Res τ D) (df : List D) (a : ME τ (List D)) : ME τ D := fun ρ t => (a ρ t).bind fun ds t => m (ds ++ df) t
theorem SC.ov_sm {C : SC τ} {F : Fp} {H1 : Hp} {hF : ∀ b, C.F b → F b} {dm : Dom F H1} {t : τ} {G : Fp} {H' : Hp} (h : (SC.ov C F H1 hF dm).Iv t G H') : Sm C.F H1 H' := fun b o n e => by
  by_cases q : F b
  · exact h.2.2 b o q n e
  · exact h.2.1.keep b o q e
theorem callS_red {np j : Nat} {K : Fg} {m : List D → τ → Res τ D} {df : List D} {dvs : List V} {a : ME τ (List D)} {σ : St} {H : Hp} {Q : VK} (hd : ∀ F H, Reps K F H dvs df) (hn : ALen a j) (hj : j + df.length = np) (p : tE K W (eCallS m df a) σ H Q) :
    tCallSD (spF np K m) dvs (WE W) (tA K W a) σ H Q := by
  obtain ⟨C, ρ, t, A, p⟩ := p
  refine use okE A p fun ds t1 vs H1 e1 s1 A1 r1 p1 => ?_
  refine ⟨SC.ov C (Fo C.F ρ σ) H1 (fun _ => Fo.base) A1.dom, ds ++ df, t1, Sto.ov _ _ _ _ _ _ A1.okC, ⟨A1.st, Stp.refl _ _, fun _ _ _ _ e => e⟩, Reps.append r1 (hd _ _), by rw [List.length_append, hn _ _ _ _ e1, hj], ?_⟩
  cases e : m (ds ++ df) t1 with
  | ok d u =>
    rw [e] at p1
    exact fun v H' s i r => p1 v H' (SC.ov_sm i) i.1 r
  | ex n fs u =>
    rw [e] at p1
    exact fun cls dd H' s i x => p1 cls dd H' (SC.ov_sm i) i.1 x
  | bad =>
    rw [e] at p1
    exact p1.elim
theorem me_callS {k np j : Nat} {x : Str} {df : List D} {m : List D → τ → Res τ D} {e : Expr} {es : List Expr} {p pos : Pos} {a : ME τ (List D)} (Df : Def X.prog X.w X.K X.mg X.base k x np df m) (hr : Room k X.A) (tk : Takes X W) (hg : Gl X x) (hn : ALen a j)
    (ha : PA X (e :: es) (tA X.K W a)) (hdb : (x == ("__debug__" : Str)) = false := by decide) (hj : j + df.length = np := by rfl) (he : starEach (e :: es) X.env = (false, eval e X.env) :: starEach es X.env := by rfl) (hpl : (backTo pos (starEach es X.env)).any (·.1) = false := by rfl) :
    PE X (.Call (.Name x p) (e :: es) [] pos) (tE X.K W (eCallS m df a)) := by
  obtain ⟨fd, ps, ds, dvs, F, hm, hk, hb, hd, hdf⟩ := Df.ex
  exact PE.imp (pe_callSD F hr hg hm hk hb hd (fun σ => passAt tk σ) ha hdb he hpl) fun _ _ _ p => callS_red hdf hn hj p

end
end
end MM

namespace MM
open PySem PySem.Spec PyProof.Rows L2
section
variable {X : Cx} {K : Fg}
theorem DOp2.int0 {g : Int → Int → V} {f : Int → Int → D} (h : ∀ i j F H, Rep K F H (g i j) (f i j)) : DOp2 K (rI0 g) (fun d e => match d, e with
    | .int i, .int j => some (f i j)
    | _, _ => none) := fun F0 F H x y d e z Q dm rx ry q k => by
  dsimp only at q
  split at q
  · cases q
    exact ⟨_, _, rx.intOf, ry.intOf, k _ _ (Same.refl H) (h _ _ _ _)⟩
  · cases q
theorem DOp2.intC {g : Int → Int → V} {f : Int → Int → D} {C : Int → Int → Prop} {c : Int → Int → Bool} (hc : ∀ i j, c i j = true → C i j) (h : ∀ i j F H, c i j = true → Rep K F H (g i j) (f i j)) : DOp2 K (rI C g) (fun d e => match d, e with
    | .int i, .int j => if c i j = true then some (f i j) else none
    | _, _ => none) := fun F0 F H x y d e z Q dm rx ry q k => by
  dsimp only at q
  split at q
  · split at q
    · rename_i hcc
      cases q
      exact ⟨_, _, rx.intOf, ry.intOf, hc _ _ hcc, k _ _ (Same.refl H) (h _ _ _ _ hcc)⟩
    · cases q
  · cases q
def mulOk (i j : Int) : Bool := decide (i.natAbs.log2 + j.natAbs.log2 < 1000000)
def divOk (_ j : Int) : Bool := decide (j ≠ 0 ∧ j.natAbs.log2 < 9000)
def modOk (_ j : Int) : Bool := decide (j ≠ 0)
def powOk (i j : Int) : Bool := decide (0 ≤ j ∧ j ≤ 1000000 ∧ i.natAbs < 2 ^ 64)
def dSub : D → D → Option D := fun d e => match d, e with
  | .int i, .int j => some (.int (i - j))
  | _, _ => none
def dMulI : D → D → Option D := fun d e => match d, e with
  | .int i, .int j => if mulOk i j = true then some (.int (i * j)) else none
  | _, _ => none
def dDiv : D → D → Option D := fun d e => match d, e with
  | .int i, .int j => if divOk i j = true then some (.int (i.fdiv j)) else none
  | _, _ => none
def dMod : D → D → Option D := fun d e => match d, e with
  | .int i, .int j => if modOk i j = true then some (.int (i.fmod j)) else none
  | _, _ => none
def dPow : D → D → Option D := fun d e => match d, e with
  | .int i, .int j => if powOk i j = true then some (.int (i ^ j.toNat)) else none
  | _, _ => none
theorem o_sub : DOp2 K (rI0 fun i j => .int (i - j)) dSub := DOp2.int0 fun _ _ _ _ => .int _
theorem o_mul : DOp2 K (rI CMulW fun i j => .int (i * j)) dMulI := DOp2.intC (fun i j h => (of_decide_eq_true h : i.natAbs.log2 + j.natAbs.log2 < 1000000)) fun _ _ _ _ _ => .int _
def CDivB (_ j : Int) : Prop := j ≠ 0 ∧ j.natAbs.log2 < 9000
theorem op_fdivB : OpR X (binaryOp .FloorDiv) (rI CDivB fun i j => .int (i.fdiv j)) := opI fun i j _ _ _ _ _ hc q => floordiv_int hc.1 q (.inl (PyProof.noPylong_of_log2 hc.2))
theorem o_div : DOp2 K (rI CDivB fun i j => .int (i.fdiv j)) dDiv := DOp2.intC (fun i j h => (of_decide_eq_true h : j ≠ 0 ∧ j.natAbs.log2 < 9000)) fun _ _ _ _ _ => .int _
theorem o_mod : DOp2 K (rI (fun _ j => j ≠ 0) fun i j => .int (i.fmod j)) dMod := DOp2.intC (fun i j h => of_decide_eq_true h) fun _ _ _ _ _ => .int _
theorem o_pow : DOp2 K (rI CPow fun i j => .int (i ^ j.toNat)) dPow := DOp2.intC (fun i j h => (of_decide_eq_true h : 0 ≤ j ∧ j ≤ 1000000 ∧ i.natAbs < 2 ^ 64)) fun _ _ _ _ _ => .int _
def dLt : D → D → Option D := fun d e => match d, e with
  | .int i, .int j => some (.bl (decide (i < j)))
  | _, _ => none
def dGt : D → D → Option D := fun d e => match d, e with
  | .int i, .int j => some (.bl (decide (j < i)))
  | _, _ => none
def dGe : D → D → Option D := fun d e => match d, e with
  | .int i, .int j => some (.bl (decide (j ≤ i)))
  | _, _ => none
theorem o_lt : DOp2 K (rI0 fun i j => .bl (decide (i < j))) dLt := DOp2.int0 fun _ _ _ _ => .bl _
theorem o_gt : DOp2 K (rI0 fun i j => .bl (decide (j < i))) dGt := DOp2.int0 fun _ _ _ _ => .bl _
theorem o_ge : DOp2 K (rI0 fun i j => .bl (decide (j ≤ i))) dGe := DOp2.int0 fun _ _ _ _ => .bl _
def lim2 (n : Nat) : Bool := decide (n ≤ 16777216)
def dAdd : D → D → Option D := fun d e => match d, e with
  | .int i, .int j => some (.int (i + j))
  | .str x, .str y => if lim2 (x.length + y.length) = true then some (.str (x ++ y)) else none
  | .lst xs, .lst ys => if lim2 (xs.length + ys.length) = true then some (.lst (xs ++ ys)) else none
  | .tup xs, .tup ys => if lim2 (xs.length + ys.length) = true then some (.tup (xs ++ ys)) else none
  | _, _ => none
theorem lim2_le {n : Nat} (h : lim2 n = true) : n ≤ sizeLine := of_decide_eq_true h
theorem Inv.lstR {pins : List (Addr × Obj)} {σ : L2.St} {H : Hp} {s : Shared} {l : Addr} {xs : List V} (I : Inv X pins σ H s) (hH : LsR X.K H l xs) : xs.length ≤ sizeLine ∧ ∃ (its : List Value) (n : Nat), Vals xs its ∧ xs.length = its.length ∧ s.heap.get? l = some { cls := .type "list", data := .seq its.toArray n } := by
  obtain ⟨z, its, n, r, e⟩ := hH.ok I.hok
  exact ⟨z, its, n, r, r.length, e⟩
def rCatL (K : Fg) : R2 := fun x y H Q => ∃ l b xs zs, x = .ref l ∧ y = .ref b ∧ LsR K H l xs ∧ LsR K H b zs ∧ xs.length + zs.length ≤ sizeLine ∧ ∀ p, H p = none → Q (.ref p) (upd H p (.lst (xs ++ zs)))
theorem op_catL : OpR X (binaryOp .Add) (rCatL X.K) := by
  intro pins s σ H x y v u Q I rx ry h
  obtain ⟨l, b, xs, zs, rfl, rfl, hH, hB, hz, q⟩ := h
  cases rx
  cases ry
  obtain ⟨z, its, n, r, hl, e⟩ := Inv.lstR I hH
  obtain ⟨z2, its2, n2, r2, hl2, e2⟩ := Inv.lstR I hB
  refine PySem.P.add_list e e2 ?_ (by rw [List.size_toArray, List.size_toArray]; omega)
  have ea : its.toArray ++ its2.toArray = (its ++ its2).toArray := by simp
  rw [ea]
  exact ⟨.ref _, _, I.lnew (t' := s.toks) (r.append r2) (by rw [List.length_append]; omega), rfl, q _ I.fresh⟩
def rAdd4 (K : Fg) : R2 := fun x y H Q => rI0 (fun i j => V.int (i + j)) x y H Q ∨ (fun x y H Q => (∃ i j, x = .str i ∧ y = .str j ∧ i.length + j.length ≤ sizeLine ∧ Q (.str (i ++ j)) H) ∨ (fun x y H Q => rCatL K x y H Q ∨ rCatA K x y H Q) x y H Q) x y H Q
theorem op_add4 : OpR X (binaryOp .Add) (rAdd4 X.K) := op_add.or (op_add_str.or (op_catL.or op_catA))
theorem o_add : DOp2 K (rAdd4 K) dAdd := fun F0 F H x y d e z Q dm rx ry q k => by
  unfold dAdd at q
  split at q
  · cases q
    exact .inl ⟨_, _, rx.intOf, ry.intOf, k _ _ (Same.refl H) (.int _)⟩
  · split at q
    · rename_i hl
      cases q
      exact .inr (.inl ⟨_, _, rx.strOf, ry.strOf, lim2_le hl, k _ _ (Same.refl H) (.str _)⟩)
    · cases q
  · split at q
    · rename_i hl
      cases q
      obtain ⟨a, vs, rfl, h1, r1⟩ := rx.lstOf
      obtain ⟨b, ws, rfl, h2, r2⟩ := ry.lstOf
      exact .inr (.inr (.inl ⟨a, b, vs, ws, rfl, rfl, h1, h2, by rw [r1.length, r2.length]; exact lim2_le hl, fun p np => k _ _ (same_upd np) (Rep.newLst (r1.append r2) dm np)⟩))
    · cases q
  · split at q
    · rename_i hl
      cases q
      obtain ⟨a, vs, rfl, h1, r1⟩ := rx.tupOf
      obtain ⟨b, ws, rfl, h2, r2⟩ := ry.tupOf
      refine .inr (.inr (.inr ⟨a, b, vs, ws, rfl, rfl, h1.sq, h2.sq, by rw [r1.length, r2.length]; exact lim2_le hl, fun e => ?_, fun _ e => ?_, fun _ _ p np => k _ _ (same_upd np) (Rep.newTup (r1.append r2) dm np)⟩))
      · subst e
        cases r1
        exact k _ _ (Same.refl H) (.tup h2 r2)
      · subst e
        cases r2
        rw [List.append_nil] at k
        exact k _ _ (Same.refl H) (.tup h1 r1)
    · cases q
  · cases q
def dIx : D → D → Option D := fun d e => match d, e with
  | .lst ds, .int i => atI ds i
  | .tup ds, .int i => atI ds i
  | .scr ns, .int i => (atI ns i).map .int
  | .str z, .int i => if lim2 z.length = true then (atI z.cps.toList i).map fun c => .str ⟨#[c]⟩ else none
  | _, _ => none
theorem Reps.atI {F : Fp} {H : Hp} {vs : List V} {ds : List D} {i : Int} {d : D} (r : Reps K F H vs ds) (h : L2.atI ds i = some d) : ∃ v, L2.atI vs i = some v ∧ Rep K F H v d := by
  unfold L2.atI at h ⊢
  rw [r.length]
  cases e : ixN ds.length i with
  | none => rw [e] at h; cases h
  | some j =>
    rw [e] at h
    exact r.get h
theorem o_ix : DOp2 K (rIx K) dIx := fun F0 F H x y d e z Q dm rx ry q k => by
  unfold dIx at q
  split at q
  · obtain ⟨a, vs, rfl, h1, r1⟩ := rx.lstOf
    obtain ⟨v, h2, r2⟩ := r1.atI q
    exact .inl ⟨a, vs, _, v, rfl, ry.intOf, h1.sq, h2, k _ _ (Same.refl H) r2⟩
  · obtain ⟨a, vs, rfl, h1, r1⟩ := rx.tupOf
    obtain ⟨v, h2, r2⟩ := r1.atI q
    exact .inr (.inl ⟨a, vs, _, v, rfl, ry.intOf, h1.sq, h2, k _ _ (Same.refl H) r2⟩)
  · obtain ⟨a, rfl, h1⟩ := rx.scrOf
    rename_i ns i
    cases e : L2.atI ns i with
    | none => rw [e] at q; cases q
    | some n =>
      rw [e] at q
      cases q
      refine .inl ⟨a, _, _, .int n, rfl, ry.intOf, h1.sq, ?_, k _ _ (Same.refl H) (.int n)⟩
      unfold L2.atI at e ⊢
      rw [List.length_map]
      cases e2 : ixN ns.length i with
      | none => rw [e2] at e; cases e
      | some j =>
        rw [e2] at e
        have e' : ns[j]? = some n := e
        show (ns.map V.int)[j]? = some (V.int n)
        rw [List.getElem?_map, e']
        rfl
  · split at q
    · rename_i zs i hl
      cases e : atI zs.cps.toList i with
      | none => rw [e] at q; cases q
      | some c =>
        rw [e] at q
        cases q
        exact .inr (.inr ⟨_, _, c, rx.strOf, ry.intOf, lim2_le hl, e, k _ _ (Same.refl H) (.str _)⟩)
    · cases q
  · cases q
mutual
def py : D → Option PyData
  | .non => some .none
  | .bl b => some (.bool b)
  | .int i => some (.int i)
  | .str x => some (.str x)
  | .tup ds => (pys ds).map .tuple
  | .lst ds => (pys ds).map .list
  | _ => none
def pys : List D → Option (List PyData)
  | [] => some []
  | d :: ds => (py d).bind fun p => (pys ds).map (p :: ·)
end
mutual
theorem dp_of {F0 F : Fp} {H : Hp} : ∀ {d : D} {v : V} {p : PyData}, Rep K F H v d → py d = some p → Dp K H v p
  | .non, _, _, .non, e => by unfold py at e; cases e; exact .non
  | .bl b, _, _, .bl _, e => by unfold py at e; cases e; exact .bl b
  | .int b, _, _, .int _, e => by unfold py at e; cases e; exact .int b
  | .str b, _, _, .str _, e => by unfold py at e; cases e; exact .str b
  | .tup ds, _, _, .tup h r, e => by
    unfold py at e
    cases q : pys ds with
    | none => rw [q] at e; cases e
    | some ps => rw [q] at e; cases e; exact .tup h.sq (dps_of (F0 := F0) r q)
  | .lst ds, _, _, .lst h r, e => by
    unfold py at e
    cases q : pys ds with
    | none => rw [q] at e; cases e
    | some ps => rw [q] at e; cases e; exact .lst h.sq (dps_of (F0 := F0) r q)
theorem dps_of {F0 F : Fp} {H : Hp} : ∀ {ds : List D} {vs : List V} {ps : List PyData}, Reps K F H vs ds → pys ds = some ps → DpAll K H vs ps
  | [], _, _, .nil, e => by unfold pys at e; cases e; exact .nil
  | d :: ds, _, _, .cons r t, e => by
    unfold pys at e
    cases q : py d with
    | none => rw [q] at e; cases e
    | some p =>
      rw [q] at e
      cases q2 : pys ds with
      | none =>
        have e' : (pys ds).map (p :: ·) = some _ := e
        rw [q2] at e'
        cases e'
      | some ps =>
        have e' : (pys ds).map (p :: ·) = some _ := e
        rw [q2] at e'
        cases e'
        exact .cons (dp_of (F0 := F0) r q) (dps_of (F0 := F0) t q2)
end
theorem RepW.dp {F0 F : Fp} {H : Hp} {d : D} {v : V} {p : PyData} (r : RepW K F0 F H v d) (e : py d = some p) : Dp K H v p := by
  cases r with
  | of r => exact dp_of (F0 := F0) r e
  | dct n h r => unfold py at e; cases e
  | lst h r =>
    unfold py at e
    rename_i a vs ds
    cases q : pys ds with
    | none => rw [q] at e; cases e
    | some ps => rw [q] at e; cases e; exact .lst h.sq (dps_of (F0 := F0) r q)
def eqD (d e : D) : Option Bool := match py d, py e with
  | some p, some q => if SeqAt.shaped p = true ∧ SeqAt.shaped q = true then some (PyData.eqv p q) else none
  | _, _ => none
def dEq : D → D → Option D := fun d e => (eqD d e).map .bl
theorem eqD_of {d e : D} {b : Bool} (h : eqD d e = some b) : ∃ p q, py d = some p ∧ py e = some q ∧ SeqAt.shaped p = true ∧ SeqAt.shaped q = true ∧ b = PyData.eqv p q := by
  unfold eqD at h
  split at h
  · rename_i p q h1 h2
    split at h
    · rename_i hs
      cases h
      exact ⟨p, q, h1, h2, hs.1, hs.2, rfl⟩
    · cases h
  · cases h
theorem o_eq : DOp2 K (rEqD K) dEq := fun F0 F H x y d e z Q dm rx ry q k => by
  unfold dEq at q
  cases h : eqD d e with
  | none => rw [h] at q; cases q
  | some b =>
    rw [h] at q
    cases q
    obtain ⟨p, p2, h1, h2, h3, h4, rfl⟩ := eqD_of h
    exact ⟨p, p2, rx.dp h1, ry.dp h2, h3, h4, k _ _ (Same.refl H) (.bl _)⟩
def isN : D → Bool
  | .non => true
  | _ => false
theorem RepW.isN {F0 F : Fp} {H : Hp} {d : D} {v : V} (r : RepW K F0 F H v d) : decide (v = .non) = MM.isN d := by
  cases r with
  | of r => cases r <;> rfl
  | lst h r => rfl
  | dct n h r => rfl
def dIs : D → D → Option D := fun d e => match e with
  | .non => some (.bl (isN d))
  | _ => none
def dIsnt : D → D → Option D := fun d e => match e with
  | .non => some (.bl (!isN d))
  | _ => none
theorem o_is : DOp2 K (fun x y H Q => y = .non ∧ Q (.bl (decide (x = .non))) H) dIs := fun F0 F H x y d e z Q dm rx ry q k => by
  unfold dIs at q
  split at q
  · cases q
    exact ⟨ry.nonOf, by rw [rx.isN]; exact k _ _ (Same.refl H) (.bl _)⟩
  · cases q
theorem o_isnt : DOp2 K (fun x y H Q => y = .non ∧ Q (.bl (!decide (x = .non))) H) dIsnt := fun F0 F H x y d e z Q dm rx ry q k => by
  unfold dIsnt at q
  split at q
  · cases q
    exact ⟨ry.nonOf, by rw [rx.isN]; exact k _ _ (Same.refl H) (.bl _)⟩
  · cases q
def dNeg : D → Option D
  | .int i => some (.int (-i))
  | _ => none
theorem o_neg : DOp1 K (rU fun i => .int (-i)) dNeg := fun F0 F H x d z Q dm rx q k => by
  unfold dNeg at q
  split at q
  · cases q
    exact ⟨_, rx.intOf, k _ _ (Same.refl H) (.int _)⟩
  · cases q
def fAbs : List D → Option D
  | [.int i] => some (.int (if i < 0 then -i else i))
  | _ => none
theorem c_abs : DCall K (fun xs H Q => ∃ i, xs = [.int i] ∧ Q (.int (if i < 0 then -i else i)) H) fAbs := fun F0 F H xs ds z Q dm r q k => by
  unfold fAbs at q
  split at q
  · cases q
    obtain ⟨v, rfl, r1⟩ := r.one
    exact ⟨_, by rw [r1.intOf], k _ _ (Same.refl H) (.int _)⟩
  · cases q
def fLen : List D → Option D
  | [.lst xs] => some (.int (xs.length : Nat))
  | [.tup xs] => some (.int (xs.length : Nat))
  | [.scr xs] => some (.int (xs.length : Nat))
  | [.str x] => if lim2 x.length = true then some (.int (x.length : Nat)) else none
  | _ => none
def rLen3 (K : Fg) : List V → Hp → VK → Prop := fun xs H Q => (∃ p ys, xs = [.ref p] ∧ (SqL K H p ys ∨ SqT K H p ys) ∧ Q (.int ys.length) H) ∨ ∃ z, xs = [.str z] ∧ z.length ≤ sizeLine ∧ Q (.int z.length) H
theorem call_len3 : CallR X (.builtin "len") (rLen3 X.K) := call_len_seq.or call_len_str
theorem c_len : DCall K (rLen3 K) fLen := fun F0 F H xs ds z Q dm r q k => by
  unfold fLen at q
  split at q
  · cases q
    obtain ⟨v, rfl, r0⟩ := r.one
    obtain ⟨a, vs, rfl, h1, r1⟩ := r0.lstOf
    exact .inl ⟨a, vs, rfl, .inl h1.sq, k _ _ (Same.refl H) (by rw [r1.length]; exact .int _)⟩
  · cases q
    obtain ⟨v, rfl, r0⟩ := r.one
    obtain ⟨a, vs, rfl, h1, r1⟩ := r0.tupOf
    exact .inl ⟨a, vs, rfl, .inr h1.sq, k _ _ (Same.refl H) (by rw [r1.length]; exact .int _)⟩
  · cases q
    obtain ⟨v, rfl, r0⟩ := r.one
    obtain ⟨a, rfl, h1⟩ := r0.scrOf
    exact .inl ⟨a, _, rfl, .inl h1.sq, k _ _ (Same.refl H) (by rw [List.length_map]; exact .int _)⟩
  · split at q
    · rename_i hl
      cases q
      obtain ⟨v, rfl, r1⟩ := r.one
      exact .inr ⟨_, by rw [r1.strOf], lim2_le hl, k _ _ (Same.refl H) (.int _)⟩
    · cases q
  · cases q
def keyOf : D → Option Key
  | .int i => some (.inl i)
  | .str x => some (.inr x)
  | _ => none
theorem keyOf_keyD (k : Key) : keyOf (keyD k) = some k := by cases k <;> rfl
theorem all_keyD (kvs : List (Key × V)) : ((kvs.map fun p => keyD p.1).all fun k => (keyOf k).isSome) = true := by
  rw [List.all_map, List.all_eq_true]
  intro p _
  show (keyOf (keyD p.1)).isSome = true
  rw [keyOf_keyD]; rfl
theorem not_all_tup {es : List EX} (h : es ≠ []) : ((es.map fun p => D.tup (p.1.map D.int)).all fun k => (keyOf k).isSome) ≠ true := by
  cases es with
  | nil => exact absurd rfl h
  | cons p es => simp [keyOf]
def tyN : D → Option String
  | .non => some "NoneType"
  | .bl _ => some "bool"
  | .int _ => some "int"
  | .str _ => some "str"
  | .tup _ => some "tuple"
  | .lst _ => some "list"
  | .dct ks _ => if (ks.all fun k => (keyOf k).isSome) = true then some "dict" else none
  | _ => none
theorem tyX_of {F0 F : Fp} {H : Hp} {v : V} {d : D} {n : String} (r : RepW K F0 F H v d) (h : tyN d = some n) : TyX K H v (.type n) := by
  have lst : ∀ {a : Addr} {vs : List V}, LsR K H a vs → TyX K H (.ref a) (.type "list") := fun {a vs} h => by
    rcases h with h | ⟨o, h⟩
    · exact .base (.lst h)
    · exact .base (.frz h)
  cases r with
  | lst q r => unfold tyN at h; cases h; exact lst q.ls
  | dct n q r =>
    unfold tyN at h
    cases r with
    | k r => dsimp only at h; rw [if_pos (all_keyD _)] at h; cases h; exact .base (.dK q)
    | x ne ox kt r => dsimp only at h; rw [if_neg (not_all_tup ne)] at h; cases h
  | of r =>
    cases r with
    | non => cases h; exact .base .non
    | bl => cases h; exact .base (.bl _)
    | int => cases h; exact .base (.int _)
    | str => cases h; exact .base (.str _)
    | tup q r =>
      cases h
      rcases q with ⟨_, q | ⟨o, q⟩⟩ | ⟨o, its, n, q, q2, _⟩
      · exact .base (.tup q)
      · exact .fTuple q
      · exact .kTuple q q2
    | lst q r => cases h; exact lst q.ls
    | dK n q r => unfold tyN at h; dsimp only at h; rw [if_pos (all_keyD _)] at h; cases h; exact .base (.dK q)
    | dX n ne q ox kt r => unfold tyN at h; dsimp only at h; rw [if_neg (not_all_tup ne)] at h; cases h
    | _ => cases h
def kitN (a b : String) : Option Bool :=
  if (["NoneType", "bool", "int", "str", "tuple", "list", "dict"].contains a && ["int", "bool", "tuple", "list", "str", "dict"].contains b) = true then some (a == b || (a == "bool" && b == "int")) else none
theorem kitN_ok {a b : String} {r : Bool} (h : kitN a b = some r) : kitB a b = some r := by
  unfold kitN at h
  split at h
  · rename_i hc
    have e : (a == b || (a == "bool" && b == "int")) = r := Option.some.inj h
    subst e
    rw [Bool.and_eq_true, List.contains_iff_mem, List.contains_iff_mem] at hc
    obtain ⟨h1, h2⟩ := hc
    simp only [List.mem_cons, List.not_mem_nil, or_false] at h1 h2
    rcases h1 with rfl | rfl | rfl | rfl | rfl | rfl | rfl <;> rcases h2 with rfl | rfl | rfl | rfl | rfl | rfl <;> decide +kernel
  · cases h
def isi (d : D) (n : String) : Option Bool := (tyN d).bind fun a => kitN a n
def fIsi : List D → Option D
  | [d, .ty n] => (isi d n).map .bl
  | _ => none
theorem isi_of {F0 F : Fp} {H : Hp} {v : V} {d : D} {n : String} {b : Bool} (r : RepW K F0 F H v d) (h : isi d n = some b) : ∃ t, TyX K H v t ∧ PySem.W.kitOne K t (.type n) = some b := by
  unfold isi at h
  cases e : tyN d with
  | none => rw [e] at h; cases h
  | some a =>
    rw [e] at h
    exact ⟨_, tyX_of r e, kit_ty (kitN_ok h)⟩
theorem c_isi : DCall K (rIsi K) fIsi := fun F0 F H xs ds z Q dm r q k => by
  unfold fIsi at q
  split at q
  · rename_i d n
    obtain ⟨v, w, rfl, r1, r2⟩ := r.two
    cases e : isi d n with
    | none => rw [e] at q; cases q
    | some b =>
      rw [e] at q
      cases q
      obtain ⟨t, h1, h2⟩ := isi_of r1 e
      cases r2 with
      | of r2 =>
        cases r2
        exact ⟨v, _, t, _, b, rfl, .ty n, h1, h2, k _ _ (Same.refl H) (.bl _)⟩
  · cases q
def strOf (i : Int) : Str := toString i
def fStrI : List D → Option D
  | [.int i] => if decide (i.natAbs.log2 < 1920) = true then some (.str (strOf i)) else none
  | _ => none
theorem c_strI : DCall K (fun xs H Q => ∃ i, xs = [.int i] ∧ i.natAbs.log2 < 1920 ∧ Q (.str (toString i)) H) fStrI := fun F0 F H xs ds z Q dm r q k => by
  unfold fStrI at q
  split at q
  · split at q
    · rename_i hl
      cases q
      obtain ⟨v, rfl, r1⟩ := r.one
      exact ⟨_, by rw [r1.intOf], of_decide_eq_true hl, k _ _ (Same.refl H) (.str _)⟩
    · cases q
  · cases q
def cutD (xs : List D) (lo hi : Option Int) : List D := (xs.drop (HT.sIx xs.length 0 lo)).take (HT.sIx xs.length xs.length hi - HT.sIx xs.length 0 lo)
theorem Reps.cut {F : Fp} {H : Hp} {vs : List V} {ds : List D} (r : Reps K F H vs ds) (lo hi : Option Int) : Reps K F H (cutV vs lo hi) (cutD ds lo hi) := by
  unfold cutV cutD
  rw [r.length]
  exact (r.drop _).take _
end
end MM

namespace MM
open PySem PySem.Spec PyProof.Rows L2
section
variable {X : Cx} {W : WX} {τ : Type} [Sto τ] {K : Fg}
def truth : D → Option Bool
  | .non => some false
  | .bl b => some b
  | .int i => some (i != 0)
  | .str x => if lim2 x.length = true then some ((x.length : Int) != 0) else none
  | .lst xs => some (!xs.isEmpty)
  | .tup xs => some (!xs.isEmpty)
  | _ => none
theorem Reps.isEmpty {F : Fp} {H : Hp} {vs : List V} {ds : List D} (r : Reps K F H vs ds) : vs.isEmpty = ds.isEmpty := by cases r <;> rfl
theorem RepW.truV {F0 F : Fp} {H : Hp} {v : V} {d : D} {b : Bool} (r : RepW K F0 F H v d) (h : truth d = some b) : TruV K v H b := by
  cases d <;> first
    | (cases h; done)
    | skip
  · cases h; rw [r.nonOf]; exact rfl
  · cases h; rw [r.blOf]; exact rfl
  · cases h; rw [r.intOf]; exact rfl
  · rw [r.strOf]
    rename_i z
    have h' : (if lim2 z.length = true then some ((z.length : Int) != 0) else none) = some b := h
    split at h'
    · rename_i hl
      cases h'
      exact ⟨lim2_le hl, rfl⟩
    · cases h'
  · cases h
    obtain ⟨a, vs, rfl, q, rs⟩ := r.tupOf
    exact .inr (.inl ⟨vs, q.sq, by rw [rs.isEmpty]⟩)
  · cases h
    obtain ⟨a, vs, rfl, q, rs⟩ := r.lstOf
    exact .inl ⟨vs, q.sq, by rw [rs.isEmpty]⟩
theorem mt_truth {e : Expr} {m : ME τ D} (h : PE X e (tW X.K W m)) (he : ∀ whole, isTrue e X.env whole = (do let v ← whole; standAt e.pos; holding [v] (truthy v)) := by intro _; rfl) : PT X e (tT X.K W (e1 truth m)) :=
  PT.imp (pt_truth h he) fun σ H Q ⟨C, ρ, t, A, p⟩ => by
    refine use okB A p fun d t1 v H1 e1 s1 A1 r1 p1 => ?_
    cases e : truth d with
    | none => rw [e] at p1; exact p1.elim
    | some b =>
      rw [e] at p1
      exact ⟨b, RepW.truV r1 e, p1 _ H1 (Sm.refl _ _) A1.st rfl⟩
def oNone : ME τ (Option Int) := fun _ t => .ok none t
def oSome (m : ME τ D) : ME τ (Option Int) := e1 (fun d => match d with
  | .int i => some (some i)
  | _ => none) m
def rO : Rel (Option Int) (Option Int) := fun _ _ _ _ _ _ v d => v = d
theorem okO : RelOk rO := ⟨fun _ _ _ _ _ _ _ _ _ _ h => h⟩
abbrev tO (K : Fg) (W : WX) (m : ME τ (Option Int)) : TO := tG rO K W m
theorem mo_none : PO X none (tO X.K W (oNone (τ := τ))) := ⟨fun pins s σ H Q I ⟨C, ρ, t, A, p⟩ => po_none.run pins s σ H Q I (p none H (Sm.refl _ _) A.st rfl)⟩
theorem mo_some {e : Expr} {m : ME τ D} (h : PE X e (tE X.K W m)) : PO X (some e) (tO X.K W (oSome m)) := ⟨fun pins s σ H Q I ⟨C, ρ, t, A, p⟩ => (po_some h).run pins s σ H Q I (by
  refine use okO A p fun d t1 v H1 e1 s1 A1 r1 p1 => ?_
  cases d <;> first
    | exact p1.elim
    | (cases r1; exact ⟨_, rfl, p1 _ H1 (Sm.refl _ _) A1.st rfl⟩))⟩
def e3 {α β γ δ : Type} (f : α → β → γ → Option δ) (a : ME τ α) (b : ME τ β) (c : ME τ γ) : ME τ δ := fun ρ t => (a ρ t).bind fun d t => (b ρ t).bind fun e t => (c ρ t).bind fun g t => opt (f d e g) t
theorem new_fin {C : SC τ} {ρ : Rho} {t : τ} {σ : St} {H : Hp} {vs : List V} {ds : List D} {Q : VK} (A : At K C ρ t σ H) (r : Reps K (Fo C.F ρ σ) H vs ds) (p : Post rF K W C (Fo C.F ρ σ) σ H (.ok ds t) Q) : ∀ a, H a = none → Q (.ref a) (upd H a (.lst vs)) := fun a na => by
  have sp : Stp (Fo C.F ρ σ) H (fun b => Fo C.F ρ σ b ∨ b = a) (upd H a (.lst vs)) := ⟨fun b o _ e => same_upd na b o e, fun b h => h.elim .inl fun e => .inr (by rw [e]; exact na)⟩
  exact p _ _ (Sm.of_same (same_upd na)) (C.less (C.stay A.st (same_upd na)) fun _ => id) ⟨a, vs, rfl, fun z => A.dom a z na, na, upd_same, Reps.step sp r, C.step _ _ _ _ _ A.st (fun b o _ e => same_upd na b o e) sp⟩
def fTup : List D → Option D
  | [.lst ds] => some (.tup ds)
  | [.tup ds] => some (.tup ds)
  | _ => none
theorem c_tup : DCall K (fun xs H Q => ∃ p ys, xs = [.ref p] ∧ ((SqL K H p ys ∧ ∀ l, H l = none → Q (.ref l) (upd H l (.tup ys))) ∨ (SqT K H p ys ∧ Q (.ref p) H))) fTup := fun F0 F H xs ds z Q dm r q k => by
  unfold fTup at q
  split at q
  · cases q
    obtain ⟨v, rfl, r0⟩ := r.one
    obtain ⟨a, vs, rfl, h1, r1⟩ := r0.lstOf
    exact ⟨a, vs, rfl, .inl ⟨h1.sq, fun l nl => k _ _ (same_upd nl) (Rep.newTup r1 dm nl)⟩⟩
  · cases q
    obtain ⟨v, rfl, r0⟩ := r.one
    obtain ⟨a, vs, rfl, h1, r1⟩ := r0.tupOf
    exact ⟨a, vs, rfl, .inr ⟨h1.sq, k _ _ (Same.refl H) (.tup h1 r1)⟩⟩
  · cases q
theorem me_type {x : Str} {n : String} {pos : Pos} (hg : Gl X x) (hm : X.mg x = none) (hv : bootBuiltins x = some (.type n)) (hn : x ≠ "__name__" := by decide) (hd : (x == ("__debug__" : Str)) = false := by decide) : PE X (.Name x pos) (tE X.K W (eC (τ := τ) (.ty n))) :=
  me_c (pe_bltn (v := .ty n) hg hm hv rfl hn hd) fun _ _ => .ty n
end
theorem Def.mk' {τ : Type} [Sto τ] {P : Program} {w : World} {K : Fg} {mg : Str → Option Value} {base : Heap} {x qual : Str} {params : Arguments} {body : List Stmt} {scope : Scope} {dvs : List V} {kws : List (Str × V)} {fd : FuncData} {N ps : List Str} {k : Nat} {df : List D}
    (F : FunD K x qual params body scope dvs kws (He.ga K x) fd) (hm : mg x = some (.ref (He.ga K x))) (S : FnScope N ps scope) (mb : MS τ) (hb : ∃ ds dv, Vals dv ds ∧ Binds K fd ps ds ∧ ∀ F H, Reps K F H dv df)
    (hbody : ∀ (cdv : Value) (A : Around) (outer : List Env) (s : Shared) (H : Hp) (E : XK), Room k (A.deeper (envOfC qual scope s.heap.objs.size (He.ga K x) cdv)) →
      PSs (cxOf (L2.CX P w) P w K mg base N qual scope (He.ga K x) cdv A outer s H E) body (tS K (fun cls d _ H => E cls d H) mb)) : Def P w K mg base (k + 1) x ps.length df (runB N.length mb) := by
  obtain ⟨ds, dv, h1, h2, h3⟩ := hb
  exact ⟨fd, ps, ds, dv, fn_mk F S mb hbody, hm, F.kp, h2, h1, h3⟩
theorem Def.mono {τ : Type} [Sto τ] {P : Program} {w : World} {K : Fg} {mg : Str → Option Value} {base : Heap} {j k : Nat} {x : Str} {np : Nat} {df : List D} {m : List D → τ → Res τ D} (F : Def P w K mg base j x np df m) (h : j ≤ k) : Def P w K mg base k x np df m := by
  obtain ⟨fd, ps, ds, dv, F, r⟩ := F.ex
  exact ⟨fd, ps, ds, dv, F.mono h, r⟩
end MM

namespace MM
open PySem PySem.Spec PyProof.Rows L2
section
variable {X : Cx} {W : WX} {τ : Type} [Sto τ] {K : Fg}
end
theorem tk_cx {P : Program} {w : World} {K : Fg} {mg : Str → Option Value} {base : Heap} {N : List Str} {qual : Str} {scope : Scope} {f : Addr} {cd : Value} {A : Around} {outer : List Env} {s : Shared} {H : Hp} {E : XK} :
    Takes (cxOf (L2.CX P w) P w K mg base N qual scope f cd A outer s H E) (fun cls d _ H => E cls d H) := takes_of rfl rfl rfl rfl
theorem po_cx {P : Program} {w : World} {K : Fg} {mg : Str → Option Value} {base : Heap} {N : List Str} {qual : Str} {scope : Scope} {f : Addr} {cd : Value} {A : Around} {outer : List Env} {s : Shared} {H : Hp} {E : XK} :
    PassesOwn (model (cxOf (L2.CX P w) P w K mg base N qual scope f cd A outer s H E).prog (cxOf (L2.CX P w) P w K mg base N qual scope f cd A outer s H E).w) (cxOf (L2.CX P w) P w K mg base N qual scope f cd A outer s H E).A (cxOf (L2.CX P w) P w K mg base N qual scope f cd A outer s H E).env (cxOf (L2.CX P w) P w K mg base N qual scope f cd A outer s H E).xe := PassesOwn.leaving
end MM

namespace MM
open PySem PySem.Spec PyProof.Rows L2
structure Dk where
  a : Addr
  b : Addr
  scr : D
  big : List Int
  pos : Nat
  cnt : Nat
structure DkAt (K : Fg) (F : Fp) (t : Dk) (G : Fp) (H : Hp) : Prop where
  fa : F t.a
  fb : F t.b
  ne : t.a ≠ t.b
  cells : ∃ sv, Rep K G H sv t.scr ∧ H t.a = some (.lst [sv, .ref t.b, .int (t.pos : Nat), .int (t.cnt : Nat)]) ∧ H t.b = some (.lst (t.big.map V.int))
structure DkOk (K : Fg) (C : SC Dk) : Prop where
  at_ : ∀ t G H, C.Iv t G H → DkAt K C.F t G H
  up : ∀ (t t' : Dk) (G : Fp) (H H' : Hp) (sv : V), C.Iv t G H → t'.a = t.a → t'.b = t.b → t'.scr = t.scr → H t.a = some (.lst [sv, .ref t.b, .int (t.pos : Nat), .int (t.cnt : Nat)]) → (∀ x, x ≠ t.a → x ≠ t.b → H' x = H x) →
    H' t.a = some (.lst [sv, .ref t.b, .int (t'.pos : Nat), .int (t'.cnt : Nat)]) → H' t.b = some (.lst (t'.big.map V.int)) → C.Iv t' G H'
instance : Sto Dk where
  ok := DkOk
  cmp := fun K C D0 acc nF h => {
    at_ := fun t G H i => by
      have q := h.at_ t G H i.1
      exact ⟨.inl q.fa, .inl q.fb, q.ne, q.cells⟩
    up := fun t t' G H H' sv i e1 e2 e3 ha ho h1 h2 => by
      have q := h.at_ t G H i.1
      refine ⟨h.up t t' G H H' sv i.1 e1 e2 e3 ha ho h1 h2, ?_⟩
      rw [ho D0 (fun z => nF (by rw [z]; exact q.fa)) (fun z => nF (by rw [z]; exact q.fb))]
      exact i.2 }
  ov := fun K C F H1 hF dm h => {
    at_ := fun t G H i => by
      have q := h.at_ t G H i.1
      exact ⟨hF _ q.fa, hF _ q.fb, q.ne, q.cells⟩
    up := fun t t' G H H' sv i e1 e2 e3 ha ho h1 h2 => by
      have q := h.at_ t G H i.1
      have ot : ∀ x, ¬ C.F x → H' x = H x := fun x n => ho x (fun z => n (by rw [z]; exact q.fa)) (fun z => n (by rw [z]; exact q.fb))
      refine ⟨h.up t t' G H H' sv i.1 e1 e2 e3 ha ho h1 h2, ⟨fun b o n e => ?_, i.2.1.new⟩, fun b o hb n e => ?_⟩
      · rw [ot b fun z => n (hF b z)]; exact i.2.1.keep b o n e
      · rw [ot b n]; exact i.2.2 b o hb n e }
  lend := fun K C O H1 hO dm h => {
    at_ := fun t G H i => by
      have q := h.at_ t _ H i.1
      obtain ⟨sv, r, e⟩ := q.cells
      exact ⟨q.fa, q.fb, q.ne, sv, r.anti fun _ => .inl, e⟩
    up := fun t t' G H H' sv i e1 e2 e3 ha ho h1 h2 => by
      have q := h.at_ t _ H i.1
      refine ⟨h.up t t' _ H H' sv i.1 e1 e2 e3 ha ho h1 h2, i.2.1, fun b o hb e => ?_⟩
      rw [ho b (fun z => hO b hb (by rw [z]; exact q.fa)) (fun z => hO b hb (by rw [z]; exact q.fb))]
      exact i.2.2 b o hb e }
section
variable {X : Cx} {W : WX} {K : Fg}
def isDk (i : Nat) (ρ : Rho) (t : Dk) : Bool := match ρ[i]? with
  | some (.val (.at a)) => decide (a = t.a)
  | _ => false
theorem isDk_slot {i : Nat} {ρ : Rho} {t : Dk} {C : SC Dk} {σ : St} {H : Hp} (h : isDk i ρ t = true) (A : At K C ρ t σ H) : σ[i]? = some (some (.ref t.a)) := by
  unfold isDk at h
  split at h
  · rename_i a e
    obtain ⟨v, h1, h2⟩ := A.val i _ e
    cases h2
    rw [h1, of_decide_eq_true h]
  · cases h
def eDk (i j : Nat) : ME Dk D := fun ρ t => if isDk i ρ t = true then (match j with
  | 0 => .ok t.scr t
  | 2 => .ok (.int t.pos) t
  | 3 => .ok (.int t.cnt) t
  | _ => .bad) else .bad
theorem At.dk {C : SC Dk} {ρ : Rho} {t : Dk} {σ : St} {H : Hp} (A : At K C ρ t σ H) : DkAt K C.F t (Fo C.F ρ σ) H := (show DkOk K C from A.okC).at_ _ _ _ A.st
theorem me_dk {i j : Nat} {e : Expr} (h : PE X e (tOp (rIxL X.K) (tVar i) (tC (.int (j : Nat))))) : PE X e (tE X.K W (eDk i j)) := PE.imp h fun σ H Q ⟨C, ρ, t, A, p⟩ => by
  unfold eDk at p
  split at p
  · rename_i hi
    obtain ⟨sv, hs, ha, hb⟩ := A.dk.cells
    refine ⟨_, isDk_slot hi A, ?_⟩
    split at p
    · exact ⟨t.a, _, _, sv, rfl, rfl, .inl (.inl ha), atI_nat (j := 0) rfl, p _ H (Sm.refl _ _) A.st hs⟩
    · exact ⟨t.a, _, _, _, rfl, rfl, .inl (.inl ha), atI_nat (j := 2) rfl, p _ H (Sm.refl _ _) A.st (.int _)⟩
    · exact ⟨t.a, _, _, _, rfl, rfl, .inl (.inl ha), atI_nat (j := 3) rfl, p _ H (Sm.refl _ _) A.st (.int _)⟩
    · exact p.elim
  · exact p.elim
def eDkLen (i : Nat) : ME Dk D := fun ρ t => if isDk i ρ t = true then .ok (.int (t.big.length : Nat)) t else .bad
theorem me_dkLen {i : Nat} {e : Expr} (h : PE X e (tCB (rLen3 X.K) (tCons (tOp (rIxL X.K) (tVar i) (tC (.int 1))) tNil))) : PE X e (tE X.K W (eDkLen i)) := PE.imp h fun σ H Q ⟨C, ρ, t, A, p⟩ => by
  unfold eDkLen at p
  split at p
  · rename_i hi
    obtain ⟨sv, hs, ha, hb⟩ := A.dk.cells
    refine ⟨_, isDk_slot hi A, t.a, _, _, _, rfl, rfl, .inl (.inl ha), atI_nat (j := 1) rfl, .inl ⟨t.b, _, rfl, .inl (.inl (.inl hb)), ?_⟩⟩
    rw [List.length_map]
    exact p _ H (Sm.refl _ _) A.st (.int _)
  · exact p.elim
def eDkAt (i : Nat) : ME Dk D := fun ρ t => if isDk i ρ t = true then (match t.big[t.pos]? with
  | some c => .ok (.int c) t
  | none => .bad) else .bad
theorem me_dkAt {i : Nat} {e : Expr} (h : PE X e (tOp (rIxL X.K) (tOp (rIxL X.K) (tVar i) (tC (.int 1))) (tOp (rIxL X.K) (tVar i) (tC (.int 2))))) : PE X e (tE X.K W (eDkAt i)) := PE.imp h fun σ H Q ⟨C, ρ, t, A, p⟩ => by
  unfold eDkAt at p
  split at p
  · rename_i hi
    split at p
    · rename_i c hc
      obtain ⟨sv, hs, ha, hb⟩ := A.dk.cells
      have si := isDk_slot hi A
      refine ⟨_, si, t.a, _, _, _, rfl, rfl, .inl (.inl ha), atI_nat (j := 1) rfl, _, si, t.a, _, _, _, rfl, rfl, .inl (.inl ha), atI_nat (j := 2) rfl, t.b, _, _, _, rfl, rfl, .inl (.inl hb), atI_nat (v := V.int c) ?_, p _ H (Sm.refl _ _) A.st (.int _)⟩
      rw [List.getElem?_map, hc]
      rfl
    · exact p.elim
  · exact p.elim
def sDkBig (i : Nat) (m : ME Dk D) : MS Dk := sDo m fun d ρ t => match d with
  | .int c => if isDk i ρ t = true ∧ t.pos < t.big.length then .nx ρ { t with big := t.big.set t.pos c } else .bad
  | _ => .bad
theorem dk_write {C : SC Dk} {ρ : Rho} {t t' : Dk} {σ : St} {H H' : Hp} {sv : V} (A : At K C ρ t σ H) (e1 : t'.a = t.a) (e2 : t'.b = t.b) (e3 : t'.scr = t.scr) (ha : H t.a = some (.lst [sv, .ref t.b, .int (t.pos : Nat), .int (t.cnt : Nat)])) (ho : ∀ x, x ≠ t.a → x ≠ t.b → H' x = H x)
    (h1 : H' t.a = some (.lst [sv, .ref t.b, .int (t'.pos : Nat), .int (t'.cnt : Nat)])) (h2 : H' t.b = some (.lst (t'.big.map V.int))) : At K C ρ t' σ H' ∧ Sm C.F H H' := by
  have q := A.dk
  have sm : Sm C.F H H' := fun b o n e => by rw [ho b (fun z => n (by rw [z]; exact q.fa)) (fun z => n (by rw [z]; exact q.fb))]; exact e
  exact ⟨A.next sm ((show DkOk K C from A.okC).up t t' _ H H' sv A.st e1 e2 e3 ha ho h1 h2), sm⟩
theorem ms_dkBig {s : Stmt} {i : Nat} {m : ME Dk D} (h : PS X s (tAsg (tE X.K W m) (gSub (tOp (rIxL X.K) (tVar i) (tC (.int 1))) (tOp (rIxL X.K) (tVar i) (tC (.int 2))) rSetL))) : PS X s (tS X.K W (sDkBig i m)) := PS.imp h fun E σ H ⟨C, ρ, t, A, p⟩ => by
  refine useS A p fun d t1 v H1 e1 s1 A1 r1 p1 => ?_
  cases d <;> first
    | exact p1.elim
    | skip
  rename_i c
  cases r1
  dsimp only at p1
  split at p1
  · rename_i hi
    obtain ⟨sv, hs, ha, hb⟩ := A1.dk.cells
    have si := isDk_slot hi.1 A1
    have ne := A1.dk.ne
    refine ⟨_, si, t1.a, _, _, _, rfl, rfl, .inl (.inl ha), atI_nat (j := 1) rfl, _, si, t1.a, _, _, _, rfl, rfl, .inl (.inl ha), atI_nat (j := 2) rfl, t1.b, _, _, t1.pos, rfl, rfl, hb, ?_, ?_⟩
    · unfold ixN
      rw [if_pos (by omega), List.length_map, if_pos (by omega)]
      simp
    · have e : (t1.big.map V.int).set t1.pos (V.int c) = (t1.big.set t1.pos c).map V.int := by rw [List.map_set]
      rw [e]
      obtain ⟨A2, sm⟩ := dk_write (t' := { t1 with big := t1.big.set t1.pos c }) (H' := upd H1 t1.b (.lst ((t1.big.set t1.pos c).map V.int))) A1 rfl rfl rfl ha (fun x _ n => upd_ne n) (by rw [upd_ne ne]; exact ha) upd_same
      exact p1 σ _ (Stp.of_sm sm fun _ => Fo.base) A2
  · exact p1.elim
def sDkSet (i j : Nat) (m : ME Dk D) : MS Dk := sDo m fun d ρ t => match d with
  | .int c => if isDk i ρ t = true ∧ 0 ≤ c then (match j with
    | 2 => .nx ρ { t with pos := c.toNat }
    | 3 => .nx ρ { t with cnt := c.toNat }
    | _ => .bad) else .bad
  | _ => .bad
theorem ms_dkSet {s : Stmt} {i j : Nat} {m : ME Dk D} (h : PS X s (tAsg (tE X.K W m) (gSub (tVar i) (tC (.int (j : Nat))) rSetL))) : PS X s (tS X.K W (sDkSet i j m)) := PS.imp h fun E σ H ⟨C, ρ, t, A, p⟩ => by
  refine useS A p fun d t1 v H1 e1 s1 A1 r1 p1 => ?_
  cases d <;> first
    | exact p1.elim
    | skip
  rename_i c
  cases r1
  dsimp only at p1
  split at p1
  · rename_i hi
    obtain ⟨sv, hs, ha, hb⟩ := A1.dk.cells
    have si := isDk_slot hi.1 A1
    have ne := A1.dk.ne
    have ec : c = (c.toNat : Nat) := by omega
    refine ⟨_, si, ?_⟩
    split at p1
    · refine ⟨t1.a, _, _, 2, rfl, rfl, ha, rfl, ?_⟩
      obtain ⟨A2, sm⟩ := dk_write (t' := { t1 with pos := c.toNat }) (H' := upd H1 t1.a (.lst [sv, .ref t1.b, .int c, .int (t1.cnt : Nat)])) A1 rfl rfl rfl ha (fun x n _ => upd_ne n) (by rw [upd_same]; rw [← ec]) (by rw [upd_ne (Ne.symm ne)]; exact hb)
      exact p1 σ _ (Stp.of_sm sm fun _ => Fo.base) A2
    · refine ⟨t1.a, _, _, 3, rfl, rfl, ha, rfl, ?_⟩
      obtain ⟨A2, sm⟩ := dk_write (t' := { t1 with cnt := c.toNat }) (H' := upd H1 t1.a (.lst [sv, .ref t1.b, .int (t1.pos : Nat), .int c])) A1 rfl rfl rfl ha (fun x n _ => upd_ne n) (by rw [upd_same]; rw [← ec]) (by rw [upd_ne (Ne.symm ne)]; exact hb)
      exact p1 σ _ (Stp.of_sm sm fun _ => Fo.base) A2
    · exact p1.elim
  · exact p1.elim
end
end MM

namespace MM
open PySem PySem.Spec PyProof.Rows L2
section
variable {X : Cx} {W : WX} {τ : Type} [Sto τ] {K : Fg}
theorem PSs.pure {sts : List Stmt} {t : TS} {P : Prop} (h : P → PSs X sts t) : PSs X sts (fun E σ H => P ∧ t E σ H) := ⟨fun pins s σ H D I ⟨p, q⟩ => (h p).run pins s σ H D I q⟩
theorem Fo.setNo {F : Fp} {ρ : Rho} {σ : St} {i : Nat} {v : Option V} {b : Addr} (h : Fo F (ρ.set i .no) (σ.set i v) b) : Fo F ρ σ b := by
  rcases h with h | ⟨j, xs, ⟨h1, hm⟩, h2⟩
  · exact .inl h
  · rcases set_at h1 with ⟨_, e, _⟩ | ⟨ne, h1⟩
    · cases e; cases hm
    · rw [List.getElem?_set_ne ne] at h2
      exact .inr ⟨j, xs, ⟨h1, hm⟩, h2⟩
theorem At.clear {C : SC τ} {ρ : Rho} {t : τ} {σ : St} {H : Hp} (A : At K C ρ t σ H) (i : Nat) (v : Option V) : At K C (ρ.set i .no) t (σ.set i v) H where
  okC := A.okC
  st := C.less A.st fun _ => Fo.setNo
  len := by simp [A.len]
  val := fun j e h => by
    rcases set_at h with ⟨_, e1, _⟩ | ⟨ne, h⟩
    · cases e1
    · obtain ⟨w, h1, h2⟩ := A.val j e h
      exact ⟨w, by rw [List.getElem?_set_ne ne]; exact h1, h2.anti fun _ => Fo.setNo⟩
  mine := fun j xs hh => by
    obtain ⟨h, hm⟩ := hh
    rcases set_at h with ⟨_, e1, _⟩ | ⟨ne, h⟩
    · cases e1; cases hm
    · obtain ⟨a, vs, h1, h2, h3, h4⟩ := A.mine j xs ⟨h, hm⟩
      exact ⟨a, vs, by rw [List.getElem?_set_ne ne]; exact h1, h2, h3, h4.anti fun _ => Fo.setNo⟩
  dis := fun j k xs ys hh1 hh2 e => by
    obtain ⟨h1, m1⟩ := hh1
    obtain ⟨h2, m2⟩ := hh2
    rcases set_at h1 with ⟨_, e1, _⟩ | ⟨n1, h1⟩
    · cases e1; cases m1
    · rcases set_at h2 with ⟨_, e2, _⟩ | ⟨n2, h2⟩
      · cases e2; cases m2
      · rw [List.getElem?_set_ne n1, List.getElem?_set_ne n2] at e
        exact A.dis j k xs ys ⟨h1, m1⟩ ⟨h2, m2⟩ e
theorem Stp.setNo {F : Fp} {ρ : Rho} {σ : St} {i : Nat} {v : Option V} {H : Hp} : Stp (Fo F ρ σ) H (Fo F (ρ.set i .no) (σ.set i v)) H := Stp.less fun _ => Fo.setNo
end
end MM

namespace MM
open PySem PySem.Spec PyProof.Rows L2 PySem.NumText PySem.Calls
def repS (x : Str) (n : Int) : Str := Txt.mul x n
section
variable {X : Cx} {W : WX} {τ : Type} [Sto τ] {K : Fg}
theorem sizeLine_big : 1000000 < sizeLine := by decide
def allDig (x : Str) : Bool := x.cps.toList.all fun c => decide (48 ≤ c) && decide (c ≤ 57)
theorem allDig_ok {x : Str} (h : allDig x = true) : AllDigits x.cps.toList := fun c hc => by
  have := List.all_eq_true.mp h c hc
  simp only [Bool.and_eq_true, decide_eq_true_eq] at this
  exact this
def fIntS : List D → Option D
  | [.str x] => if decide (x.length ≤ 640) = true then (PySem.intText? x).map .int else if (allDig x && decide (x.length ≤ 4300)) = true then some (.int ((digitsVal x.cps.toList : Nat) : Int)) else none
  | _ => none
abbrev NoLim (K : Fg) : Prop := PySem.W.nsIn K cStatics "sys.int_max_str_digits" = some none
def rIntS : List V → Hp → VK → Prop := fun xs H Q => ∃ a n, xs = [.str a] ∧ ((PySem.intText? a = some n ∧ a.length ≤ 640) ∨ (¬ a.length ≤ 640 ∧ a.length ≤ 4300 ∧ allDig a = true ∧ n = ((digitsVal a.cps.toList : Nat) : Int))) ∧ Q (.int n) H
theorem c_intS : DCall K rIntS fIntS := fun F0 F H xs ds z Q dm r q k => by
  unfold fIntS at q
  split at q
  · obtain ⟨v, rfl, r1⟩ := r.one
    split at q
    · rename_i x hl
      cases e : PySem.intText? x with
      | none => rw [e] at q; cases q
      | some n =>
        rw [e] at q
        cases q
        exact ⟨_, n, by rw [r1.strOf], .inl ⟨e, of_decide_eq_true hl⟩, k _ _ (Same.refl H) (.int _)⟩
    · rename_i x hl
      split at q
      · rename_i h2
        cases q
        obtain ⟨h3, h4⟩ := Bool.and_eq_true_iff.mp h2
        exact ⟨_, _, by rw [r1.strOf], .inr ⟨fun z => hl (decide_eq_true z), of_decide_eq_true h4, h3, rfl⟩, k _ _ (Same.refl H) (.int _)⟩
      · cases q
  · cases q
def px10 : List Nat → Option Nat
  | 48 :: d :: _ => if d == 120 || d == 88 then some 16 else if d == 111 || d == 79 then some 8 else (if d == 98 || d == 66 then some 2 else none)
  | _ => none
theorem read_long {cs : List Nat} (h : AllDigits cs) (hne : cs ≠ []) (hl : cs.length ≤ 4300) : (int_private% "readNumeral") 4300 10 cs = (int_private% "Numeral.value") ((digitsVal cs : Nat) : Int) := by
  refine (readNumeral_eq 4300 10 cs).trans ?_
  have hb : ∀ l : List Nat, AllDigits l → based 10 l = (10, false, l) := fun l hl => by
    unfold based
    split
    · rename_i p e
      have e' : px10 l = some p := e
      unfold px10 at e'
      have hp : p ≠ 10 := by
        split at e'
        · split at e'
          · cases e'; decide
          · split at e'
            · cases e'; decide
            · split at e'
              · cases e'; decide
              · cases e'
        · cases e'
      have hne : ((10 : Nat) == 0 || (10 : Nat) == p) = false := Bool.or_eq_false_iff.mpr ⟨rfl, beq_eq_false_iff_ne.mpr fun z => hp z.symm⟩
      rw [if_neg (by rw [hne]; intro z; cases z)]
    · rfl
  have hs : sign cs = (false, cs) := by
    cases cs with
    | nil => rfl
    | cons c cs => exact sign_of (by have := h.head; omega) (by have := h.head; omega)
  rw [dropWhile_digits h, hs]
  show judge 4300 false (based 10 cs).1 (based 10 cs).2.1 (digits? (based 10 cs).1 (((based 10 cs).2.2.reverse.dropWhile blank).reverse)) = _
  rw [hb cs h]
  show judge 4300 false 10 false (digits? 10 ((cs.reverse.dropWhile blank).reverse)) = _
  rw [dropWhile_digits h.reverse, List.reverse_reverse, digits_of h hne]
  have hsz := push_size cs #[]
  unfold judge
  dsimp only
  rw [if_neg (by
    rw [hsz]
    simp only [Array.size_empty]
    intro z
    have := of_decide_eq_true (Bool.and_eq_true_iff.mp z).2
    omega), if_neg (by
    rw [hsz]
    simp only [Array.size_empty]
    intro z
    have := of_decide_eq_true (Bool.and_eq_true_iff.mp z).2
    omega)]
  have hv := push_foldl cs #[]
  rw [hv]
  rfl
theorem wp_textL {M : Model} {A : Around} {E : Value → Shared → Prop} {s : Shared} {Q : Value → Shared → Prop} {v : Value} {text : List Nat} {n : Int} (hk : K.In s.heap) (e : NoLim K)
    (hs : ¬ (text.takeWhile (· != 0)).length ≤ 640) (hr : (int_private% "readNumeral") 4300 10 (text.takeWhile (· != 0)) = (int_private% "Numeral.value") n)
    (ha : ((text.takeWhile (· != 0)).length == text.length) = true) (h : Q (.int n s.toks) { s with toks := s.toks + 1 }) :
    wpAny M A ((int_private% "intFromText") v text 10) Q E s := by
  obtain ⟨hp, g, d, tk, os⟩ := s
  have lk := PySem.W.looks_nsIn (M := M) hk e
  show wpAny M A (ite _ _ _) Q E _
  rw [if_neg hs]
  unfold Builtin.intMaxStrDigits
  refine wpAny_bind (wpAny_bind (lk.here ?_))
  dsimp only
  refine wpAny_pure ?_
  rw [hr]
  dsimp only
  rw [if_pos ha]
  repeat (any_goals (first
    | assumption
    | wp_step))
structure HidL (p : Prop) : Prop where
  out : p
theorem meets_long {x : PySem.Str} {u : Tok} (e : NoLim K) (hd : allDig x = true) (h6 : ¬ x.length ≤ 640) (h4 : x.length ≤ 4300) :
    Meets (Builtin.«int.__new__» ⟨[.type "int", .str x u], []⟩) (fun _ R s => K.In s.heap ∧ R (.ok (.ret (.int ((digitsVal x.cps.toList : Nat) : Int) s.toks))) { s with toks := s.toks + 1 }) := by
  intro prog w A R s hR
  obtain ⟨hk, hR⟩ := hR
  have ad := allDig_ok hd
  obtain ⟨e1, e2⟩ := numText_signs (x := x) fun c hc => .inr (ad c hc)
  have len : x.cps.toList.length = x.length := Array.length_toList
  obtain ⟨hp, g, d, tk, os⟩ := s
  have f1 := F.conv_sub_int
  have f2 := F.madeHere_int
  have f3 := PySem.W.KIN.str_int
  have f4 := PySem.W.KIN.str_idx
  have f5 := PySem.W.KIN.str_trunc
  have f6 : typeOf (.str x u) = pure (.type "str") := rfl
  have hs : ¬ (numSeenOf x).length ≤ 640 := by rw [e2, len]; exact h6
  have hr : (int_private% "readNumeral") 4300 10 (numSeenOf x) = (int_private% "Numeral.value") ((digitsVal x.cps.toList : Nat) : Int) := by
    rw [e2]
    exact read_long ad (fun z => by rw [z] at len; simp at len; omega) (by rw [len]; exact h4)
  have ha : ((numSeenOf x).length == (numTextOf x).length) = true := by rw [e1, e2]; exact beq_self_eq_true _
  have hh := HidL.mk (And.intro hs (And.intro hr (And.intro ha (And.intro hk e))))
  clear hs hr ha e1 e2 len h6 h4 hd ad hk e
  repeat (any_goals (first
    | assumption
    | ((with_reducible show wpAny _ _ ((int_private% "intFromText") _ _ _) _ _ _); refine wp_textL hh.out.2.2.2.1 hh.out.2.2.2.2 hh.out.1 hh.out.2.1 hh.out.2.2.1 ?_)
    | wp_step))
theorem call_intS (e : NoLim X.K) : CallR X (.type "int") (rIntS) := by
  intro pins s σ H xs us Q I rs h
  obtain ⟨a, n, rfl, hn, h⟩ := h
  cases rs with
  | cons r1 rs =>
    cases rs
    obtain ⟨t, rfl⟩ := r1
    rcases hn with ⟨hn, hl⟩ | ⟨h6, h4, hd, rfl⟩
    · exact PySem.W.KIN.call_text hn hl ⟨.int n, H, I.tok _, ⟨_, rfl⟩, h⟩
    · exact call_int_1 (meets_long e hd h6 h4) ⟨I.kIn, rfl, ⟨.int _, H, I.tok _, ⟨_, rfl⟩, h⟩⟩
def aVar (i : Nat) : Rho → Option D := fun ρ => match ρ[i]? with
  | some (.val d) => some d
  | _ => none
end
end MM

namespace MM
open PySem PySem.Spec PyProof.Rows L2
abbrev MSd := Rho → Option (D × List Int)
section
variable {X : Cx} {W : WX} {K : Fg}
def SPostD (K : Fg) (C : SC Unit) (F1 : Fp) (H : Hp) (r : Option (D × List Int)) (Q : VK) : Prop := match r with
  | some (d, big) => ∀ sv a b H', Stp F1 H (fun x => C.F x ∨ x = a ∨ x = b) H' → Rep K (fun x => C.F x ∨ x = a ∨ x = b) H' sv d → a ≠ b → H' a = some (.lst [sv, .ref b, .int 0, .int 0]) → H' b = some (.lst (big.map V.int)) → Q (.ref a) H'
  | none => False
theorem SPostD.rebase {C : SC Unit} {F1 F2 : Fp} {H H1 : Hp} {r : Option (D × List Int)} {Q : VK} (h : SPostD K C F1 H r Q) (s : Stp F1 H F2 H1) : SPostD K C F2 H1 r Q := by
  cases r with
  | none => exact h
  | some p =>
    obtain ⟨d, big⟩ := p
    exact fun sv a b H' s' r ne ha hb => h sv a b H' (s.trans s') r ne ha hb
def tSd (K : Fg) (m : MSd) : TS := fun E σ H => ∃ (C : SC Unit) (ρ : Rho), At K C ρ () σ H ∧ SPostD K C (Fo C.F ρ σ) H (m ρ) E.rt
theorem mss_oneD {s : Stmt} {b : MSd} (h : PS X s (tSd X.K b)) : PSs X [s] (tSd X.K b) := pss_one h
def intsD : List D → Option (List Int)
  | [] => some []
  | .int i :: r => (intsD r).map (i :: ·)
  | _ => none
theorem intsD_ok {F : Fp} {H : Hp} : ∀ {vs : List V} {ds : List D} {ns : List Int}, Reps K F H vs ds → intsD ds = some ns → vs = ns.map V.int
  | _, _, ns, .nil, e => by cases e; rfl
  | _, _, ns, .cons (v := v) (vs := vs) (d := d) (ds := ds) r t, e => by
    cases d <;> first
      | (cases e; done)
      | skip
    rename_i i
    cases q : intsD ds with
    | none =>
      have e' : (intsD ds).map (i :: ·) = some ns := e
      rw [q] at e'; cases e'
    | some l =>
      have e' : (intsD ds).map (i :: ·) = some ns := e
      rw [q] at e'
      cases e'
      cases r
      rw [intsD_ok t q]
      rfl
def retD (i : Nat) (m : ME Unit (List D)) : MSd := fun ρ => match aVar i ρ, m ρ () with
  | some d, .ok ds _ => (intsD ds).map fun l => (d, l)
  | _, _ => none
theorem ms_retDk {i : Nat} {n c : Expr} {j1 j2 : Nat} {p1 p2 pos pos' : Pos} {m : ME Unit (List D)} (hn : PE X n (tVar i)) (hc : PE X c (tF X.K W m)) (h1 : starEach [n, c, .Constant (.int 0) j1 p1, .Constant (.int 0) j2 p2] X.env = (false, eval n X.env) :: starEach [c, .Constant (.int 0) j1 p1, .Constant (.int 0) j2 p2] X.env := by rfl)
    (h2 : starEach [c, .Constant (.int 0) j1 p1, .Constant (.int 0) j2 p2] X.env = (false, eval c X.env) :: starEach [.Constant (.int 0) j1 p1, .Constant (.int 0) j2 p2] X.env := by rfl) :
    PS X (.Return (some (.List [n, c, .Constant (.int 0) j1 p1, .Constant (.int 0) j2 p2] pos)) pos') (tSd X.K (retD i m)) :=
  PS.imp (ps_ret (pe_lst (pa_cons hn (pa_cons hc (pa_cons pe_int (pa_cons pe_int pa_nil))  h2) h1))) fun E σ H ⟨C, ρ, A, p⟩ => by
    unfold retD aVar at p
    split at p
    · rename_i d ds u ed em
      split at ed
      · rename_i d' hr
        cases ed
        cases el : intsD ds with
        | none => rw [el] at p; exact p.elim
        | some l =>
          rw [el] at p
          obtain ⟨v, h1, h2⟩ := A.val i _ hr
          refine ⟨v, h1, C, ρ, (), A, ?_⟩
          rw [em]
          intro y H1 sm iv r
          obtain ⟨b, vs, rfl, nb, hb0, hb1, rr, _⟩ := r
          have ev := intsD_ok rr el
          subst ev
          refine ⟨by show 4 ≤ sizeLine; decide, fun a na => ?_⟩
          have ne : a ≠ b := fun z => by rw [z, hb1] at na; cases na
          have key : ∀ x, x = a → Fo C.F ρ σ x ∨ H x = none := fun x e => by
            by_cases q : Fo C.F ρ σ x
            · exact .inl q
            · right
              cases z : H x with
              | none => rfl
              | some o =>
                have := sm x o (fun w => q (.inl w)) z
                rw [e, na] at this; cases this
          have st : Stp (Fo C.F ρ σ) H (fun x => C.F x ∨ x = a ∨ x = b) (upd H1 a (.lst [v, .ref b, .int 0, .int 0])) := ⟨fun x o n e => by
            have e1 := sm x o (fun w => n (.inl w)) e
            rw [upd_ne (fun z => by rw [z, na] at e1; cases e1)]
            exact e1, fun x h => by
            rcases h with h | h | h
            · exact .inl (.inl h)
            · exact key x h
            · rw [h]; exact .inr hb0⟩
          exact p v a b _ st (h2.step st) ne upd_same (by rw [upd_ne (Ne.symm ne)]; exact hb1)
      · cases ed
    · exact p.elim
end
def spDk (np : Nat) (K : Fg) (m : List D → Option (D × List Int)) : Sp := fun vs H Q _ => ∃ (C : SC Unit) (ds : List D), C.Iv () C.F H ∧ Reps K C.F H vs ds ∧ ds.length = np ∧ SPostD K C C.F H (m ds) Q
def runD (n : Nat) (mb : MSd) : List D → Option (D × List Int) := fun ds => mb (ds.map Slot.val ++ List.replicate (n - ds.length) .no)
theorem fn_mkD {P : Program} {w : World} {K : Fg} {mg : Str → Option Value} {base : Heap} {x qual : Str} {params : Arguments} {body : List Stmt} {scope : Scope} {dvs : List V} {kws : List (Str × V)} {f : Addr} {fd : FuncData} {N ps : List Str} {k : Nat}
    (F : FunD K x qual params body scope dvs kws f fd) (S : FnScope N ps scope) (mb : MSd)
    (hb : ∀ (cdv : Value) (A : Around) (outer : List Env) (s : Shared) (H : Hp) (E : XK), Room k (A.deeper (envOfC qual scope s.heap.objs.size f cdv)) →
      PSs (cxOf (L2.CX P w) P w K mg base N qual scope f cdv A outer s H E) body (tSd K mb)) : FnOk P w K mg base (L2.CX P w) (k + 1) f fd ps (spDk ps.length K (runD N.length mb)) := by
  have hpl : ps.length ≤ N.length := by have := congrArg List.length S.pre; rw [List.length_take] at this; omega
  refine F.ok S (fun vs H Q E ⟨C, ds, _, r, hl, _⟩ => r.length.trans hl) fun cdv A outer s H vs Q E hr ⟨C, ds, iv, r, hl, p⟩ => ⟨_, hb cdv A outer s H E hr, C, _, At.start trivial iv r (by rw [hl]; exact hpl), ?_⟩
  unfold runD at p
  exact SPostD.rebase p ⟨fun b o n e => e, fun b h => .inl (FoStart h)⟩
structure DefD (P : Program) (w : World) (K : Fg) (mg : Str → Option Value) (base : Heap) (k : Nat) (x : Str) (np : Nat) (m : List D → Option (D × List Int)) : Prop where
  ex : ∃ (fd : FuncData) (ps : List Str) (ds : List Value), FnOk P w K mg base (L2.CX P w) k (He.ga K x) fd ps (spDk np K m) ∧ mg x = some (.ref (He.ga K x)) ∧ PySem.W.keepIn K (.ref (He.ga K x)) = true ∧ Binds K fd ps ds ∧ Vals [] ds
theorem DefD.mk' {P : Program} {w : World} {K : Fg} {mg : Str → Option Value} {base : Heap} {x qual : Str} {params : Arguments} {body : List Stmt} {scope : Scope} {dvs : List V} {kws : List (Str × V)} {fd : FuncData} {N ps : List Str} {k : Nat}
    (F : FunD K x qual params body scope dvs kws (He.ga K x) fd) (hm : mg x = some (.ref (He.ga K x))) (S : FnScope N ps scope) (mb : MSd) (hb : ∃ ds, Vals [] ds ∧ Binds K fd ps ds)
    (hbody : ∀ (cdv : Value) (A : Around) (outer : List Env) (s : Shared) (H : Hp) (E : XK), Room k (A.deeper (envOfC qual scope s.heap.objs.size (He.ga K x) cdv)) →
      PSs (cxOf (L2.CX P w) P w K mg base N qual scope (He.ga K x) cdv A outer s H E) body (tSd K mb)) : DefD P w K mg base (k + 1) x ps.length (runD N.length mb) := by
  obtain ⟨ds, h1, h2⟩ := hb
  exact ⟨fd, ps, ds, fn_mkD F S mb hbody, hm, F.kp, h2, h1⟩
theorem DefD.mono {P : Program} {w : World} {K : Fg} {mg : Str → Option Value} {base : Heap} {j k : Nat} {x : Str} {np : Nat} {m : List D → Option (D × List Int)} (F : DefD P w K mg base j x np m) (h : j ≤ k) : DefD P w K mg base k x np m := by
  obtain ⟨fd, ps, ds, F, r⟩ := F.ex
  exact ⟨fd, ps, ds, F.mono h, r⟩

theorem stp_or {G G' S : Fp} {H H' : Hp} (s : Stp G H G' H') (h : ∀ b o, S b → H b = some o → H' b = some o) : Stp (fun x => G x ∨ S x) H (fun x => G' x ∨ S x) H' :=
  ⟨fun b o n e => s.keep b o (fun z => n (.inl z)) e, fun b h => h.elim (fun z => (s.new b z).elim (fun z => .inl (.inl z)) .inr) fun z => .inl (.inr z)⟩
structure DkIv (K : Fg) (a b : Addr) (t : Dk) (G : Fp) (H : Hp) : Prop where
  ea : t.a = a
  eb : t.b = b
  ne : a ≠ b
  cells : ∃ sv, Rep K (fun x => G x ∨ (x = a ∨ x = b)) H sv t.scr ∧ H a = some (.lst [sv, .ref b, .int (t.pos : Nat), .int (t.cnt : Nat)]) ∧ H b = some (.lst (t.big.map V.int))
def SC.dk (K : Fg) (a b : Addr) : SC Dk where
  F := fun x => x = a ∨ x = b
  Iv := DkIv K a b
  dom := fun t G H x h hx => by
    obtain ⟨sv, _, h2, h3⟩ := h.cells
    rcases hx with rfl | rfl
    · rw [h2]; intro z; cases z
    · rw [h3]; intro z; cases z
  step := fun t G H G' H' h1 h2 s => by
    obtain ⟨sv, r, e1, e2⟩ := h1.cells
    exact ⟨h1.ea, h1.eb, h1.ne, sv, r.step (stp_or s h2), h2 _ _ (.inl rfl) e1, h2 _ _ (.inr rfl) e2⟩
theorem dkOk (K : Fg) (a b : Addr) : DkOk K (SC.dk K a b) where
  at_ := fun t G H i => by
    obtain ⟨sv, r, e1, e2⟩ := i.cells
    refine ⟨.inl i.ea, .inr i.eb, by rw [i.ea, i.eb]; exact i.ne, sv, r.anti fun _ => .inl, by rw [i.ea, i.eb]; exact e1, by rw [i.eb]; exact e2⟩
  up := fun t t' G H H' sv i ea eb es ha ho h1 h2 => by
    obtain ⟨sv', r, e1, e2⟩ := i.cells
    have esv : sv' = sv := by
      rw [i.ea, e1] at ha
      injection ha with ha
      injection ha with ha
      injection ha with ha
    subst esv
    rw [i.ea] at h1 ho
    rw [i.eb] at h1 h2 ho
    refine ⟨by rw [ea]; exact i.ea, by rw [eb]; exact i.eb, i.ne, sv', ?_, h1, h2⟩
    rw [es]
    exact r.same fun x o n e => by rw [ho x (fun z => n (.inr (.inl z))) (fun z => n (.inr (.inr z)))]; exact e
theorem At.toDk {K : Fg} {C : SC Unit} {ρ : Rho} {σ : St} {H H' : Hp} {sv : V} {a b : Addr} {i : Nat} {d : D} {big : List Int} (A : At K C ρ () σ H) (hF : ∀ x, ¬ C.F x) (hno : ∀ (j : Nat) (x : Slot), ¬ (ρ[j]? = some x ∧ x.mine = true))
    (s : Stp (Fo C.F ρ σ) H (fun x => C.F x ∨ x = a ∨ x = b) H') (r : Rep K (fun x => C.F x ∨ x = a ∨ x = b) H' sv d) (ne : a ≠ b) (ha : H' a = some (.lst [sv, .ref b, .int 0, .int 0])) (hb : H' b = some (.lst (big.map V.int))) :
    At K (SC.dk K a b) (ρ.set i (.val (.at a))) ⟨a, b, d, big, 0, 0⟩ (σ.set i (some (.ref a))) H' := by
  have hno' : ∀ (j : Nat) (x : Slot), ¬ ((ρ.set i (.val (.at a)))[j]? = some x ∧ x.mine = true) := fun j xs ⟨h, hm⟩ => by
    rcases set_at h with ⟨_, e, _⟩ | ⟨_, h⟩
    · cases e; cases hm
    · exact hno j xs ⟨h, hm⟩
  have sub : ∀ x, Fo (SC.dk K a b).F (ρ.set i (.val (.at a))) (σ.set i (some (.ref a))) x → C.F x ∨ x = a ∨ x = b := fun x h => by
    rcases h with h | ⟨j, xs, h, _⟩
    · exact .inr h
    · exact absurd h (hno' j xs)
  exact {
    okC := dkOk K a b
    st := ⟨rfl, rfl, ne, sv, r.anti fun x h => h.elim (sub x) .inr, ha, hb⟩
    len := by simp [A.len]
    val := fun j e h => by
      rcases set_at h with ⟨rfl, e1, hl⟩ | ⟨nj, h⟩
      · cases e1
        exact ⟨_, List.getElem?_set_self (by rw [A.len]; exact hl), .at a⟩
      · obtain ⟨w, h1, h2⟩ := A.val j e h
        exact ⟨w, by rw [List.getElem?_set_ne nj]; exact h1, (h2.step s).anti sub⟩
    mine := fun j xs h => absurd h (hno' j xs)
    dis := fun j k xs ys h => absurd h (hno' j xs) }
def lawIs (n : Nat) (m : List D → Option (D × List Int)) (rest : MS Dk) (ns : List Int) : Prop := ∃ d big, m [.scr ns] = some (d, big) ∧ ∀ a b, ∃ t, rest ((Slot.val (.scr ns) :: List.replicate (n - 1) .no).set 1 (.val (.at a))) ⟨a, b, d, big, 0, 0⟩ = .rt (.bl true) t
def spLaw (K : Fg) (n : Nat) (m : List D → Option (D × List Int)) (rest : MS Dk) : Sp := fun vs H Q _ => ∃ (a : Addr) (ns : List Int), vs = [.ref a] ∧ SqL K H a (ns.map V.int) ∧ lawIs n m rest ns ∧ ∀ H', Q (.bl true) H'
section
variable {P : Program} {w : World} {K : Fg} {mg : Str → Option Value} {base : Heap}
theorem start_none {n : Nat} {d : D} {j : Nat} {x : Slot} : ¬ ((Slot.val d :: List.replicate n .no)[j]? = some x ∧ x.mine = true) := by
  rintro ⟨h, hm⟩
  cases j with
  | zero => cases h; cases hm
  | succ j =>
    rw [List.getElem?_cons_succ, List.getElem?_replicate] at h
    split at h
    · cases h; cases hm
    · cases h
theorem law_fn {fd : FuncData} {N : List Str} {params : Arguments} {s0 : Stmt} {r : List Stmt} {scope : Scope} {dvs : List V} {kws : List (Str × V)} {k : Nat} {m : List D → Option (D × List Int)} {rest : MS Dk} {nd : Str}
    (F : FunD K "law" "law" params (s0 :: r) scope dvs kws (He.ga K "law") fd) (S : FnScope N ["_law_script"] scope) (hn : 2 ≤ N.length)
    (D0 : DefD P w K mg base k nd 1 m)
    (h0 : ∀ (cdv : Value) (A : Around) (outer : List Env) (s : Shared) (H : Hp) (E : XK), Room k (A.deeper (envOfC "law" scope s.heap.objs.size (He.ga K "law") cdv)) →
      PS (cxOf (L2.CX P w) P w K mg base N "law" scope (He.ga K "law") cdv A outer s H E) s0 (tAsg (tCallSD (spDk 1 K m) [] (WE fun cls d _ H => E cls d H) (tCons (tVar 0) tNil)) (gName 1)))
    (hr : ∀ (cdv : Value) (A : Around) (outer : List Env) (s : Shared) (H : Hp) (E : XK), Room k (A.deeper (envOfC "law" scope s.heap.objs.size (He.ga K "law") cdv)) →
      PSs (cxOf (L2.CX P w) P w K mg base N "law" scope (He.ga K "law") cdv A outer s H E) r (tS K (fun cls d _ H => E cls d H) rest)) :
    FnOk P w K mg base (L2.CX P w) (k + 1) (He.ga K "law") fd ["_law_script"] (spLaw K N.length m rest) := by
  refine F.ok S (fun vs H Q E ⟨a, ns, e, _⟩ => by rw [e]; rfl) fun cdv A outer s H vs Q E hrm ⟨a, ns, e, hs, good, hq⟩ => ⟨_, pss_cons (h0 cdv A outer s H E hrm) (hr cdv A outer s H E hrm), ?_⟩
  subst e
  obtain ⟨d, big, em, good⟩ := good
  have dm : Dom (fun _ => False) H := fun b h => h.elim
  have iv0 : (SC.pure (fun _ => False) H dm).Iv () (fun _ => False) H := ⟨Stp.refl _ _, fun _ _ _ e => e⟩
  have rs : Rep K (fun _ => False) H (.ref a) (.scr ns) := .scr (by
    rcases hs with hs | hs
    · exact .inl ⟨fun z => z, hs⟩
    · exact .inr hs)
  have A0 : At K (SC.pure (fun _ => False) H dm) (Slot.val (.scr ns) :: List.replicate (N.length - 1) .no) () (start N [.ref a]) H := At.start (ds := [.scr ns]) trivial iv0 (.cons rs .nil) (by simp; omega)
  refine ⟨.ref a, rfl, SC.pure (fun _ => False) H dm, [.scr ns], iv0, .cons rs .nil, rfl, ?_⟩
  rw [em]
  intro sv x y H' st r ne hx hy
  have A1 := A0.toDk (i := 1) (fun _ z => z) (fun j xs => start_none) ⟨fun b o n e => st.keep b o (fun z => z) e, fun b h => (st.new b h).elim False.elim .inr⟩ r ne hx hy
  obtain ⟨t, et⟩ := good x y
  refine ⟨_, _, _, A1, ?_⟩
  rw [et]
  intro v H2 _ _ r2
  cases r2
  exact hq H2
end
section
variable {chk : Chk} {fn : List He.DefD} {K : Fg}
theorem SaysM.fact (c : SaysM chk fn K) (i : Nat) {f : Fg → Bool} (h : chk[i]? = some f := by rfl) : f K = true := by
  have c1 := (He.ba (show ((chk.all fun f => f K) && fn.all fun d => d.ok K) = true from congrArg (fun z : He.AlD => z.1) c)).1
  exact List.all_eq_true.mp c1 f (List.mem_of_getElem? h)
theorem SaysM.def_ (c : SaysM chk fn K) (i : Nat) {d : He.DefD} (h : fn[i]? = some d := by rfl) : ∃ fd, FunD K d.name d.qual d.params d.body d.scope (d.dvs K) (d.kws K) (He.fAd K d.at_) fd := by
  have c2 := (He.ba (show ((chk.all fun f => f K) && fn.all fun d => d.ok K) = true from congrArg (fun z : He.AlD => z.1) c)).2
  have e : fn.map (fun d => He.fnW K d.at_) = fn.map He.DefD.val := congrArg (fun z : He.AlD => z.2) c
  have e2 : (fn.map fun d => He.fnW K d.at_)[i]? = (fn.map He.DefD.val)[i]? := by rw [e]
  rw [List.getElem?_map, List.getElem?_map, h] at e2
  exact He.DefD.funD (Option.some.inj e2) (List.all_eq_true.mp c2 d (List.mem_of_getElem? h))
end
end MM

namespace MM
open PySem PySem.Spec PyProof.Rows L2
section
variable {K : Fg} {h : Heap} {mg : Str → Option Value}
theorem cGlo_ok {x : Str} (X : K.In h) (G : h.Ns mainGlobals mg) (c : cGlo x K = true) : mg x = some (.ref (He.ga K x)) := He.glo_ok X G c
theorem cFree_ok {x : Str} (X : K.In h) (G : h.Ns mainGlobals mg) (c : cFree x K = true) : mg x = none := He.free_ok X G c
theorem cLim_ok (c : cLim K = true) : NoLim K := of_decide_eq_true c
end
theorem room_k {k : Nat} (h : k ≤ 60) : Room k callerA := Room.mono (k := 60) ⟨rfl, by decide, by decide⟩ h
theorem pe_deck {X : Cx} {W : WX} {k : Nat} {x : Str} {m : List D → Option (D × List Int)} {e : Expr} {p pos : Pos} {t : TA} (Df : DefD X.prog X.w X.K X.mg X.base k x 1 m) (hr : Room k X.A) (tk : Takes X W) (hg : Gl X x) (ha : PA X [e] t)
    (hdb : (x == ("__debug__" : Str)) = false := by decide) (he : starEach [e] X.env = (false, eval e X.env) :: starEach [] X.env := by rfl) (hpl : (backTo pos (starEach [] X.env)).any (·.1) = false := by rfl) :
    PE X (.Call (.Name x p) [e] [] pos) (tCallSD (spDk 1 X.K m) [] (WE W) t) := by
  obtain ⟨fd, ps, ds, F, hm, hk, hb, hd⟩ := Df.ex
  exact pe_callSD F hr hg hm hk hb hd (fun σ => passAt tk σ) ha hdb he hpl
theorem walk_mm {l : PySem.W.OpenLaw} {n k nn : Nat} {q : Program} {loose : List Str} {XP : (Str → Option Value) → Heap → Prop} {chk : Chk} {fn : List He.DefD} {d : DefRec} {N : Nat} {m : List D → Option (D × List Int)} {rest : MS Dk}
    (hn : l.most = some n) (hn2 : n ≤ sizeLine) (hdf : d.params.defaults = []) (hname : d.name = "law") (hr : Room k callerA)
    (F : ∀ (w : World) (mg : Str → Option Value) (K : Fg) (h : Heap), K.In h → h.Ns mainGlobals mg → SaysM chk fn K → mg "law" = some (.ref (He.ga K "law")) ∧
      ∃ fd : FuncData, (∀ (s : Shared) (u : Value), BindsTo s fd ⟨[u], []⟩ [("_law_script", u)]) ∧ ∀ base : Heap, FnOk l.prog w K mg base (L2.CX l.prog w) k (He.ga K "law") fd ["_law_script"] (spLaw K N m rest))
    (good : ∀ ns : List Int, ns.length ≤ n → (∀ z ∈ ns, Builtin.Int.intBits z ≤ 1048576) → lawIs N m rest ns) :
    PySem.W.WalkO q loose XP (hookM nn chk fn).says l.row.toRowW d [] (fun f vs => PySem.call f vs) := by
  refine Att.attach_callB hn hdf fun w s₀ s₁ mg mb fa o pm cd doc a vs ns G Y ho hd hcd hmg hobj hints hlen hbits hg => ?_
  obtain ⟨K, KX, sm⟩ := Y
  obtain ⟨e1, fd, hb, hF⟩ := F w mg K _ KX G.T.g sm
  rw [hname, e1] at hmg
  injection hmg with hmg
  injection hmg with hmg
  subst hmg
  refine law_call KX G.T.g G.T.b G.T.builtins G.T.nolimit hg hobj hints (Nat.le_trans hlen hn2) hr (fun base _ _ => hF base) hb (fun H _ hS => ⟨a, ns, rfl, hS, good ns hlen hbits, fun _ => rfl⟩) fun H e s' => ?_
  rintro ⟨a, B, H', cls, dd, _, _, _, _, _, _, _, z⟩
  exact z
end MM

namespace MM
open PySem PySem.Spec PyProof.Rows L2
section
variable {τ : Type}
def oE {α : Type} (r : Res τ α) (Q : α → τ → Prop) (X : Str → Fds → τ → Prop) : Prop := match r with
  | .ok a t => Q a t
  | .ex n fs t => X n fs t
  | .bad => False
structure Pt (τ : Type) where
  nx : Rho → τ → Prop
  rt : D → τ → Prop
  ex : Str → Fds → Rho → τ → Prop := fun _ _ _ _ => False
  bk : Rho → τ → Prop := fun _ _ => False
  ct : Rho → τ → Prop := fun _ _ => False
def oS (r : Fl τ) (P : Pt τ) : Prop := match r with
  | .nx ρ t => P.nx ρ t
  | .rt d t => P.rt d t
  | .ex n fs ρ t => P.ex n fs ρ t
  | .bk ρ t => P.bk ρ t
  | .ct ρ t => P.ct ρ t
  | .bad => False
section
variable {α β γ δ : Type} {Q : α → τ → Prop} {X : Str → Fds → τ → Prop} {P : Pt τ}
@[simp] theorem oE_ok {a : α} {t : τ} : oE (.ok a t) Q X = Q a t := rfl
@[simp] theorem oE_ex {n : Str} {fs : Fds} {t : τ} : oE (α := α) (.ex n fs t) Q X = X n fs t := rfl
@[simp] theorem oE_bad : oE (α := α) .bad Q X = False := rfl
@[simp] theorem oE_bind {r : Res τ β} {k : β → τ → Res τ α} : oE (r.bind k) Q X = oE r (fun b t => oE (k b t) Q X) X := by cases r <;> rfl
@[simp] theorem oE_opt {o : Option α} {t : τ} : oE (opt o t) Q X = ∃ a, o = some a ∧ Q a t := by
  cases o with
  | none => simp [opt, oE]
  | some a => simp [opt, oE]
@[simp] theorem oE_ite {c : Prop} [Decidable c] {a b : Res τ α} : oE (if c then a else b) Q X = ((c → oE a Q X) ∧ (¬ c → oE b Q X)) := by
  by_cases h : c <;> simp [h]
theorem oE_imp {r : Res τ α} {Q' : α → τ → Prop} {X' : Str → Fds → τ → Prop} (h : oE r Q' X') (i : ∀ a t, Q' a t → Q a t) (ix : ∀ n fs t, X' n fs t → X n fs t) : oE r Q X := by
  cases r with
  | ok a t => exact i _ _ h
  | ex n fs t => exact ix _ _ _ h
  | bad => exact h
theorem oE_eq {r : Res τ α} {v : α} {u : τ} (h : oE r (fun a t => a = v ∧ t = u) (fun _ _ _ => False)) : r = .ok v u := by
  cases r with
  | ok a t => obtain ⟨rfl, rfl⟩ := h; rfl
  | ex n fs t => exact h.elim
  | bad => exact h.elim
theorem oE_ex' {r : Res τ α} (h : oE r Q (fun _ _ _ => False)) : ∃ a t, r = .ok a t ∧ Q a t := by
  cases r with
  | ok a t => exact ⟨a, t, rfl, h⟩
  | ex n fs t => exact h.elim
  | bad => exact h.elim
theorem oS_imp {r : Fl τ} {P' : Pt τ} (h : oS r P') (i1 : ∀ ρ t, P'.nx ρ t → P.nx ρ t) (i2 : ∀ d t, P'.rt d t → P.rt d t) (i3 : ∀ n fs ρ t, P'.ex n fs ρ t → P.ex n fs ρ t) (i4 : ∀ ρ t, P'.bk ρ t → P.bk ρ t) (i5 : ∀ ρ t, P'.ct ρ t → P.ct ρ t) : oS r P := by
  cases r with
  | nx => exact i1 _ _ h
  | rt => exact i2 _ _ h
  | ex => exact i3 _ _ _ _ h
  | bk => exact i4 _ _ h
  | ct => exact i5 _ _ h
  | bad => exact h
variable {ρ : Rho} {t : τ}
@[simp] theorem oE_var {i : Nat} {Q : D → τ → Prop} : oE (eVar i ρ t) Q X = (match ρ[i]? with | some (.val d) => Q d t | _ => False) := by
  unfold eVar; split <;> simp_all [oE]
@[simp] theorem oE_varW {i : Nat} {Q : D → τ → Prop} : oE (eVarW i ρ t) Q X = (match ρ[i]? with | some (.val d) => Q d t | some (.own xs) => Q (.lst xs) t | some (.dct ks xs) => Q (.dct ks xs) t | _ => False) := by
  unfold eVarW; split <;> simp_all [oE]
@[simp] theorem oE_c {d : D} {Q : D → τ → Prop} : oE (eC d ρ t) Q X = Q d t := rfl
@[simp] theorem oE_e1 {f : β → Option α} {a : ME τ β} : oE (e1 f a ρ t) Q X = oE (a ρ t) (fun d t => ∃ z, f d = some z ∧ Q z t) X := by unfold e1; simp
@[simp] theorem oE_e2 {f : β → γ → Option α} {a : ME τ β} {b : ME τ γ} : oE (e2 f a b ρ t) Q X = oE (a ρ t) (fun d t => oE (b ρ t) (fun e t => ∃ z, f d e = some z ∧ Q z t) X) X := by unfold e2; simp
@[simp] theorem oE_e3 {f : β → γ → δ → Option α} {a : ME τ β} {b : ME τ γ} {c : ME τ δ} : oE (e3 f a b c ρ t) Q X = oE (a ρ t) (fun d t => oE (b ρ t) (fun e t => oE (c ρ t) (fun g t => ∃ z, f d e g = some z ∧ Q z t) X) X) X := by unfold e3; simp
@[simp] theorem oE_not {a : ME τ Bool} {Q : Bool → τ → Prop} : oE (tNot1 a ρ t) Q X = oE (a ρ t) (fun b t => Q (!b) t) X := by unfold tNot1; simp
@[simp] theorem oE_and {a b : ME τ Bool} {Q : Bool → τ → Prop} : oE (tAnd2 a b ρ t) Q X = oE (a ρ t) (fun c t => (c = true → oE (b ρ t) Q X) ∧ (¬ c = true → Q false t)) X := by unfold tAnd2; simp
@[simp] theorem oE_or {a b : ME τ Bool} {Q : Bool → τ → Prop} : oE (tOr2 a b ρ t) Q X = oE (a ρ t) (fun c t => (c = true → Q true t) ∧ (¬ c = true → oE (b ρ t) Q X)) X := by unfold tOr2; simp
@[simp] theorem oE_andE {a b : ME τ D} {Q : D → τ → Prop} : oE (eAnd2 a b ρ t) Q X = oE (a ρ t) (fun d t => ∃ c, asB d = some c ∧ ((c = true → oE (b ρ t) Q X) ∧ (¬ c = true → Q (.bl false) t))) X := by unfold eAnd2; simp
@[simp] theorem oE_nil {Q : List α → τ → Prop} : oE (aNil ρ t) Q X = Q [] t := rfl
@[simp] theorem oE_cons {a : ME τ α} {b : ME τ (List α)} {Q : List α → τ → Prop} : oE (aCons a b ρ t) Q X = oE (a ρ t) (fun d t => oE (b ρ t) (fun ds t => Q (d :: ds) t) X) X := by unfold aCons; simp
@[simp] theorem oE_tup {a : ME τ (List D)} {Q : D → τ → Prop} : oE (eTup a ρ t) Q X = oE (a ρ t) (fun ds t => ds.length ≤ 16777216 ∧ Q (.tup ds) t) X := by
  unfold eTup; rw [oE_e1]; congr; funext ds t; unfold lim
  by_cases h : ds.length ≤ 16777216 <;> simp [h]
@[simp] theorem ex_lim {ds : List α} {Q : List α → Prop} : (∃ z, lim ds = some z ∧ Q z) ↔ ds.length ≤ 16777216 ∧ Q ds := by
  unfold lim
  by_cases h : ds.length ≤ 16777216 <;> simp [h]
@[simp] theorem oE_lst {a : ME τ (List D)} {Q : D → τ → Prop} : oE (eLst a ρ t) Q X = oE (a ρ t) (fun ds t => Q (.lst ds) t) X := by unfold eLst; simp
@[simp] theorem oE_call {m : List D → Unit → Res Unit D} {df : List D} {a : ME τ (List D)} {Q : D → τ → Prop} : oE (eCall m df a ρ t) Q X = oE (a ρ t) (fun ds t => oE (m (ds ++ df) ()) (fun d _ => Q d t) (fun n fs _ => X n fs t)) X := by
  unfold eCall; rw [oE_bind]; congr; funext ds t
  cases m (ds ++ df) () <;> rfl
@[simp] theorem oE_callS {m : List D → τ → Res τ D} {df : List D} {a : ME τ (List D)} {Q : D → τ → Prop} : oE (eCallS m df a ρ t) Q X = oE (a ρ t) (fun ds t => oE (m (ds ++ df) t) Q X) X := by unfold eCallS; simp
@[simp] theorem oE_oNone {Q : Option Int → τ → Prop} : oE (oNone ρ t) Q X = Q none t := rfl
@[simp] theorem oE_oSome {a : ME τ D} {Q : Option Int → τ → Prop} : oE (oSome a ρ t) Q X = oE (a ρ t) (fun d t => ∃ i, d = .int i ∧ Q (some i) t) X := by
  unfold oSome; rw [oE_e1]; congr; funext d t
  cases d <;> simp
@[simp] theorem aVar_eq {i : Nat} : aVar i ρ = (match ρ[i]? with | some (.val d) => some d | _ => none) := rfl
@[simp] theorem keyOf_int {i : Int} : keyOf (.int i) = some (.inl i) := rfl
@[simp] theorem keyOf_str {i : Str} : keyOf (.str i) = some (.inr i) := rfl
@[simp] theorem oE_run {n : Nat} {b : MS τ} {ds : List D} {Q : D → τ → Prop} : oE (runB n b ds t) Q X = oS (b (ds.map Slot.val ++ List.replicate (n - ds.length) .no) t) { nx := fun _ t => Q .non t, rt := Q, ex := fun n fs _ t => X n fs t } := by
  unfold runB; cases b (ds.map Slot.val ++ List.replicate (n - ds.length) .no) t <;> rfl
@[simp] theorem oS_nx : oS (.nx ρ t) P = P.nx ρ t := rfl
@[simp] theorem oS_rt {d : D} : oS (.rt d t) P = P.rt d t := rfl
@[simp] theorem oS_bk : oS (.bk ρ t) P = P.bk ρ t := rfl
@[simp] theorem oS_ct : oS (.ct ρ t) P = P.ct ρ t := rfl
@[simp] theorem oS_ex {n : Str} {fs : Fds} : oS (.ex n fs ρ t) P = P.ex n fs ρ t := rfl
@[simp] theorem oS_bad : oS .bad P = False := rfl
@[simp] theorem oS_ite {c : Prop} [Decidable c] {a b : Fl τ} : oS (if c then a else b) P = ((c → oS a P) ∧ (¬ c → oS b P)) := by
  by_cases h : c <;> simp [h]
def Nxt (b : MS τ) (ρ : Rho) (t : τ) (P : Pt τ) : Prop := oS (b ρ t) P
@[simp] theorem oS_seq {a b : MS τ} : oS (sSeq a b ρ t) P = oS (a ρ t) { P with nx := fun ρ t => Nxt b ρ t P } := by
  unfold sSeq Nxt; cases a ρ t <;> rfl
@[simp] theorem oS_skip : oS (sSkip ρ t) P = P.nx ρ t := rfl
theorem oS_do {m : ME τ α} {k : α → Rho → τ → Fl τ} : oS (sDo m k ρ t) P = oE (m ρ t) (fun a t => oS (k a ρ t) P) (fun n fs t => P.ex n fs ρ t) := by
  unfold sDo; cases m ρ t <;> rfl
@[simp] theorem oS_asg {i : Nat} {m : ME τ D} : oS (sAsg (gN i) m ρ t) P = oE (m ρ t) (fun d t => P.nx (ρ.set i (.val d)) t) (fun n fs t => P.ex n fs ρ t) := by
  unfold sAsg; rw [oS_do]; rfl
@[simp] theorem oS_asgT {gs : Tgts} {m : ME τ D} : oS (sAsg (gT gs) m ρ t) P = oE (m ρ t) (fun d t => ∃ ρ', gT gs ρ d = some ρ' ∧ P.nx ρ' t) (fun n fs t => P.ex n fs ρ t) := by
  unfold sAsg; rw [oS_do]; congr; funext d t
  cases gT gs ρ d <;> simp
@[simp] theorem gNil_eq : gNil ρ [] = some ρ := rfl
@[simp] theorem gCons_eq {g : Tgt} {gs : Tgts} {d : D} {ds : List D} : gCons g gs ρ (d :: ds) = (g ρ d).bind fun ρ' => gs ρ' ds := rfl
@[simp] theorem gN_eq {i : Nat} {d : D} : gN i ρ d = some (ρ.set i (.val d)) := rfl
@[simp] theorem gT_tup {gs : Tgts} {ds : List D} : gT gs ρ (.tup ds) = gs ρ ds := rfl
@[simp] theorem oS_app {i : Nat} {m : ME τ D} : oS (sApp i m ρ t) P = (match ρ[i]? with | some (.own xs) => oE (m ρ t) (fun d t => xs.length < 16777216 ∧ P.nx (ρ.set i (.own (xs ++ [d]))) t) (fun n fs t => P.ex n fs ρ t) | _ => False) := by
  have key : ∀ o : Option Slot, oS ((match o with
      | some (.own xs) => sDo m (fun d ρ t => if xs.length < 16777216 then .nx (ρ.set i (.own (xs ++ [d]))) t else .bad) ρ t
      | _ => .bad) : Fl τ) P = (match o with | some (.own xs) => oE (m ρ t) (fun d t => xs.length < 16777216 ∧ P.nx (ρ.set i (.own (xs ++ [d]))) t) (fun n fs t => P.ex n fs ρ t) | _ => False) := fun o => by
    cases o with
    | none => rfl
    | some s =>
      cases s with
      | no => rfl
      | val d => rfl
      | dct _ _ => rfl
      | own xs =>
        dsimp only
        rw [oS_do]
        congr; funext d t
        by_cases h : xs.length < 16777216 <;> simp [h]
  exact key (ρ[i]?)
@[simp] theorem oS_own {i : Nat} {m : ME τ (List D)} : oS (sOwn i m ρ t) P = oE (m ρ t) (fun ds t => P.nx (ρ.set i (.own ds)) t) (fun n fs t => P.ex n fs ρ t) := by
  unfold sOwn; rw [oS_do]; rfl
@[simp] theorem oS_frz {i : Nat} {m : MS τ} : oS (sFrz i m ρ t) P = (match ρ[i]? with | some (.own xs) => oS (m (ρ.set i (.val (.lst xs))) t) P | some (.dct ks xs) => oS (m (ρ.set i (.val (.dct ks xs))) t) P | _ => oS (m ρ t) P) := by
  unfold sFrz; split <;> simp_all
@[simp] theorem oS_ret {m : ME τ D} : oS (sRet m ρ t) P = oE (m ρ t) P.rt (fun n fs t => P.ex n fs ρ t) := by
  unfold sRet; rw [oS_do]; rfl
@[simp] theorem oS_if {c : ME τ Bool} {a b : MS τ} : oS (sIf c a b ρ t) P = oE (c ρ t) (fun k t => (k = true → oS (a ρ t) P) ∧ (¬ k = true → oS (b ρ t) P)) (fun n fs t => P.ex n fs ρ t) := by
  unfold sIf; rw [oS_do]; simp
@[simp] theorem oS_par {i j : Nat} {a b : ME τ D} : oS (sPar i j a b ρ t) P = oE (a ρ t) (fun d t => oE (b ρ t) (fun e t => P.nx ((ρ.set i (.val d)).set j (.val e)) t) (fun n fs t => P.ex n fs ρ t)) (fun n fs t => P.ex n fs ρ t) := by
  unfold sPar; rw [oS_do]; simp
@[simp] theorem oS_for {m : ME τ (List D)} {g : Tgt} {b : MS τ} : oS (sFor m g b ρ t) P = oE (m ρ t) (fun ds t => oS (loopF g b ds ρ t) P) (fun n fs t => P.ex n fs ρ t) := by
  unfold sFor; rw [oS_do]
theorem oS_loop_cons {g : Tgt} {b : MS τ} {d : D} {ds : List D} : oS (loopF g b (d :: ds) ρ t) P = ∃ ρ1, g ρ d = some ρ1 ∧ oS (b ρ1 t) { P with nx := fun ρ t => oS (loopF g b ds ρ t) P, ct := fun ρ t => oS (loopF g b ds ρ t) P, bk := P.nx } := by
  rw [show loopF g b (d :: ds) = fun ρ t => match g ρ d with
    | some ρ1 => (match b ρ1 t with
      | .nx ρ' t' => loopF g b ds ρ' t'
      | .ct ρ' t' => loopF g b ds ρ' t'
      | .bk ρ' t' => .nx ρ' t'
      | r => r)
    | none => .bad from rfl]
  cases e : g ρ d with
  | none => simp [e]
  | some ρ1 =>
    simp only [e, Option.some.injEq, exists_eq_left']
    cases e2 : b ρ1 t <;> simp
theorem oS_rtEx {r : Fl τ} {R : D → τ → Prop} (h : oS r { nx := fun _ _ => False, rt := R }) : ∃ d t, r = .rt d t ∧ R d t := by
  cases r with
  | rt d t => exact ⟨d, t, rfl, h⟩
  | _ => exact h.elim
theorem compL_ok {g : Tgt} {tt : ME Unit Bool} {te : ME Unit D} {ρ : Rho} {p : D → Prop} : ∀ ds : List D, (∀ d ∈ ds, ∃ ρ1, g ρ d = some ρ1 ∧ ∃ b, tt ρ1 () = .ok b () ∧ (b = true → ∃ y, te ρ1 () = .ok y () ∧ p y)) →
    ∃ ys, compL g tt te ρ ds () = .ok ys () ∧ ∀ y ∈ ys, p y
  | [], _ => ⟨[], rfl, fun y h => by cases h⟩
  | d :: ds, h => by
    obtain ⟨ρ1, e1, b, e2, h3⟩ := h d List.mem_cons_self
    obtain ⟨ys, e4, h4⟩ := compL_ok (p := p) ds fun d hd => h d (List.mem_cons_of_mem _ hd)
    unfold compL
    rw [e1]
    dsimp only
    rw [e2]
    cases b with
    | false => exact ⟨ys, e4, h4⟩
    | true =>
      obtain ⟨y, e5, h5⟩ := h3 rfl
      refine ⟨y :: ys, ?_, fun z hz => by rcases List.mem_cons.mp hz with rfl | hz; exact h5; exact h4 z hz⟩
      simp [noEx, e5, e4]
theorem intsD_all : ∀ ys : List D, (∀ y ∈ ys, ∃ i, y = .int i) → ∃ l, intsD ys = some l
  | [], _ => ⟨[], rfl⟩
  | y :: ys, h => by
    obtain ⟨i, rfl⟩ := h y List.mem_cons_self
    obtain ⟨l, e⟩ := intsD_all ys fun y hy => h y (List.mem_cons_of_mem _ hy)
    exact ⟨i :: l, by show (intsD ys).map (i :: ·) = _; rw [e]; rfl⟩
theorem oS_loop {g : Tgt} {b : MS τ} (I : List D → Rho → τ → Prop) : ∀ (ds : List D) (ρ : Rho) (t : τ), I ds ρ t →
    (∀ d ds ρ t, I (d :: ds) ρ t → ∃ ρ1, g ρ d = some ρ1 ∧ oS (b ρ1 t) { P with nx := I ds, ct := I ds, bk := P.nx }) → (∀ ρ t, I [] ρ t → P.nx ρ t) → oS (loopF g b ds ρ t) P
  | [], ρ, t, h, _, hn => hn ρ t h
  | d :: ds, ρ, t, h, hs, hn => by
    rw [oS_loop_cons]
    obtain ⟨ρ1, e, h1⟩ := hs d ds ρ t h
    exact ⟨ρ1, e, oS_imp h1 (fun ρ t h => oS_loop I ds ρ t h hs hn) (fun _ _ h => h) (fun _ _ _ _ h => h) (fun _ _ h => h) (fun ρ t h => oS_loop I ds ρ t h hs hn)⟩
theorem oS_while [Sto τ] {c : ME τ Bool} {b : MS τ} (I : Nat → Rho → τ → Prop) (hs : ∀ n ρ t, I n ρ t → oE (c ρ t) (fun k t => (k = true → oS (b ρ t) { P with nx := fun ρ t => ∃ m, m < n ∧ I m ρ t, ct := fun ρ t => ∃ m, m < n ∧ I m ρ t, bk := P.nx }) ∧ (¬ k = true → P.nx ρ t)) (fun n fs t => P.ex n fs ρ t)) :
    ∀ (n : Nat) (ρ : Rho) (t : τ), I n ρ t → oS (sWhile c b ρ t) P := by
  intro n
  induction n using Nat.strongRecOn with
  | _ n ih =>
    intro ρ t h
    rw [sWhile_turn, oS_do]
    refine oE_imp (hs n ρ t h) (fun k t1 h1 => ?_) fun _ _ _ h => h
    rw [oS_ite]
    refine ⟨fun hk => ?_, fun hk => h1.2 hk⟩
    have h2 := h1.1 hk
    cases e : b ρ t1 <;> rw [e] at h2
    · obtain ⟨m, hm, h3⟩ := h2; exact ih m hm _ _ h3
    · exact h2
    · exact h2
    · obtain ⟨m, hm, h3⟩ := h2; exact ih m hm _ _ h3
    · exact h2
    · exact h2
end
end
section
variable {Q : D → Dk → Prop} {X : Str → Fds → Dk → Prop} {P : Pt Dk} {ρ : Rho} {t : Dk} {i j : Nat} {m : ME Dk D}
@[simp] theorem isDk_eq : isDk i ρ t = (match ρ[i]? with | some (.val (.at a)) => decide (a = t.a) | _ => false) := rfl
@[simp] theorem oE_dk0 : oE (eDk i 0 ρ t) Q X = (isDk i ρ t = true ∧ Q t.scr t) := by unfold eDk; by_cases h : isDk i ρ t = true <;> simp only [h, if_true, if_false, true_and, false_and, oE_ok, oE_bad, Bool.false_eq_true]
@[simp] theorem oE_dk2 : oE (eDk i 2 ρ t) Q X = (isDk i ρ t = true ∧ Q (.int t.pos) t) := by unfold eDk; by_cases h : isDk i ρ t = true <;> simp only [h, if_true, if_false, true_and, false_and, oE_ok, oE_bad, Bool.false_eq_true]
@[simp] theorem oE_dk3 : oE (eDk i 3 ρ t) Q X = (isDk i ρ t = true ∧ Q (.int t.cnt) t) := by unfold eDk; by_cases h : isDk i ρ t = true <;> simp only [h, if_true, if_false, true_and, false_and, oE_ok, oE_bad, Bool.false_eq_true]
@[simp] theorem oE_dkLen : oE (eDkLen i ρ t) Q X = (isDk i ρ t = true ∧ Q (.int (t.big.length : Nat)) t) := by unfold eDkLen; by_cases h : isDk i ρ t = true <;> simp only [h, if_true, if_false, true_and, false_and, oE_ok, oE_bad, Bool.false_eq_true]
@[simp] theorem oE_dkAt : oE (eDkAt i ρ t) Q X = (isDk i ρ t = true ∧ ∃ c, t.big[t.pos]? = some c ∧ Q (.int c) t) := by
  unfold eDkAt
  by_cases h : isDk i ρ t = true
  · simp only [h, if_true, true_and]
    cases e : t.big[t.pos]? <;> simp
  · simp only [h, if_false, false_and, oE_bad, Bool.false_eq_true]
@[simp] theorem oS_dkBig : oS (sDkBig i m ρ t) P = oE (m ρ t) (fun d t => ∃ c, d = .int c ∧ isDk i ρ t = true ∧ t.pos < t.big.length ∧ P.nx ρ { t with big := t.big.set t.pos c }) (fun n fs t => P.ex n fs ρ t) := by
  unfold sDkBig; rw [oS_do]; congr; funext d t
  cases d <;> simp only [oS_bad, reduceCtorEq, false_and, exists_false, D.int.injEq, exists_eq_left']
  rename_i c
  by_cases h : isDk i ρ t = true ∧ t.pos < t.big.length
  · rw [if_pos h]; simp only [oS_nx, h.1, h.2, true_and]
  · rw [if_neg h]; simp only [oS_bad]; exact (propext ⟨fun z => z.elim, fun z => h ⟨z.1, z.2.1⟩⟩)
@[simp] theorem oS_dkSet2 : oS (sDkSet i 2 m ρ t) P = oE (m ρ t) (fun d t => ∃ c, d = .int c ∧ isDk i ρ t = true ∧ 0 ≤ c ∧ P.nx ρ { t with pos := c.toNat }) (fun n fs t => P.ex n fs ρ t) := by
  unfold sDkSet; rw [oS_do]; congr; funext d t
  cases d <;> simp only [oS_bad, reduceCtorEq, false_and, exists_false, D.int.injEq, exists_eq_left']
  rename_i c
  by_cases h : isDk i ρ t = true ∧ 0 ≤ c
  · rw [if_pos h]; simp only [oS_nx, h.1, h.2, true_and]
  · rw [if_neg h]; simp only [oS_bad]; exact (propext ⟨fun z => z.elim, fun z => h ⟨z.1, z.2.1⟩⟩)
@[simp] theorem oS_dkSet3 : oS (sDkSet i 3 m ρ t) P = oE (m ρ t) (fun d t => ∃ c, d = .int c ∧ isDk i ρ t = true ∧ 0 ≤ c ∧ P.nx ρ { t with cnt := c.toNat }) (fun n fs t => P.ex n fs ρ t) := by
  unfold sDkSet; rw [oS_do]; congr; funext d t
  cases d <;> simp only [oS_bad, reduceCtorEq, false_and, exists_false, D.int.injEq, exists_eq_left']
  rename_i c
  by_cases h : isDk i ρ t = true ∧ 0 ≤ c
  · rw [if_pos h]; simp only [oS_nx, h.1, h.2, true_and]
  · rw [if_neg h]; simp only [oS_bad]; exact (propext ⟨fun z => z.elim, fun z => h ⟨z.1, z.2.1⟩⟩)
end
@[simp] theorem asB_bl {b : Bool} : asB (.bl b) = some b := rfl
@[simp] theorem dLt_int {i j : Int} : dLt (.int i) (.int j) = some (.bl (decide (i < j))) := rfl
@[simp] theorem dGt_int {i j : Int} : dGt (.int i) (.int j) = some (.bl (decide (j < i))) := rfl
@[simp] theorem dGe_int {i j : Int} : dGe (.int i) (.int j) = some (.bl (decide (j ≤ i))) := rfl
@[simp] theorem dAdd_int {i j : Int} : dAdd (.int i) (.int j) = some (.int (i + j)) := rfl
@[simp] theorem dSub_int {i j : Int} : dSub (.int i) (.int j) = some (.int (i - j)) := rfl
@[simp] theorem ex_asc {α : Sort _} {a : α} {c : Prop} {Q : α → Prop} : (∃ z, (z = a ∧ c) ∧ Q z) ↔ c ∧ Q a := ⟨fun ⟨z, ⟨e, hc⟩, q⟩ => ⟨hc, e ▸ q⟩, fun ⟨hc, q⟩ => ⟨a, ⟨rfl, hc⟩, q⟩⟩
@[simp] theorem ex_asc0 {α : Sort _} {a : α} {c : Prop} : (∃ z, z = a ∧ c) ↔ c := ⟨fun ⟨z, _, hc⟩ => hc, fun hc => ⟨a, rfl, hc⟩⟩
@[simp] theorem dMul_some {i j : Int} {z : D} : (dMulI (.int i) (.int j) = some z) = (z = .int (i * j) ∧ mulOk i j = true) := by
  unfold dMulI; by_cases h : mulOk i j = true <;> simp [h, eq_comm]
@[simp] theorem dDiv_some {i j : Int} {z : D} : (dDiv (.int i) (.int j) = some z) = (z = .int (i.fdiv j) ∧ divOk i j = true) := by
  unfold dDiv; by_cases h : divOk i j = true <;> simp [h, eq_comm]
@[simp] theorem dMod_some {i j : Int} {z : D} : (dMod (.int i) (.int j) = some z) = (z = .int (i.fmod j) ∧ j ≠ 0) := by
  unfold dMod modOk; by_cases h : j ≠ 0 <;> simp [h, eq_comm]
@[simp] theorem dPow_some {i j : Int} {z : D} : (dPow (.int i) (.int j) = some z) = (z = .int (i ^ j.toNat) ∧ powOk i j = true) := by
  unfold dPow; by_cases h : powOk i j = true <;> simp [h, eq_comm]
@[simp] theorem ex_addL {xs ys : List D} {Q : D → Prop} : (∃ z, dAdd (.lst xs) (.lst ys) = some z ∧ Q z) ↔ xs.length + ys.length ≤ 16777216 ∧ Q (.lst (xs ++ ys)) := by
  unfold dAdd lim2; by_cases h : xs.length + ys.length ≤ 16777216 <;> simp [h]
@[simp] theorem ex_addT {xs ys : List D} {Q : D → Prop} : (∃ z, dAdd (.tup xs) (.tup ys) = some z ∧ Q z) ↔ xs.length + ys.length ≤ 16777216 ∧ Q (.tup (xs ++ ys)) := by
  unfold dAdd lim2; by_cases h : xs.length + ys.length ≤ 16777216 <;> simp [h]
@[simp] theorem ex_strI {i : Int} {Q : D → Prop} : (∃ z, fStrI [.int i] = some z ∧ Q z) ↔ i.natAbs.log2 < 1920 ∧ Q (.str (strOf i)) := by
  unfold fStrI; by_cases h : i.natAbs.log2 < 1920 <;> simp [h]
theorem rng_red {j : Int} {Q : List D → Prop} : (∃ z, (if -(2 ^ 62) ≤ j ∧ j < 2 ^ 62 then some (rngD 0 j.toNat) else none) = some z ∧ Q z) ↔ (-(2 ^ 62) ≤ j ∧ j < 2 ^ 62) ∧ Q (rngD 0 j.toNat) := by
  generalize (2 : Int) ^ 62 = P
  by_cases h : -P ≤ j ∧ j < P
  · rw [if_pos h]; exact ⟨fun ⟨z, e, q⟩ => ⟨h, by cases e; exact q⟩, fun q => ⟨_, rfl, q.2⟩⟩
  · rw [if_neg h]; exact ⟨fun ⟨z, e, q⟩ => (by cases e), fun q => absurd q.1 h⟩
@[simp] theorem ex_rng {j : Int} {Q : List D → Prop} : (∃ z, fRng1 [.int j] = some z ∧ Q z) ↔ (-4611686018427387904 ≤ j ∧ j < 4611686018427387904) ∧ Q (rngD 0 j.toNat) := rng_red
@[simp] theorem dNeg_int {i : Int} : dNeg (.int i) = some (.int (-i)) := rfl
theorem abs_if (i : Int) : (if i < 0 then -i else i) = (i.natAbs : Int) := by split <;> omega
@[simp] theorem fAbs_int {i : Int} : fAbs [.int i] = some (.int (i.natAbs : Int)) := by show some (D.int (if i < 0 then -i else i)) = _; rw [abs_if]
@[simp] theorem fLen_lst {xs : List D} : fLen [.lst xs] = some (.int (xs.length : Nat)) := rfl
@[simp] theorem fLen_tup {xs : List D} : fLen [.tup xs] = some (.int (xs.length : Nat)) := rfl
@[simp] theorem fLen_scr {xs : List Int} : fLen [.scr xs] = some (.int (xs.length : Nat)) := rfl
@[simp] theorem dIx_lst {xs : List D} {i : Int} : dIx (.lst xs) (.int i) = atI xs i := rfl
@[simp] theorem dIx_tup {xs : List D} {i : Int} : dIx (.tup xs) (.int i) = atI xs i := rfl
@[simp] theorem dIx_scr {xs : List Int} {i : Int} : dIx (.scr xs) (.int i) = (atI xs i).map .int := rfl
@[simp] theorem itD_lst {xs : List D} : itD (.lst xs) = some xs := rfl
@[simp] theorem itD_tup {xs : List D} : itD (.tup xs) = some xs := rfl
@[simp] theorem itD_scr {xs : List Int} : itD (.scr xs) = some (xs.map .int) := rfl
@[simp] theorem truth_bl {b : Bool} : truth (.bl b) = some b := rfl
@[simp] theorem truth_int {i : Int} : truth (.int i) = some (i != 0) := rfl
theorem eqD_int {i j : Int} : eqD (.int i) (.int j) = some (decide (i = j)) := by
  simp [eqD, py, SeqAt.shaped, PyData.canLay0, PyData.depth, PyData.eqv]
  rfl
@[simp] theorem dEq_int {i j : Int} : dEq (.int i) (.int j) = some (.bl (decide (i = j))) := by unfold dEq; rw [eqD_int]; rfl
theorem eqD_pair {i j k l : Int} : eqD (.tup [.int i, .int j]) (.tup [.int k, .int l]) = some (decide (i = k) && decide (j = l)) := by
  simp [eqD, py, pys, SeqAt.shaped, PyData.canLay0, PyData.canLayAll0, PyData.depth, PyData.depthAll, PyData.eqv, PyData.eqvAll]
  rfl
@[simp] theorem dEq_pair {i j k l : Int} : dEq (.tup [.int i, .int j]) (.tup [.int k, .int l]) = some (.bl (decide (i = k) && decide (j = l))) := by unfold dEq; rw [eqD_pair]; rfl
theorem eqD_bl {i j : Bool} : eqD (.bl i) (.bl j) = some (i == j) := by
  simp [eqD, py, SeqAt.shaped, PyData.canLay0, PyData.depth, PyData.eqv]
@[simp] theorem dEq_bl {i j : Bool} : dEq (.bl i) (.bl j) = some (.bl (i == j)) := by unfold dEq; rw [eqD_bl]; rfl
theorem small_mul {i j : Int} {a b : Nat} (h1 : i.natAbs < 2 ^ a) (h2 : j.natAbs < 2 ^ b) (ha : 0 < a) (hb : 0 < b) (h : a + b ≤ 1000000) : mulOk i j = true := by
  have x := PySem.Flt.log2_lt_of ha h1
  have y := PySem.Flt.log2_lt_of hb h2
  unfold mulOk
  exact decide_eq_true (by omega)
theorem small_div {i j : Int} {b : Nat} (h : j ≠ 0) (h2 : j.natAbs < 2 ^ b) (hb : 0 < b) (h9 : b ≤ 9000) : divOk i j = true := by
  have y := PySem.Flt.log2_lt_of hb h2
  unfold divOk
  exact decide_eq_true ⟨h, by omega⟩
end MM

namespace MM
open PySem PySem.Spec PyProof.Rows L2
section
variable {prog : Program} {w : World} {A : Around} {E : Value → Shared → Prop} {s : Shared}
end
def endV (xs : List V) (i n : Nat) : List V := (xs.drop i).drop (xs.length + 1 - n)
section
variable {X : Cx} {W : WX} {τ : Type} [Sto τ] {K : Fg}
theorem Reps.fin {F : Fp} {H : Hp} {xs : List V} {ds : List D} (r : Reps K F H xs ds) (i n : Nat) : Reps K F H (endV xs i n) ((ds.drop i).drop (ds.length + 1 - n)) := by
  unfold endV; rw [r.length]; exact (r.drop i).drop _
end
end MM

namespace MM
open PySem PySem.Spec PyProof.Rows L2 RZ
section
variable {X : Cx} {W : WX} {τ : Type} [Sto τ] {K : Fg}
def enumD (ds : List D) : List D := ds.mapIdx fun i d => .tup [.int (i : Nat), d]
def fEnum : List D → Option (List D)
  | [.lst ds] => some (enumD ds)
  | _ => none
theorem rIt_enum {I : Fp → Hp → Prop} {F0 F : Fp} {H H' : Hp} {a : Addr} {vs : List V} {ds : List D} (hl : LstF K F H' a vs) (r : Reps K F H' vs ds) : rIt K I F0 F H H' (Ite K a) (enumD ds) := by
  have w : Walk (Ite K a) (enumD ds).length (fun H => SqL K H a vs) (YPair (fun i => some (.int (i : Nat))) (fun i => vs[i]?)) := by
    rw [show (enumD ds).length = vs.length by unfold enumD; rw [List.length_mapIdx, r.length]]
    exact walk_enum
  refine ⟨_, _, w, fun H2 s => (hl.step ⟨s, fun _ z => .inl z⟩).sq, fun Fc i H2 x H3 hi s dm y => ?_⟩
  obtain ⟨T, x0, y0, rfl, nT, rfl, e1, e2⟩ := y
  cases e1
  obtain ⟨d, ed, q⟩ := (r.step s).getV e2
  exact ⟨same_upd nT, .tup [.int (i : Nat), d], by unfold enumD; rw [List.getElem?_mapIdx, ed]; rfl, Rep.newTup (.cons (.int _) (.cons q .nil)) dm nT⟩
theorem mi_enum {e : Expr} {p pos tpos : Pos} {elts : List Expr} {kk : Nat} {m : ME τ (List D)} (hg : Gl X "enumerate") (hm : X.mg "enumerate" = none) (ha : PA X [e] (tA X.K W m)) (hs : starEach [e] X.env = [(false, eval e X.env)] := by rfl) :
    PI X (.Tuple elts kk tpos) (.Call (.Name "enumerate" p) [e] [] pos) (tI X.K W (e1 fEnum m)) := PI.imp (pi_enum hg hm ha hs) fun σ H R ⟨C, ρ, t, A, p⟩ => by
  refine use okI A p fun d t1 v H1 e1 s1 A1 r1 p1 => ?_
  unfold fEnum at p1
  split at p1
  · cases r1 with
    | cons r1 r2 =>
      cases r2
      cases r1 with
      | lst hl rs => exact ⟨_, _, rfl, hl.sq, p1 _ H1 (Sm.refl _ _) A1.st (rIt_enum hl rs)⟩
  · exact p1.elim
def zipD (xs ys : List D) : List D := List.zipWith (fun x y => .tup [x, y]) xs ys
theorem zip_get {xs ys : List D} {i : Nat} {d e : D} (h1 : xs[i]? = some d) (h2 : ys[i]? = some e) : (zipD xs ys)[i]? = some (.tup [d, e]) := by
  unfold zipD
  rw [List.getElem?_zipWith, h1, h2]
def fIntA : List D → Option D
  | [.int i] => some (.int i)
  | [.bl b] => some (.int (if b then 1 else 0))
  | [.str x] => fIntS [.str x]
  | _ => none
def rIntA : List V → Hp → VK → Prop := fun xs H Q => ((∃ i, xs = [.int i] ∧ Q (.int i) H) ∨ ∃ k, xs = [.bl k] ∧ Q (.int (if k then 1 else 0)) H) ∨ rIntS xs H Q
theorem call_intA (e : NoLim X.K) : CallR X (.type "int") rIntA := by
  intro pins s σ H xs us Q I rs h
  rcases h with h | h
  · exact call_int1 pins s σ H xs us Q I rs h
  · exact call_intS e pins s σ H xs us Q I rs h
theorem c_intA : DCall K rIntA fIntA := fun F0 F H xs ds z Q dm r q k => by
  unfold fIntA at q
  split at q
  · cases q
    obtain ⟨v, rfl, r1⟩ := r.one
    exact .inl (.inl ⟨_, by rw [r1.intOf], k _ _ (Same.refl H) (.int _)⟩)
  · cases q
    obtain ⟨v, rfl, r1⟩ := r.one
    exact .inl (.inr ⟨_, by rw [r1.blOf], k _ _ (Same.refl H) (.int _)⟩)
  · exact .inr (c_intS F0 F H xs _ z Q dm r q k)
  · cases q
end
@[simp] theorem fEnum_lst {ds : List D} : fEnum [.lst ds] = some (enumD ds) := rfl
@[simp] theorem fIntA_int {i : Int} : fIntA [.int i] = some (.int i) := rfl
@[simp] theorem fIntA_bl {b : Bool} : fIntA [.bl b] = some (.int (if b then 1 else 0)) := rfl
@[simp] theorem fIntA_str {x : Str} : fIntA [.str x] = fIntS [.str x] := rfl
end MM

namespace MM
open PySem PySem.Spec PyProof.Rows L2
section
variable {K : Fg} {F F2 : Fp} {H : Hp}
def looseB : HO → Bool
  | .lst _ => true
  | .dK _ => true
  | .dT _ => true
  | .ext _ => true
  | _ => false
theorem OwnR.loose {K : Fg} {F : Fp} {H : Hp} {a : Addr} {u : HO} {x : Slot} (r : OwnR K F H a u x) : looseB u = true := by
  cases r with
  | lst _ => rfl
  | dct r => cases r <;> rfl
end
section
variable {X : Cx} {W : WX} {τ : Type} [Sto τ] {K : Fg}
end
section
variable {τ : Type} {ρ : Rho} {t : τ} {X : Str → Fds → τ → Prop}
end
end MM

namespace MM
open PySem PySem.Spec PyProof.Rows L2
section
variable {X : Cx} {W : WX} {τ : Type} [Sto τ] {K : Fg}
theorem PK.imp {e : List Keyword} {t t' : TA} (h : PK X e t) (i : ∀ σ H Q, t' σ H Q → t σ H Q) : PK X e t' := ⟨fun pos pins s σ H Q I q => h.run pos pins s σ H Q I (i σ H Q q)⟩
end
section
variable {τ : Type} {ρ : Rho} {t : τ} {Q : List D → τ → Prop} {X : Str → Fds → τ → Prop} {g : Tgt} {tt : ME τ Bool} {te : ME τ D}
def Slot.nown : Slot → Bool
  | .own _ => false
  | .dct .. => false
  | _ => true
@[simp] theorem nown_no : Slot.nown .no = true := rfl
@[simp] theorem nown_val {d : D} : Slot.nown (.val d) = true := rfl
@[simp] theorem wipeR_nil : wipeR ρ [] = ρ := rfl
@[simp] theorem wipeR_cons {u : Nat} {us : List Nat} : wipeR ρ (u :: us) = (wipeR ρ us).set u .no := rfl
@[simp] theorem noOwn_nil : noOwn ρ [] = true := rfl
@[simp] theorem noOwn_cons {u : Nat} {us : List Nat} : noOwn ρ (u :: us) = ((match ρ[u]? with | some s => s.nown | none => true) && noOwn ρ us) := by
  unfold noOwn
  rw [List.all_cons]
  congr 1
  cases ρ[u]? with
  | none => rfl
  | some s => cases s <;> rfl
@[simp] theorem oE_noEx {α : Type} {r : Res τ α} {Q : α → τ → Prop} : oE (noEx r) Q X = oE r Q (fun _ _ _ => False) := by cases r <;> rfl
@[simp] theorem oE_comp {mi : ME τ (List D)} {vs : List Nat} : oE (eComp mi vs g tt te ρ t) Q X = oE (mi ρ t) (fun ds t => (ds.length ≤ 16777216 ∧ noOwn ρ vs = true) ∧ oE (compL g tt te (wipeR ρ vs) ds t) Q X) X := by
  unfold eComp; rw [oE_bind]; congr; funext ds t
  by_cases h : ds.length ≤ 16777216 ∧ noOwn ρ vs = true
  · rw [if_pos h]; simp only [h, and_self, true_and]
  · rw [if_neg h]; simp only [oE_bad, h, false_and]
theorem oE_compCons {d : D} {ds : List D} : oE (compL g tt te ρ (d :: ds) t) Q X = ∃ ρ1, g ρ d = some ρ1 ∧ oE (tt ρ1 t) (fun b t => (b = true → oE (te ρ1 t) (fun y t => oE (compL g tt te ρ ds t) (fun ys t => Q (y :: ys) t) X) (fun _ _ _ => False)) ∧ (¬ b = true → oE (compL g tt te ρ ds t) Q X)) (fun _ _ _ => False) := by
  rw [show compL g tt te ρ (d :: ds) t = (match g ρ d with
    | some ρ1 => (noEx (tt ρ1 t)).bind fun b t => if b = true then (noEx (te ρ1 t)).bind fun y t => (compL g tt te ρ ds t).bind fun ys t => .ok (y :: ys) t else compL g tt te ρ ds t
    | none => .bad) from rfl]
  cases e : g ρ d with
  | none => simp
  | some ρ1 =>
    simp only [Option.some.injEq, exists_eq_left']
    cases tt ρ1 t with
    | ok b t1 =>
      simp only [noEx, Res.bind_ok, oE_ite, oE_ok]
      cases te ρ1 t1 with
      | ok y t2 => simp
      | ex n fs t2 => simp
      | bad => simp
    | ex n fs t1 => rfl
    | bad => rfl
@[simp] theorem fTup_lst {ds : List D} : fTup [.lst ds] = some (.tup ds) := rfl
@[simp] theorem fTup_tup {ds : List D} : fTup [.tup ds] = some (.tup ds) := rfl
end
section
variable {τ : Type} {P : Pt τ} {ρ : Rho} {t : τ}
end
section
variable {τ : Type} {ρ : Rho} {t : τ} {X : Str → Fds → τ → Prop}
end
end MM

namespace MM
open PySem PySem.Spec PyProof.Rows L2 RZ
open PySem.Builtin (SmallTypes.nextOrEnd)
def SIt (kd : Bool) (h : Heap) (i l : Addr) (k : Nat) : Prop := match kd with
  | true => h.IsTupleIter i l k
  | false => h.IsListIter i l k
def SSq (kd : Bool) (h : Heap) (l : Addr) (xs : Array Value) : Prop := match kd with
  | true => h.IsTuple l xs
  | false => h.IsList l xs
section
variable {prog : Program} {w : World} {A : Around} {E : Value → Shared → Prop} {s : Shared} {kd : Bool} {h h' : Heap} {i l : Addr} {k : Nat} {xs : Array Value}
theorem SIt.at (x : SIt kd h i l k) (e : ∀ o, h.get? i = some o → h'.get? i = some o) : SIt kd h' i l k := by
  cases kd with
  | true => obtain ⟨o, h1, h2⟩ := x; exact ⟨o, e o h1, h2⟩
  | false => obtain ⟨o, h1, h2⟩ := x; exact ⟨o, e o h1, h2⟩
theorem SSq.at (x : SSq kd h l xs) (e : ∀ o, h.get? l = some o → h'.get? l = some o) : SSq kd h' l xs := by
  cases kd with
  | true => obtain ⟨o, h1, h2⟩ := x; exact ⟨o, e o h1, h2⟩
  | false => obtain ⟨o, h1, h2⟩ := x; exact ⟨o, e o h1, h2⟩
theorem SIt.ex (x : SIt kd h i l k) : ∃ o, h.get? i = some o ∧ ∀ v, o.data ≠ .cell v := by
  cases kd with
  | true => obtain ⟨o, h1, h2, h3⟩ := x; exact ⟨o, h1, fun v q => by rw [h3] at q; cases q⟩
  | false => obtain ⟨o, h1, h2, h3⟩ := x; exact ⟨o, h1, fun v q => by rw [h3] at q; cases q⟩
theorem SSq.push {kd : Bool} {h : Heap} {l : Addr} {xs : Array Value} (o : Obj) (x : SSq kd h l xs) : SSq kd (h.push o) l xs := x.at fun _ e => Heap.get?_push_of_some _ e
end
def SqX (kd : Bool) (K : Fg) (H : Hp) (a : Addr) (xs : List V) : Prop := match kd with
  | true => SqT K H a xs
  | false => SqL K H a xs
theorem SqX.sq {kd : Bool} {X : Cx} {pins : List (Addr × Obj)} {σ : L2.St} {H : Hp} {s : Shared} {a : Addr} {xs : List V} (h : SqX kd X.K H a xs) (I : Inv X pins σ H s) : ∃ its : List Value, Vals xs its ∧ SSq kd s.heap a its.toArray ∧ a < s.heap.objs.size := by
  cases kd with
  | true =>
    obtain ⟨its, rv, p, _⟩ := I.tuple h
    obtain ⟨o, ho, _⟩ := id p
    exact ⟨its, rv, p, Heap.lt_size ho⟩
  | false =>
    obtain ⟨its, rv, p, _⟩ := I.list h
    exact ⟨its, rv, p.isList, p.lt⟩
theorem SqX.inj {kd : Bool} {X : Cx} {pins : List (Addr × Obj)} {σ : L2.St} {H : Hp} {s : Shared} {a : Addr} {xs ys : List V} (I : Inv X pins σ H s) (h : SqX kd X.K H a xs) (h2 : SqX kd X.K H a ys) : xs = ys := by
  cases kd with
  | true => exact I.tuple_inj h h2
  | false => exact I.list_inj h h2
section
variable {X : Cx} {W : WX} {τ : Type} [Sto τ] {K : Fg}
end
end MM

namespace MM
open PySem PySem.Spec PyProof.Rows L2
section
variable {X : Cx} {W : WX} {τ : Type} [Sto τ] {K : Fg}
theorem zip_fst {α β : Type} : ∀ {a : List α} {b : List β}, b.length = a.length → (a.zip b).map (·.1) = a
  | [], _, _ => rfl
  | x :: a, [], h => by cases h
  | x :: a, y :: b, h => by simp [zip_fst (a := a) (b := b) (by simpa using h)]
theorem zip_snd {α β : Type} : ∀ {a : List α} {b : List β}, b.length = a.length → (a.zip b).map (·.2) = b
  | [], [], _ => rfl
  | [], _ :: _, h => by cases h
  | x :: a, [], h => by cases h
  | x :: a, y :: b, h => by simp [zip_snd (a := a) (b := b) (by simpa using h)]
def strsD : List D → Option (List Str)
  | [] => some []
  | .str x :: r => (strsD r).map (x :: ·)
  | _ => none
theorem strsD_ok {F : Fp} {H : Hp} : ∀ {vs : List V} {ds : List D} {ys : List Str}, Reps K F H vs ds → strsD ds = some ys → vs = ys.map V.str
  | _, _, _, .nil, e => by cases e; rfl
  | _, _, _, .cons (d := d) r t, e => by
    cases d <;> try (simp [strsD] at e; done)
    rename_i x
    simp only [strsD] at e
    cases e2 : strsD _ with
    | none => rw [e2] at e; cases e
    | some zs =>
      rw [e2] at e
      cases e
      cases r
      rw [strsD_ok t e2]; rfl
def joinOk (a : Str) (ys : List Str) : Bool := decide ((ys.map (·.length)).sum + ys.length * a.length ≤ 16777216)
def dJoin (a : Str) : D → Option D := fun e => match e with
  | .lst ds => (strsD ds).bind fun ys => if joinOk a ys = true then some (.str (Txt.join a ys)) else none
  | .tup ds => (strsD ds).bind fun ys => if joinOk a ys = true then some (.str (Txt.join a ys)) else none
  | _ => none
theorem me_join {e : Expr} {a : Str} {k : Nat} {opos apos pos : Pos} {me : ME τ D} (he : PE X e (tW X.K W me)) (hs : starEach [e] X.env = [(false, eval e X.env)] := by rfl) (hbase : attributeBase (.Constant (.str a) k opos) "join" X.env (eval (.Constant (.str a) k opos) X.env) = eval (.Constant (.str a) k opos) X.env := by rfl) (hline : (apos.endLine == pos.line) = true := by rfl) :
    PE X (.Call (.Attribute (.Constant (.str a) k opos) "join" apos) [e] [] pos) (tE X.K W (MM.e1 (dJoin a) me)) := PE.imp (pe_join pe_str he hs hbase hline) fun σ H Q ⟨C, ρ, t, A, p⟩ => by
  refine ⟨⟨a, rfl⟩, ?_⟩
  refine use okE A p fun d2 t2 v2 H2 e2 s2 A2 r2 p2 => ?_
  have fin : ∀ (p : Addr) (vs : List V) (ds : List D), v2 = .ref p → (SqL X.K H2 p vs ∨ SqT X.K H2 p vs) → Reps X.K (Fo C.F ρ σ) H2 vs ds → Post rE X.K W C (Fo C.F ρ σ) σ H2 (opt ((strsD ds).bind fun ys => if joinOk a ys = true then some (.str (Txt.join a ys)) else none) t2) Q →
      ∃ (a' : Str) (p : Addr) (ys : List Str), V.str a = .str a' ∧ [v2] = [.ref p] ∧ (SqL X.K H2 p (ys.map V.str) ∨ SqT X.K H2 p (ys.map V.str)) ∧ (ys.map (·.length)).sum + ys.length * a'.length ≤ 16777216 ∧ Q (.str (Txt.join a' ys)) H2 := fun p vs ds ev hq rs p2 => by
    cases e3 : strsD ds with
    | none => rw [e3] at p2; exact p2.elim
    | some ys =>
      rw [e3, Option.bind_some] at p2
      split at p2
      · rename_i hj
        have := strsD_ok rs e3
        subst this
        exact ⟨a, p, ys, rfl, by rw [ev], hq, of_decide_eq_true hj, p2 _ H2 (Sm.refl _ _) A2.st (.str _)⟩
      · exact p2.elim
  cases d2 with
  | lst ds =>
    obtain ⟨p, vs, rfl, hl, rs⟩ := r2.lstOf
    exact fin p vs _ rfl (.inl hl.sq) rs p2
  | tup ds =>
    obtain ⟨p, vs, rfl, hl, rs⟩ := r2.tupOf
    exact fin p vs _ rfl (.inr hl.sq) rs p2
  | _ => exact p2.elim
end
end MM

namespace PySem.W
open PySem PySem.Calls PyProof.Rows
section
variable {prog : Program} {w : World} {A : Around} {E : Value → Shared → Prop} {s : Shared}
def cmpAll : List PyData → List PyData → Bool
  | x :: xs, y :: ys => alike x y && (if PyData.eqv x y = true then cmpAll xs ys else true)
  | [], _ => true
  | _ :: _, [] => true
theorem katLex_cmp {b fin : Bool} {Q : Bool → Shared → Prop} : ∀ (xs ys : List PyData) (i : Nat) (vs ws : List Value) (as bs : List Addr), ReadsAll s.heap vs xs as → ReadsAll s.heap ws ys bs → cmpAll xs ys = true → A.units + min (PyData.depthAll xs) (PyData.depthAll ys) < cLine →
    (b = true → i = 0 → ∀ x r t, xs = x :: r → x ≠ .tuple t) → fin = decide (xs.length < ys.length) → Q (PyProof.Rows.lexLt itemOrd (keyToksAll xs) (keyToksAll ys)) s → KatLex prog w A b fin Q (vs.zip ws) i s
  | [], ys, i, _, _, _, _, ra, rb, _, hu, hb, hf, hq => katLex_alike [] ys i _ _ _ _ ra rb rfl hu hb hf hq
  | x :: xs, [], i, _, _, _, _, ra, rb, _, hu, hb, hf, hq => katLex_alike (x :: xs) [] i _ _ _ _ ra rb rfl hu hb hf hq
  | x :: xs, y :: ys, i, _, _, _, _, .cons r rs, .cons r' rs', h, hu, hb, hf, hq => by
    obtain ⟨h1, h2⟩ := Bool.and_eq_true_iff.mp h
    have hf' : fin = decide (xs.length < ys.length) := by rw [hf]; simp only [List.length_cons, Nat.add_lt_add_iff_right]
    rw [List.zip_cons_cons]
    refine kat_cons (eqAt_alike x y A s _ _ _ _ r r' h1 (SeqAt.room_head hu) prog w _ _ ?_)
    cases hx : PyData.eqv x y with
    | true =>
      rw [dataLt_all_yes h1 hx] at hq
      rw [hx, if_pos rfl] at h2
      exact kat_yes (katLex_cmp xs ys (i + 1) _ _ _ _ rs rs' h2 (SeqAt.room_tail hu) (fun _ hi => absurd hi (Nat.succ_ne_zero i)) hf' hq)
    | false =>
      rw [dataLt_all_no h1 hx] at hq
      refine kat_no (oneLt_alike (fun hbi t => ?_) r r' h1 (ne_none_of h1 hx) (SeqAt.room_head hu) hq)
      rw [Bool.and_eq_true] at hbi; exact hb hbi.1 (by simpa using hbi.2) x xs t rfl
structure RowsOk (ds : List PyData) : Prop where
  row : ∀ d ∈ ds, d.canLay0 = true ∧ ∃ x r, d = .tuple (x :: r)
  two : ∀ xs ys, .tuple xs ∈ ds → .tuple ys ∈ ds → cmpAll xs ys = true
theorem rowKind_some {h : Heap} {ds : List PyData} (hr : RowsOk ds) {v : Value} {d : PyData} {as : List Addr} (hd : d ∈ ds) (r : Reads h v d as) : (dataKind h ds).keyOf v = some (keyToks d) := by
  have q : ∃ d, d ∈ ds ∧ ∃ as, Reads h v d as := ⟨d, hd, as, r⟩
  have e : (dataKind h ds).keyOf v = some (keyToks q.choose) := by
    show (open Classical in if q : ∃ d, d ∈ ds ∧ ∃ as, Reads h v d as then some (keyToks q.choose) else none) = _; rw [dif_pos q]
  obtain ⟨h1, as', h2⟩ := q.choose_spec
  rw [e, SeqAt.Reads.unique _ _ _ _ _ (hr.row _ hd).1 r h2]
theorem each_keysR {h : Heap} {ds : List PyData} (hr : RowsOk ds) : ∀ {vs : List Value} {es : List PyData}, (∀ d ∈ es, d ∈ ds) → EachIs (fun v d => ∃ as, Reads h v d as) vs es → EachIs (fun v d => (dataKind h ds).keyOf v = some (keyToks d)) vs es
  | _, _, _, .nil => .nil
  | _, _, hm, .cons ⟨as, r⟩ t => .cons (rowKind_some hr (hm _ List.mem_cons_self) r) (each_keysR hr (fun d hd => hm d (List.mem_cons_of_mem _ hd)) t)
theorem sorts_rows {vs : List Value} {ds : List PyData} (e : EachIs (fun v d => ∃ as, Reads s.heap v d as) vs ds) (hr : RowsOk ds) (hu : ∀ d, d ∈ ds → A.units + d.depth < cLine) : SortsAt prog w A s (dataKind s.heap ds) vs := by
  refine ⟨fun v hv => ?_, ?_⟩
  · obtain ⟨d, hd, as, r⟩ := e.left v hv
    exact ⟨_, rowKind_some hr hd r⟩
  · cases ds with
    | nil =>
      cases e
      exact ⟨general', fun E x y a b Q ha _ _ => (by obtain ⟨d, _, hd, _⟩ := dataKind_inv ha; exact absurd hd (by simp)), fun h2 => absurd h2 (by simp)⟩
    | cons d₀ ds₀ =>
      obtain ⟨x₀, r₀, e₀⟩ := (hr.row d₀ (List.mem_cons_self ..)).2
      have hfirst : ∀ x r, PyData.tuple (x :: r) ∈ d₀ :: ds₀ → alike x x₀ = true := fun x r hm => by
        have q := hr.two (x :: r) (x₀ :: r₀) hm (by rw [← e₀]; exact List.mem_cons_self)
        exact (Bool.and_eq_true_iff.mp q).1
      refine ⟨tuples' (dataType x₀ != Value.type "tuple"), fun E x y a b Q ha hb hq => ?_, fun h2 E Q hq => ?_⟩
      · obtain ⟨d, as, hd, ra, rfl⟩ := dataKind_inv ha
        obtain ⟨d', as', hd', rb, rfl⟩ := dataKind_inv hb
        have hroom : A.units + min d.depth d'.depth < cLine := Nat.lt_of_le_of_lt (Nat.add_le_add_left (Nat.min_le_left _ _) _) (hu d hd)
        obtain ⟨x1, r1, rfl⟩ := (hr.row d hd).2
        obtain ⟨x2, r2, rfl⟩ := (hr.row d' hd').2
        have hq' : Q (dataLt (.tuple (x1 :: r1)) (.tuple (x2 :: r2))) s := hq
        rw [dataLt_tuple] at hq'
        have two := hr.two _ _ hd hd'
        cases ra with
        | @tuple l o xs n _ _ h1 h2 h3 h4 =>
          cases rb with
          | @tuple l' o' xs' n' _ _ k1 k2 k3 k4 =>
            have n1 : xs.size = (x1 :: r1).length := by simpa using SeqAt.ReadsAll.length _ _ _ h4
            have n2 : xs'.size = (x2 :: r2).length := by simpa using SeqAt.ReadsAll.length _ _ _ k4
            refine kat_lt h1 h3 k1 k3 (katLex_cmp (x1 :: r1) (x2 :: r2) 0 _ _ _ _ h4 k4 two (by have q := SeqAt.room_in hroom; omega) (fun hb _ x r t ex => ?_) (by rw [n1, n2]) hq')
            obtain ⟨rfl, rfl⟩ := List.cons.inj ex
            have q := dataType_alike (hfirst _ _ hd)
            rw [← q] at hb; exact dataType_tuple hb t
      · obtain ⟨fs, t1, t2, t3⟩ := each_katTups e fun d hd => (hr.row d hd).2
        refine kat_kind (T := dataType x₀) t1 (by omega) (fun f hf => ?_) (beq_self_eq_true _) hq
        obtain ⟨x, r, as, m1, m2⟩ := t3 f hf
        rw [← dataType_alike (hfirst x r m1)]; exact looks_reads m2
def SortOk (ds : List PyData) : Prop := (AllAlike ds ∧ Sortable ds) ∨ RowsOk ds
theorem sorted_dataR {β : Type} {R : Value → β → Prop} {enc : β → PyData} {vs : List Value} {bs : List β} {l : Addr} {Q : Value → Shared → Prop} (hl : s.heap.IsList l vs.toArray) (e : EachIs R vs bs) (er : EachIs (fun v b => ∃ as, Reads s.heap v (enc b) as) vs bs) (hk : SortOk (bs.map enc)) (hL : bs.length ≤ sizeLine)
    (hu : ∀ b, b ∈ bs → A.units + 2 + (enc b).depth < cLine) (h : ∀ out, out.length = bs.length → EachIs R out (bs.mergeSort (dataLe false enc)) → Q (.ref (s.heap.objs.size + 1)) { s with heap := sortedAll s.heap vs (List.toArray out) }) :
    wpAny (model prog w) A (call (.builtin "sorted") [.ref l]) Q E s := by
  rcases hk with ⟨hal, hk⟩ | hr
  · exact sorted_data hl e er hal hk hL hu h
  · have er' : EachIs (fun v b => ∃ as, Reads (sortingHeap (copyHeap s.heap vs) (s.heap.objs.size + 1) vs) v (enc b) as) vs bs := er.mono fun _ _ ⟨as, r⟩ => ⟨as, PyProof.Rows.Reads.keeps (fun _ _ => sorting_copy_old) r⟩
    have em := each_map (R := fun v d => ∃ as, Reads (sortingHeap (copyHeap s.heap vs) (s.heap.objs.size + 1) vs) v d as) enc er'
    exact sorted_vals hl (sorts_rows (s := { s with heap := sortingHeap (copyHeap s.heap vs) (s.heap.objs.size + 1) vs }) em hr (bound_map hu)) (by rw [e.length]; exact hL)
      (h _ (by rw [sortVals_length false rfl]; exact e.length) (sortVals_each (κ := dataKind (sortingHeap (copyHeap s.heap vs) (s.heap.objs.size + 1) vs) (bs.map enc)) (fun b => keyToks (enc b)) e (each_of_map enc (each_keysR hr (fun _ hd => hd) em))))
end
end PySem.W
namespace MM
open PySem PySem.Spec PyProof.Rows L2
section
variable {X : Cx} {W : WX} {τ : Type} [Sto τ] {K : Fg}
def sortV {α : Type} (xs : List α) (ps : List PyData) : List α := ((xs.zip ps).mergeSort (PySem.W.dataLe false fun b => b.2)).map (·.1)
structure SrtC (ps : List PyData) : Prop where
  ok : PySem.W.SortOk ps
  dep : ∀ p ∈ ps, p.depth ≤ 50
def rSortD (K : Fg) : List V → Hp → VK → Prop := fun vs H Q => ∃ (a : Addr) (xs : List V) (ps : List PyData), vs = [V.ref a] ∧ SqL K H a xs ∧ DpAll K H xs ps ∧ SrtC ps ∧ ∀ p, H p = none → Q (.ref p) (upd H p (.lst (sortV xs ps)))
theorem each_of_vals {β : Type} {f : β → V} : ∀ {bs : List β} {us : List Value}, Vals (bs.map f) us → PySem.W.EachIs (fun u b => RelV (f b) u) us bs
  | [], _, .nil => .nil
  | _ :: _, _, .cons r t => .cons r (each_of_vals t)
theorem vals_of_each {β : Type} {f : β → V} : ∀ {bs : List β} {us : List Value}, PySem.W.EachIs (fun u b => RelV (f b) u) us bs → Vals (bs.map f) us
  | _, _, .nil => .nil
  | _, _, .cons r t => .cons r (vals_of_each t)
theorem each_reads {h : Heap} {β : Type} {enc : β → PyData} : ∀ {bs : List β} {us : List Value} {as : List Addr}, ReadsAll h us (bs.map enc) as → PySem.W.EachIs (fun u b => ∃ as, Reads h u (enc b) as) us bs
  | [], _, _, .nil => .nil
  | _ :: _, _, _, .cons r t => .cons ⟨_, r⟩ (each_reads t)
theorem dps_len {H : Hp} : ∀ {xs : List V} {ps : List PyData}, DpAll K H xs ps → xs.length = ps.length
  | _, _, .nil => rfl
  | _, _, .cons _ t => congrArg (· + 1) (dps_len t)
theorem cr_sortD (hu : X.A.units + 64 < cLine) : CallR X (.builtin "sorted") (rSortD X.K) := by
  intro pins s σ H vs us Q I r h
  obtain ⟨a, xs, ps, rfl, hs, hd, hc, q⟩ := h
  obtain rfl := Vals.ref1 r
  obtain ⟨its, rv, hl, hz⟩ := I.list hs
  obtain ⟨as, ra⟩ := Dp.readsAll I ps xs its hd rv
  have len := dps_len hd
  have f1 : (xs.zip ps).map (·.1) = xs := zip_fst len.symm
  have f2 : (xs.zip ps).map (·.2) = ps := zip_snd len.symm
  have ll : (xs.zip ps).length = xs.length := by rw [List.length_zip]; omega
  refine PySem.W.sorted_dataR (R := fun u b => RelV b.1 u) (enc := fun b => b.2) (bs := xs.zip ps) hl.isList (each_of_vals (by rw [f1]; exact rv)) (each_reads (enc := fun b : V × PyData => b.2) (as := as) (by rw [f2]; exact ra)) (by rw [f2]; exact hc.ok) (by omega) (fun b hb => ?_) fun out h1 h2 => ?_
  · have := hc.dep b.2 (by rw [← f2]; exact List.mem_map_of_mem hb); omega
  · obtain ⟨ep, he'⟩ := PyProof.Rows.sortedAll_at s.heap its out.toArray
    have hlen : (sortV xs ps).length ≤ sizeLine := by unfold sortV; rw [List.length_map, (List.mergeSort_perm _ _).length_eq, ll]; exact hz
    exact ⟨.ref _, upd H (s.heap.objs.size + 1) (.lst (sortV xs ps)), I.laid (t' := s.toks) (fun _ _ => PyProof.Rows.sortedAll_old) (Nat.le_succ _) ⟨hlen, _, ep, vals_of_each h2, he'⟩, rfl, q _ (I.hok.fresh (Nat.le_succ _))⟩
open Classical in
noncomputable def fSortD : List D → Option (List D)
  | [.lst ds] => (pys ds).bind fun ps => if SrtC ps then some (sortV ds ps) else none
  | _ => none
theorem reps_zip {F : Fp} {H : Hp} : ∀ {vs : List V} {ds : List D}, Reps K F H vs ds → ∀ p ∈ vs.zip ds, Rep K F H p.1 p.2
  | _, _, .nil, p, hp => by cases hp
  | _, _, .cons r t, p, hp => by
    rcases List.mem_cons.mp hp with rfl | h
    · exact r
    · exact reps_zip t p h
theorem reps_map {F : Fp} {H : Hp} {β : Type} {f : β → V} {g : β → D} : ∀ {bs : List β}, (∀ b ∈ bs, Rep K F H (f b) (g b)) → Reps K F H (bs.map f) (bs.map g)
  | [], _ => .nil
  | b :: bs, h => .cons (h b List.mem_cons_self) (reps_map fun c hc => h c (List.mem_cons_of_mem _ hc))
theorem zip_map_zip {α β γ : Type} (ps : List γ) : ∀ (xs : List α) (ys : List β), xs.length = ys.length → xs.length = ps.length → xs.zip ps = ((xs.zip ys).zip ps).map (fun z => (z.1.1, z.2)) ∧ ys.zip ps = ((xs.zip ys).zip ps).map (fun z => (z.1.2, z.2)) := by
  induction ps with
  | nil => intro xs ys h1 h2; cases xs with
    | nil => cases ys with
      | nil => exact ⟨rfl, rfl⟩
      | cons => cases h1
    | cons => cases h2
  | cons p ps ih =>
    intro xs ys h1 h2
    cases xs with
    | nil => cases h2
    | cons x xs =>
      cases ys with
      | nil => cases h1
      | cons y ys =>
        obtain ⟨e1, e2⟩ := ih xs ys (by simpa using h1) (by simpa using h2)
        exact ⟨by simp [e1], by simp [e2]⟩
theorem sortV_map {α β : Type} {f : α → β} {zs : List (α × PyData)} : ((zs.map fun z => (f z.1, z.2)).mergeSort (PySem.W.dataLe false fun b => b.2)) = (zs.mergeSort (PySem.W.dataLe false fun b => b.2)).map fun z => (f z.1, z.2) := by
  rw [List.map_mergeSort (s := PySem.W.dataLe false fun b => b.2)]
  intro a _ b _; rfl
theorem Reps.sortV {F : Fp} {H : Hp} {vs : List V} {ds : List D} {ps : List PyData} (r : Reps K F H vs ds) (hl : ds.length = ps.length) : Reps K F H (MM.sortV vs ps) (MM.sortV ds ps) := by
  obtain ⟨e1, e2⟩ := zip_map_zip ps vs ds r.length (r.length.trans hl)
  unfold MM.sortV
  rw [e1, e2, sortV_map (f := fun z : V × D => z.1), sortV_map (f := fun z : V × D => z.2), List.map_map, List.map_map]
  refine reps_map fun b hb => ?_
  have hb' := (List.mergeSort_perm _ _).mem_iff.mp hb
  exact reps_zip r b.1 (List.of_mem_zip hb').1
theorem pys_len : ∀ {ds : List D} {ps : List PyData}, pys ds = some ps → ds.length = ps.length
  | [], _, e => by cases e; rfl
  | d :: ds, ps, e => by
    simp only [pys] at e
    cases h1 : py d with
    | none => rw [h1] at e; cases e
    | some p =>
      cases h2 : pys ds with
      | none => rw [h1, h2] at e; cases e
      | some qs => rw [h1, h2] at e; cases e; simp [pys_len h2]
theorem mf_sortD {e : Expr} {es : List Expr} {p pos : Pos} {ms : ME τ (List D)} (hu : X.A.units + 64 < cLine) (hg : Gl X "sorted") (hm : X.mg "sorted" = none) (ha : PA X (e :: es) (tAW X.K W ms))
    (he : starEach (e :: es) X.env = (false, eval e X.env) :: starEach es X.env := by rfl) (hpl : (backTo pos (starEach es X.env)).any (·.1) = false := by rfl) :
    PE X (.Call (.Name "sorted" p) (e :: es) [] pos) (tF X.K W (MM.e1 fSortD ms)) := PE.imp (pe_callB (cr_sortD hu) hg hm (by decide +kernel) ha (by decide) (by decide) he hpl) fun σ H Q ⟨C, ρ, t, A, p⟩ => by
  refine use okF A p fun ds t1 v H1 e1 s1 A1 r1 p1 => ?_
  unfold fSortD at p1
  split at p1
  · obtain ⟨v, rfl, r0⟩ := RepsW.one r1
    obtain ⟨a, vs, rfl, h1, rs⟩ := r0.lstOf
    rename_i ds
    cases e : pys ds with
    | none => rw [e] at p1; exact p1.elim
    | some ps =>
      rw [e, Option.bind_some] at p1
      split at p1
      · rename_i hc
        exact ⟨a, vs, ps, rfl, h1.sq, dps_of (F0 := Fo C.F ρ σ) rs e, hc, fun q nq => new_fin A1 (rs.sortV (pys_len e)) p1 q nq⟩
      · exact p1.elim
  · exact p1.elim
end
end MM

namespace MM
open PySem PySem.Spec PyProof.Rows L2
section
variable {X : Cx} {W : WX} {τ : Type} [Sto τ] {K : Fg}
def dCutA : D → Option Int → Option Int → Option D
  | .lst ds, lo, hi => some (.lst (cutD ds lo hi))
  | .tup ds, lo, hi => some (.tup (cutD ds lo hi))
  | .str z, lo, hi => if lim2 z.length = true then some (.str (cutS z lo hi)) else none
  | _, _, _ => none
theorem me_cutA {e : Expr} {lo hi : Option Expr} {p2 pos : Pos} {m : ME τ D} {ml mh : ME τ (Option Int)} (h : PE X e (tW X.K W m)) (hl : PO X lo (tO X.K W ml)) (hh : PO X hi (tO X.K W mh)) : PE X (.Subscript e (.Slice lo hi none p2) pos) (tE X.K W (e3 dCutA m ml mh)) :=
  PE.imp (pe_slice ((sl_tupA.or sl_str).or sl_list) h hl hh) fun σ H Q ⟨C, ρ, t, A, p⟩ => by
    refine use okE A p fun d t1 v H1 e1 s1 A1 r1 p1 => ?_
    refine use okE A1 p1 fun l t2 l' H2 e2 s2 A2 rl p2 => ?_
    refine use okE A2 p2 fun u t3 u' H3 e3 s3 A3 ru p3 => ?_
    cases rl
    cases ru
    have rd := RepW.same (RepW.same r1 s2 fun _ => Fo.base) s3 fun _ => Fo.base
    cases d <;> first
      | exact p3.elim
      | skip
    · rename_i z
      unfold dCutA at p3
      dsimp only at p3
      split at p3
      · rename_i hz
        exact .inl (.inr ⟨z, rd.strOf, lim2_le hz, p3 _ H3 (Sm.refl _ _) A3.st (.str _)⟩)
      · exact p3.elim
    · obtain ⟨a, vs, rfl, q, rs⟩ := rd.tupOf
      refine .inl (.inl ⟨a, vs, rfl, q.sq, fun hw => ?_, fun _ b nb => p3 _ _ (Sm.of_same (same_upd nb)) (C.stay A3.st (same_upd nb)) (Rep.newTup (rs.cut _ _) A3.dom nb)⟩)
      refine p3 _ H3 (Sm.refl _ _) A3.st ?_
      show Rep X.K _ H3 (V.ref a) (.tup (cutD _ _ _))
      unfold cutD
      rw [← rs.length, hw.1, hw.2, List.drop_zero, Nat.sub_zero, rs.length, List.take_length]
      exact .tup q rs
    · obtain ⟨a, vs, rfl, q, rs⟩ := rd.lstOf
      exact .inr ⟨a, vs, rfl, q.sq, fun b nb => p3 _ _ (Sm.of_same (same_upd nb)) (C.stay A3.st (same_upd nb)) (Rep.newLst (rs.cut _ _) A3.dom nb)⟩
theorem room65 {k : Nat} {A : Around} (r : Room k A) : A.units + 65 < cLine := by have := r.un; omega
def inD (d e : D) : Option Bool := match e with
  | .lst es => (match py d, pys es with
    | some p, some ps => if SeqAt.shaped p = true ∧ SeqAt.shaped (.list ps) = true then some (ps.any fun z => PyData.eqv z p) else none
    | _, _ => none)
  | _ => none
def dNotIn : D → D → Option D := fun d e => (inD d e).map fun b => .bl (!b)
theorem inD_of {d e : D} {b : Bool} (h : inD d e = some b) : ∃ p ps, py d = some p ∧ py e = some (.list ps) ∧ SeqAt.shaped p = true ∧ SeqAt.shaped (.list ps) = true ∧ b = ps.any fun z => PyData.eqv z p := by
  unfold inD at h
  split at h
  · split at h
    · rename_i es p ps h1 h2
      split at h
      · rename_i hs
        cases h
        exact ⟨p, ps, h1, by simp only [py, h2]; rfl, hs.1, hs.2, rfl⟩
      · cases h
    · cases h
  · cases h
theorem o_notin : DOp2 K (rNotInD K) dNotIn := by
  intro F0 F H x y d e z Q dm r1 r2 h q
  unfold dNotIn at h
  cases e2 : inD d e with
  | none => rw [e2] at h; cases h
  | some b =>
    rw [e2] at h
    cases h
    obtain ⟨p, ps, h1, h2, h3, h4, rfl⟩ := inD_of e2
    exact ⟨p, ps, r1.dp h1, r2.dp h2, h3, h4, q _ _ (fun _ _ e => e) (.bl _)⟩
end
@[simp] theorem dCutA_lst {ds : List D} {lo hi : Option Int} : dCutA (.lst ds) lo hi = some (.lst (cutD ds lo hi)) := rfl
@[simp] theorem dCutA_tup {ds : List D} {lo hi : Option Int} : dCutA (.tup ds) lo hi = some (.tup (cutD ds lo hi)) := rfl
end MM

namespace MM
open PySem PySem.Spec PyProof.Rows L2
section
variable {X : Cx} {W : WX} {τ : Type} [Sto τ] {K : Fg}
end
end MM

namespace MM
open PySem PySem.Spec PyProof.Rows L2
section
variable {X : Cx} {W : WX} {τ : Type} [Sto τ] {K : Fg}
def gFld (K : Fg) (to : TE) (f : Str) : TG := fun v σ H Q => to σ H fun x H1 => ∃ a C dx fs, x = .ref a ∧ H1 a = some (.ins C dx fs) ∧ Cls K C ∧ NoAttr K C f ∧ fs.length < 1000 ∧ Q σ (upd H1 a (.ins C dx (putF f v fs)))
theorem pg_fld {o : Expr} {f : Str} {to : TE} {pos : Pos} (ho : PE X o to) : PG X (.Attribute o f pos) (gFld X.K to f) := by
  refine ⟨fun pins s σ H v u Q I r h => ?_⟩
  rw [assign_Attribute]
  refine wpAny_bind (wpAny_holding (thn (ho.run pins s σ H _ I h) fun ov s1 ⟨x, H1, I1, r1, a, C, dx, fs, ex, ea, c, n, l, q1⟩ => ?_))
  subst ex
  obtain rfl : ov = Value.ref a := r1
  refine wpAny_bind (wpAny_standAt (wpAny_bind (wpAny_holding (setattr_ok I1 ea c n l r fun s3 I3 => ?_))))
  exact wpAny_release ⟨σ, _, I3, q1⟩
structure ClsF (K : Fg) (C : Str) : Prop where
  cl : Cls K (He.ga K C)
  ha : PySem.W.findIn K (.ref (He.ga K C)) "__class__" = some (some (.builtin "object.__class__"))
  hn : PySem.W.specialIn K (.builtin "object.__class__") "__get__" = some (some (.builtin "getset_descriptor.__get__"))
  htk : PySem.W.takesIn K (.builtin "object.__class__") = some true
  hm : PySem.W.mroIn K (He.ga K C) (.type "object") = some true
theorem ClsF.ty (c : ClsF K C) {H : Hp} {a dx : Addr} {fs : List (Str × V)} (e : H a = some (.ins (He.ga K C) dx fs)) : TyX K H (.ref a) (.ref (He.ga K C)) := .base (.ins e c.cl c.ha c.hn c.htk c.hm)
theorem RepW.objOf {F0 F : Fp} {H : Hp} {v : V} {C : Str} {ns : List Str} {ds : List D} (r : RepW K F0 F H v (.obj C ns ds)) : ∃ a dx fs, v = .ref a ∧ ¬ F a ∧ H a = some (.ins (He.ga K C) dx fs) ∧ fs.map (·.1) = ns ∧ Reps K F H (fs.map (·.2)) ds := by
  cases r with
  | of r => cases r with
    | obj n h rs => exact ⟨_, _, _, rfl, n, h, rfl, rs⟩
def fldD (ns : List Str) (ds : List D) (f : Str) : Option D := match ns, ds with
  | n :: ns, d :: ds => if n = f then some d else fldD ns ds f
  | _, _ => none
theorem fld_at {F : Fp} {H : Hp} {f : Str} : ∀ {fs : List (Str × V)} {ds : List D} {d : D}, Reps K F H (fs.map (·.2)) ds → fldD (fs.map (·.1)) ds f = some d → ∃ v, fs.lookup f = some v ∧ Rep K F H v d
  | [], _, _, .nil, e => by cases e
  | (n, v) :: fs, _, d, .cons r t, e => by
    simp only [List.map_cons, fldD] at e
    split at e
    · rename_i q
      cases e
      subst q
      exact ⟨v, by simp [List.lookup_cons], r⟩
    · rename_i q
      obtain ⟨w, h1, h2⟩ := fld_at t e
      refine ⟨w, ?_, h2⟩
      rw [List.lookup_cons]
      have : (f == n) = false := by
        apply Bool.eq_false_iff.mpr
        intro z
        exact q (eq_of_beq z).symm
      rw [this]; exact h1
def eFld (cs : List Str) (f : Str) : D → Option D
  | .obj C ns ds => if C ∈ cs then fldD ns ds f else none
  | _ => none
theorem me_fld {o : Expr} {f : Str} {pos : Pos} {cs : List Str} {m : ME τ D} (h : PE X o (tW X.K W m)) (hc : ∀ C ∈ cs, ClsF X.K C ∧ NoAttr X.K (He.ga X.K C) f) (hb : attributeBase o f X.env (eval o X.env) = eval o X.env := by rfl) : PE X (.Attribute o f pos) (tE X.K W (MM.e1 (eFld cs f) m)) :=
  PE.imp (pe_fld h hb) fun σ H Q ⟨C, ρ, t, A, p⟩ => by
    refine use okE A p fun d t1 v H1 e1 s1 A1 r1 p1 => ?_
    unfold eFld at p1
    split at p1
    · split at p1
      · rename_i C ns ds hm
        obtain ⟨a, dx, fs, rfl, nF, ha, rfl, rs⟩ := r1.objOf
        cases e : fldD (fs.map (·.1)) ds f with
        | none => rw [e] at p1; exact p1.elim
        | some d =>
          rw [e] at p1
          obtain ⟨w, h1, h2⟩ := fld_at rs e
          obtain ⟨c1, c2⟩ := hc C hm
          exact ⟨a, _, dx, fs, w, rfl, ha, c1.cl, c2, h1, p1 w H1 (Sm.refl _ _) A1.st h2⟩
      · exact p1.elim
    · exact p1.elim
structure MethE (P : Program) (w : World) (K : Fg) (mg : Str → Option Value) (base : Heap) (k : Nat) (C m : Str) (np : Nat) (mf : List D → Unit → Res Unit D) : Prop where
  ex : ∃ (fd : FuncData) (ps : List Str), FnOk P w K mg base (L2.CX P w) k (He.ma K (He.ga K C) m) fd ps (spF np K mf) ∧ Binds K fd ps [] ∧ ClsF K C ∧ Meth K (He.ga K C) m (He.ma K (He.ga K C) m)
theorem MethE.mono {P : Program} {w : World} {mg : Str → Option Value} {base : Heap} {j k : Nat} {C m : Str} {np : Nat} {mf : List D → Unit → Res Unit D} (F : MethE P w K mg base j C m np mf) (h : j ≤ k) : MethE P w K mg base k C m np mf := by
  obtain ⟨fd, ps, f1, f2⟩ := F.ex
  exact ⟨fd, ps, f1.mono h, f2⟩
theorem lookup_mem {α β : Type} [BEq α] [LawfulBEq α] {x : α} {y : β} : ∀ {l : List (α × β)}, l.lookup x = some y → (x, y) ∈ l
  | [], e => by cases e
  | (a, b) :: l, e => by
    rw [List.lookup_cons] at e
    cases h : x == a with
    | true => rw [h] at e; cases e; rw [eq_of_beq h]; exact List.mem_cons_self
    | false => rw [h] at e; exact List.mem_cons_of_mem _ (lookup_mem e)
def initD (f0 f1 f2 : Str) (i j : Nat) : List D → Option (List Str × List D)
  | [.tup ds] => match ds[i]?, ds[j]? with
    | some a, some b => some ([f0, f1, f2], [.tup ds, a, b])
    | _, _ => none
  | _ => none
def spI (K : Fg) (f0 f1 f2 : Str) (i j : Nat) : Sp := fun vs H Q _ => ∃ (x a dx : Addr) (C : Str) (xs : List V) (v w : V), vs = [.ref x, .ref a] ∧ H x = some (.ins (He.ga K C) dx []) ∧ Cls K (He.ga K C) ∧ NoAttr K (He.ga K C) f0 ∧ NoAttr K (He.ga K C) f1 ∧ NoAttr K (He.ga K C) f2 ∧ SqT K H a xs ∧ xs[i]? = some v ∧ xs[j]? = some w ∧
  ∀ H', (∀ b o, b ≠ x → H b = some o → H' b = some o) → H' x = some (.ins (He.ga K C) dx [(f0, .ref a), (f1, v), (f2, w)]) → Q .non H'
theorem SqT.upd_ne {H : Hp} {a x : Addr} {o o' : HO} {xs : List V} (h : SqT K H a xs) (hx : H x = some o) (ho : ∀ ys, o ≠ .tup ys) (hf : ∀ oo ys, o ≠ .frz oo (.tup ys)) : SqT K (upd H x o') a xs := by
  rcases h with h | h
  · rcases h with h | ⟨oo, h⟩
    · refine .inl (.inl ?_)
      rw [L2.upd_ne]; exact h
      intro z; subst z; rw [hx] at h; cases h; exact ho _ rfl
    · refine .inl (.inr ⟨oo, ?_⟩)
      rw [L2.upd_ne]; exact h
      intro z; subst z; rw [hx] at h; cases h; exact hf _ _ rfl
  · exact .inr h
theorem pss_init {X : Cx} {p1 p2 p3 p4 p5 p6 p7 p8 p9 q1 q2 q3 q4 q5 q6 q7 q8 : Pos} {k1 k2 k3 k4 : Nat} (hc : X.calm = true) (h0 : PE X (.Name "self" p1) (tVar 0)) (h0' : PE X (.Name "self" p5) (tVar 0)) (h0'' : PE X (.Name "self" p7) (tVar 0)) (h1 : PE X (.Name "row" p3) (tVar 1)) (h1' : PE X (.Name "row" q1) (tVar 1)) (h1'' : PE X (.Name "row" q4) (tVar 1)) : PSs X [.Assign [.Attribute (.Name "self" p1) "row" p2] (.Name "row" p3) p4, .Assign [.Tuple [.Attribute (.Name "self" p5) "name" p6, .Attribute (.Name "self" p7) "mass" p8] k1 p9] (.Tuple [.Subscript (.Name "row" q1) (.Constant (.int 0) k2 q2) q3, .Subscript (.Name "row" q4) (.Constant (.int 2) k3 q5) q6] k4 q7) q8]
    (fun D σ H => ∃ (x a dx : Addr) (C : Str) (xs : List V) (v w : V), σ[0]? = some (some (.ref x)) ∧ σ[1]? = some (some (.ref a)) ∧ H x = some (.ins (He.ga X.K C) dx []) ∧ Cls X.K (He.ga X.K C) ∧ NoAttr X.K (He.ga X.K C) "row" ∧ NoAttr X.K (He.ga X.K C) "name" ∧ NoAttr X.K (He.ga X.K C) "mass" ∧ SqT X.K H a xs ∧ xs[0]? = some v ∧ xs[2]? = some w ∧
      ∀ H', (∀ b o, b ≠ x → H b = some o → H' b = some o) → H' x = some (.ins (He.ga X.K C) dx [("row", .ref a), ("name", v), ("mass", w)]) → D.nx σ H') := by
  refine PSs.imp (pss_cons (ps_fld h0 h1 (by rfl)) (pss_one (ps_asg (pe_tup (pa_cons (pe_ix ix_seq h1' pe_int (fun _ _ => rfl)) (pa_cons (pe_ix ix_seq h1'' pe_int (fun _ _ => rfl)) pa_nil))) (pg_tup hc (pgs_cons (pg_fld h0') (pgs_cons (pg_fld h0'') pgs_nil))) (hw := by unfold swappedStores; dsimp only; split <;> rfl)))) fun D σ H p => ?_
  obtain ⟨x, a, dx, C, xs, v, w, s0, s1, hx, c, n0, n1, n2, hq, e0, e2, q⟩ := p
  refine ⟨_, s1, _, s0, x, _, dx, [], rfl, hx, c, n0, (by show 0 < 1000; decide), ?_⟩
  have hq2 := SqT.upd_ne (o' := .ins (He.ga X.K C) dx (putF "row" (.ref a) [])) hq hx (fun _ z => nomatch z) (fun _ _ z => nomatch z)
  refine ⟨_, s1, .inr (.inl ⟨a, xs, 0, v, rfl, rfl, hq2, atI_nat (j := 0) e0, ?_⟩)⟩
  refine ⟨_, s1, .inr (.inl ⟨a, xs, 2, w, rfl, rfl, hq2, atI_nat (j := 2) e2, ?_⟩)⟩
  refine ⟨by show 2 ≤ sizeLine; decide, fun t nt => ?_⟩
  have tx : t ≠ x := fun z => by rw [z, upd_same] at nt; cases nt
  refine ⟨t, [v, w], rfl, .inl (.inl upd_same), rfl, _, _, rfl, ?_⟩
  refine ⟨_, s0, x, _, dx, _, rfl, by rw [L2.upd_ne (Ne.symm tx), upd_same], c, n1, (by show 1 < 1000; decide), ?_⟩
  refine ⟨_, _, rfl, _, s0, x, _, dx, _, rfl, upd_same, c, n2, (by show 2 < 1000; decide), ⟨rfl, ?_⟩⟩
  refine q _ (fun b o hb e => ?_) upd_same
  rw [L2.upd_ne hb, L2.upd_ne hb, L2.upd_ne (fun z => ?_), L2.upd_ne hb]
  · exact e
  · subst z
    rw [L2.upd_ne hb, e] at nt
    cases nt
theorem init_fn {P : Program} {w : World} {mg : Str → Option Value} {base : Heap} {qual : Str} {params : Arguments} {body : List Stmt} {scope : Scope} {f : Addr} {fd : FuncData} {N : List Str} (hN : N = (["self", "row"] : List Str)) (F : FunD K "__init__" qual params body scope [] [] f fd) (S : FnScope N ["self", "row"] scope) (hs : scope.names.lookup (Str.ofString "self") = some .local) (hr1 : scope.names.lookup (Str.ofString "row") = some .local)
    {p1 p2 p3 p4 p5 p6 p7 p8 p9 q1 q2 q3 q4 q5 q6 q7 q8 : Pos} {k1 k2 k3 k4 : Nat} (hb : body = [.Assign [.Attribute (.Name "self" p1) "row" p2] (.Name "row" p3) p4, .Assign [.Tuple [.Attribute (.Name "self" p5) "name" p6, .Attribute (.Name "self" p7) "mass" p8] k1 p9] (.Tuple [.Subscript (.Name "row" q1) (.Constant (.int 0) k2 q2) q3, .Subscript (.Name "row" q4) (.Constant (.int 2) k3 q5) q6] k4 q7) q8]) :
    FnOk P w K mg base (L2.CX P w) 1 f fd ["self", "row"] (spI K "row" "name" "mass" 0 2) := by
  subst hb; subst hN
  refine F.ok S (fun vs H Q E ⟨x, a, dx, C, xs, v, w, e, _⟩ => by rw [e]; rfl) fun cdv A outer s H vs Q E hr ⟨x, a, dx, C, xs, v, w, e, hx, c, n0, n1, n2, hq, e0, e2, q⟩ => ⟨_, pss_init rfl (pv 0 (hv := .inl hs)) (pv 0 (hv := .inl hs)) (pv 0 (hv := .inl hs)) (pv 1 (hv := .inl hr1)) (pv 1 (hv := .inl hr1)) (pv 1 (hv := .inl hr1)), x, a, dx, C, xs, v, w, ?_⟩
  subst e
  exact ⟨rfl, rfl, hx, c, n0, n1, n2, hq, e0, e2, fun H' h1 h2 => q H' h1 h2⟩
structure MakeE (P : Program) (w : World) (K : Fg) (mg : Str → Option Value) (base : Heap) (C f0 f1 f2 : Str) (i j : Nat) : Prop where
  ex : ∃ (fd : FuncData) (ps : List Str), FnOk P w K mg base (L2.CX P w) 1 (He.ma K (He.ga K C) "__init__") fd ps (spI K f0 f1 f2 i j) ∧ Binds K fd ps [] ∧ ClsF K C ∧ Mk K (He.ga K C) (He.ma K (He.ga K C) "__init__") ∧ mg C = some (.ref (He.ga K C))
  n0 : NoAttr K (He.ga K C) f0
  n1 : NoAttr K (He.ga K C) f1
  n2 : NoAttr K (He.ga K C) f2
def eMake (C f0 f1 f2 : Str) (i j : Nat) (ma : ME τ (List D)) : ME τ D := fun ρ t => (ma ρ t).bind fun ds t => match initD f0 f1 f2 i j ds with
  | some (ns, es) => .ok (.obj C ns es) t
  | none => .bad
theorem me_make {C f0 f1 f2 : Str} {i j : Nat} {e : Expr} {p pos : Pos} {ma : ME τ (List D)} (M : MakeE X.prog X.w X.K X.mg X.base C f0 f1 f2 i j) (hr : Room 2 X.A) (hg : Gl X C) (ha : PA X [e] (tA X.K W ma)) (hdb : (C == ("__debug__" : Str)) = false := by decide)
    (he : starEach [e] X.env = (false, eval e X.env) :: starEach [] X.env := by rfl) (hpl : (backTo pos (starEach [] X.env)).any (·.1) = false := by rfl) : PE X (.Call (.Name C p) [e] [] pos) (tE X.K W (eMake C f0 f1 f2 i j ma)) := by
  obtain ⟨fd, ps, F, hb, cf, mk, hm⟩ := M.ex
  refine PE.imp (pe_make (E := fun _ _ _ => False) mk F hr hg hm hb .nil (fun pins σ H s e s' I h => by obtain ⟨_, _, _, _, _, _, _, _, _, _, _, _, z⟩ := h; exact z.elim) ha hdb he hpl) fun σ H Q ⟨C', ρ, t, A, p⟩ => ?_
  refine use okE A p fun ds t1 vs H1 e1 s1 A1 r1 p1 => ?_
  intro x dx nx ndx nex
  unfold initD at p1
  split at p1
  · rename_i ns es he'
    split at he'
    · rename_i ds0
      split at he'
      · rename_i a b ea eb
        cases he'
        cases r1 with
        | cons r r0 =>
          cases r0
          obtain ⟨ad, xs, rfl, hq, rs⟩ := RepW.tupOf (F0 := Fo C'.F ρ σ) (RepW.of r)
          obtain ⟨v, hv, rv⟩ := rs.get ea
          obtain ⟨u, hu, ru⟩ := rs.get eb
          have old : ∀ b o, H1 b = some o → b ≠ x ∧ b ≠ dx := fun b o e => ⟨fun z => by (rw [z, nx] at e; cases e), fun z => by (rw [z, ndx] at e; cases e)⟩
          have hq' : SqT X.K (upd (upd H1 dx (.own x)) x (.ins (He.ga X.K C) dx [])) ad xs := by
            rcases hq.sq with h | h
            · rcases h with h | ⟨o, h⟩
              · exact .inl (.inl (by rw [L2.upd_ne (old _ _ h).1, L2.upd_ne (old _ _ h).2]; exact h))
              · exact .inl (.inr ⟨o, by rw [L2.upd_ne (old _ _ h).1, L2.upd_ne (old _ _ h).2]; exact h⟩)
            · exact .inr h
          refine ⟨x, ad, dx, C, xs, v, u, rfl, upd_same, cf.cl, M.n0, M.n1, M.n2, hq', hv, hu, fun H' k1 k2 => ⟨rfl, ?_⟩⟩
          have same : Same H1 H' := fun b o e => k1 b o (old b o e).1 (by rw [L2.upd_ne (old b o e).1, L2.upd_ne (old b o e).2]; exact e)
          refine p1 _ H' (Sm.of_same same) (C'.stay A1.st same) ?_
          have sm := Sm.of_same (F := Fo C'.F ρ σ) same
          have := Rep.obj (K := X.K) (F := Fo C'.F ρ σ) (H := H') (a := x) (dx := dx) (C := C) (fs := [(f0, V.ref ad), (f1, v), (f2, u)]) (ds := [.tup ds0, a, b]) (fun z => A1.dom x z nx) k2 (.cons (r.same sm) (.cons (rv.same sm) (.cons (ru.same sm) .nil)))
          exact this
      · cases he'
    · cases he'
  · exact p1.elim
end
section
variable {X : Cx} {K : Fg}
end
theorem fm_nil {α : Type} {p : α → Prop} : ∀ x ∈ ([] : List α), p x := fun _ h => nomatch h
theorem fm_cons {α : Type} {p : α → Prop} {x : α} {l : List α} (h : p x) (t : ∀ y ∈ l, p y) : ∀ y ∈ x :: l, p y := fun y hy => by
  rcases List.mem_cons.mp hy with rfl | hy
  · exact h
  · exact t y hy
section
variable {K : Fg}
theorem cClsF_ok {x : Str} (c : cClsF x K = true) : ClsF K x := by
  obtain ⟨c0, c⟩ := He.ba c
  obtain ⟨c1, c⟩ := He.ba c
  obtain ⟨c2, c⟩ := He.ba c
  obtain ⟨c3, c4⟩ := He.ba c
  obtain ⟨d1, d⟩ := He.ba (show (PySem.W.plainGet K (He.ga K x) Str.empty && (PySem.W.hasDictIn K (He.ga K x) && (PySem.W.plainOver K (He.ga K x) && He.eqO (PySem.W.findIn K (.ref (He.ga K x)) "__setattr__") (some (some (.builtin "object.__setattr__")))))) = true from c0)
  obtain ⟨d2, d⟩ := He.ba d
  obtain ⟨d3, d4⟩ := He.ba d
  exact ⟨⟨d1, d2, d3, He.eqO_ok d4⟩, of_decide_eq_true c1, of_decide_eq_true c2, of_decide_eq_true c3, of_decide_eq_true c4⟩
theorem cNoat_ok {x f : Str} (c : cNoat x f K = true) : NoAttr K (He.ga K x) f := by
  unfold NoAttr
  exact of_decide_eq_true c
theorem cMeth_ok {x m : Str} (c : cMeth x m K = true) : Meth K (He.ga K x) m (He.ma K (He.ga K x) m) := by
  obtain ⟨d1, d⟩ := He.ba (show (He.eqO (PySem.W.findIn K (.ref (He.ga K x)) m) (some (some (.ref (He.ma K (He.ga K x) m)))) && (PySem.W.isFn K (.ref (He.ma K (He.ga K x) m)) && PySem.W.keepIn K (.ref (He.ma K (He.ga K x) m)))) = true from c)
  obtain ⟨d2, d3⟩ := He.ba d
  exact ⟨He.eqO_ok d1, d2, d3⟩
theorem cMkr_ok {x : Str} (c : cMkr x K = true) : Mk K (He.ga K x) (He.ma K (He.ga K x) "__init__") := by
  obtain ⟨d1, d⟩ := He.ba (show (PySem.W.makesIn K (He.ga K x) && (He.eqO (PySem.W.findIn K (.ref (He.ga K x)) "__init__") (some (some (.ref (He.ma K (He.ga K x) "__init__")))) && (PySem.W.isFn K (.ref (He.ma K (He.ga K x) "__init__")) && PySem.W.keepIn K (.ref (He.ga K x))))) = true from c)
  obtain ⟨d2, d⟩ := He.ba d
  obtain ⟨d3, d4⟩ := He.ba d
  exact ⟨d1, He.eqO_ok d2, d3, d4⟩
end
section
variable {τ : Type} {X : Str → Fds → τ → Prop} {ρ : Rho} {t : τ}
@[simp] theorem oE_make {C f0 f1 f2 : Str} {i j : Nat} {ma : ME τ (List D)} {Q : D → τ → Prop} : oE (eMake C f0 f1 f2 i j ma ρ t) Q X = oE (ma ρ t) (fun ds t => ∃ r, initD f0 f1 f2 i j ds = some r ∧ Q (.obj C r.1 r.2) t) X := by
  unfold eMake
  rw [oE_bind]
  congr; funext ds t
  cases e : initD f0 f1 f2 i j ds <;> simp
end
end MM

namespace MM
open PySem PySem.Spec PyProof.Rows L2
section
variable {K : Fg} {F0 F : Fp} {H : Hp}
theorem RepW.keyOf {y : V} {k : Key} (r : RepW K F0 F H y (keyD k)) : y = kV k := by
  cases k with
  | inl i => exact r.intOf
  | inr x => exact r.strOf
end
section
variable {X : Cx} {W : WX} {τ : Type} [Sto τ] {K : Fg}
end
end MM

namespace MM
open PySem PySem.Spec PyProof.Rows L2
section
variable {X : Cx}
end
end MM

namespace MM
open PySem PySem.Spec PyProof.Rows L2
section
variable {X : Cx} {W : WX} {τ : Type} [Sto τ] {K : Fg}
end
end MM

namespace MM
open PySem PySem.Spec PyProof.Rows L2
section
variable {X : Cx} {W : WX} {τ : Type} [Sto τ] {K : Fg}
end
end MM

namespace MM
open PySem PySem.Spec PyProof.Rows L2
section
variable {τ : Type} {ρ : Rho} {t : τ} {X : Str → Fds → τ → Prop} {P : Pt τ} {g : Tgt} {tt : ME τ Bool} {te tk tv : ME τ D} {pu : List D → List D → D → D → Option (List D × List D)}
theorem comp_map {α : Type} {enc f : α → D} : ∀ {xs : List α} {Q : List D → τ → Prop}, (∀ x ∈ xs, ∃ ρ1, g ρ (enc x) = some ρ1 ∧ oE (te ρ1 t) (fun y t' => y = f x ∧ t' = t) (fun _ _ _ => False)) → Q (xs.map f) t →
    oE (compL g (fun _ t => .ok true t) te ρ (xs.map enc) t) Q X
  | [], _, _, h => h
  | x :: xs, Q, hx, h => by
    obtain ⟨ρ1, e1, e2⟩ := hx x List.mem_cons_self
    rw [List.map_cons, oE_compCons]
    refine ⟨ρ1, e1, ?_⟩
    simp only [oE_ok, not_true_eq_false, false_implies, and_true, forall_const]
    refine oE_imp e2 (fun y t' hh => ?_) fun _ _ _ z => z
    rw [hh.1, hh.2]
    exact comp_map (Q := fun ys t => Q (f x :: ys) t) (fun z hz => hx z (List.mem_cons_of_mem _ hz)) h
theorem oS_loopE {α : Type} {enc : α → D} {b : MS τ} (I : List α → List α → Rho → τ → Prop) (xs : List α) (h0 : I [] xs ρ t)
    (hs : ∀ dn x td ρ t, xs = dn ++ x :: td → I dn (x :: td) ρ t → ∃ ρ1, g ρ (enc x) = some ρ1 ∧ oS (b ρ1 t) { P with nx := I (dn ++ [x]) td, ct := I (dn ++ [x]) td, bk := P.nx }) (hn : ∀ ρ t, I xs [] ρ t → P.nx ρ t) : oS (loopF g b (xs.map enc) ρ t) P := by
  have key : ∀ (td dn : List α) (ρ : Rho) (t : τ), xs = dn ++ td → I dn td ρ t → oS (loopF g b (td.map enc) ρ t) P := by
    intro td
    induction td with
    | nil =>
      intro dn ρ t e h
      rw [List.append_nil] at e
      subst e
      exact hn ρ t h
    | cons x td ih =>
      intro dn ρ t e h
      rw [List.map_cons, oS_loop_cons]
      obtain ⟨ρ1, e1, h1⟩ := hs dn x td ρ t e h
      have e' : xs = (dn ++ [x]) ++ td := by rw [e]; simp
      exact ⟨ρ1, e1, oS_imp h1 (fun ρ t h => ih (dn ++ [x]) ρ t e' h) (fun _ _ h => h) (fun _ _ _ _ h => h) (fun _ _ h => h) (fun ρ t h => ih (dn ++ [x]) ρ t e' h)⟩
  exact key xs [] ρ t rfl h0
end
end MM

namespace PySem
open Sem (wp)
open AutoSeq1 (wpAny_loadPart')
theorem mEnumT (l : Addr) (ob : Obj) (items : Array Value) (hc : ob.cls = .type "tuple") (hT : ∀ h : Heap, h.get? l = some ob → h.IsTuple l items) :
    Meets (Builtin.«enumerate.__new__» ⟨[.type "enumerate", .ref l], []⟩) (fun _ R s => s.heap.get? l = some ob ∧
      R (.ok (.ret (.ref (s.heap.push { cls := .type "tuple_iterator", data := .fields #[.ref l, .int 0 0] }).objs.size)))
        { s with heap := (s.heap.push { cls := .type "tuple_iterator", data := .fields #[.ref l, .int 0 0] }).push { cls := .type "enumerate", data := .fields #[.none, .bool false, .ref s.heap.objs.size, rawInt 0, .none, .none] } }) :=
  .of_wp fun prog w A R s h => by
    obtain ⟨hp, g, d, tk, os⟩ := s; obtain ⟨hl, h⟩ := h
    have hsub := sub_enumerate
    have hL : Heap.IsTuple (Shared.heap ⟨hp, g, d, tk, os⟩) l items := hT _ hl
    wp_walk using wpAny_loadPart' hl
    refine wpAny_stack_any fun st => wpAny_pure ?_
    split
    · rename_i c _ _ _ _ _
      cases (c == Value.type "enumerate")
      · wp_walk using wpAny_loadPart' hl, wpAny_pyIter_tuple hL
        exact ⟨_, rfl, h⟩
      · wp_walk using wpAny_loadPart' hl, wpAny_pyIter_tuple hL
        exact ⟨_, rfl, h⟩
    · wp_walk using wpAny_loadPart' hl, wpAny_pyIter_tuple hL
      exact ⟨_, rfl, h⟩
end PySem
namespace MM
open PySem PySem.Spec PyProof.Rows L2
theorem pyNext_enumT_end {prog : Program} {w : World} {A : Around} {E : Value → Shared → Prop} {s : Shared} {e it l : Addr} {i : Nat} {items : Array Value} {old : Value} {Q : Option Value → Shared → Prop} (hh : A.handled = none)
    (he : IsEnum s.heap e it i old) (hit : s.heap.IsTupleIter it l i) (hl : s.heap.IsTuple l items) (hx : items[i]? = none) (hQ : ∀ h', Heap.ExtBut it s.heap h' → Q none { s with heap := h' }) : wpAny (model prog w) A (pyNext (.ref e)) Q E s := by
  have hT : s.TypeIs (.ref e) "enumerate" := ⟨_, he, rfl⟩
  unfold pyNext
  refine wpAny_bind (wpAny_attempt (wpAny_callSpecial?_slot (name := Str.ofString "__next__") hT F.slot_enumerate_next (wpAny_call_entry F.slot_enumerate_next hT F.entry_enumerate_next ?_ (F.args_enumerate_next_1 _))))
  show wpAny _ _ (field (.ref e) 2 >>= _) _ _ _
  refine wpAny_bind (wpAny_field he rfl (x := .ref it) rfl (wpAny_bind (wpAny_nextOf_tuple_end hh hit hl hx fun h' x he' hx' => ?_)))
  obtain ⟨o, ho, hc⟩ := hx'
  exact wpAny_bind (wpAny_isInstance (T := "StopIteration") (b := true) ⟨o, ho, hc⟩ isSubtype_stop (wpAny_pure (hQ _ he')))
def IteT (K : PySem.W.Frag) (a : Addr) : It :=
  ⟨fun i H => ∃ (xs : List V) (x : V), SqT K H a xs ∧ xs[i]? = some x, fun i H v H' => ∃ T x, v = .ref T ∧ H T = none ∧ H' = upd H T (.tup [.int (i : Nat), x]) ∧ ∀ xs, SqT K H a xs → xs[i]? = some x, fun i H => ∃ xs : List V, SqT K H a xs ∧ xs.length ≤ i⟩
theorem turn_enT {P : Program} {w : World} {K : PySem.W.Frag} {elts : List Expr} {kk : Nat} {tpos : Pos} (a e it : Addr) (hai : a ≠ it) (hae : a ≠ e) :
    Turn P w K (.Tuple elts kk tpos) (IteT K a) [e, it] e (fun i h => (∃ old, IsEnum h e it ((i : Nat) : Int) old) ∧ h.IsTupleIter it a i ∧ e ≠ it) where
  mem := by simp
  obj := fun i h st b hb => by
    obtain ⟨⟨old, he⟩, ⟨o, ho, hc, hd⟩, _⟩ := st
    have hb' : b = e ∨ b = it := by simpa using hb
    rcases hb' with rfl | rfl
    · exact ⟨_, he, fun v q => nomatch q⟩
    · exact ⟨o, ho, fun v q => by rw [hd] at q; cases q⟩
  keep := fun i h h' st k => let ⟨⟨old, he⟩, hi, ne⟩ := st; ⟨⟨old, k e (by simp) _ he⟩, hi.at fun o q => k it (by simp) o q, ne⟩
  item := by
    intro X hP hw hK hc i pins s σ H E I hf st hg
    subst hP hw hK
    obtain ⟨⟨old, he⟩, hit, ne⟩ := st
    obtain ⟨xs, x, hq, hx⟩ := hg
    obtain ⟨its, rv, p, hz⟩ := I.tuple hq
    obtain ⟨u, hu, ru⟩ := rv.get hx
    have lt : i < its.toArray.size := by
      have := (List.getElem?_eq_some_iff.mp hu).1
      simpa using this
    have el : e < s.heap.objs.size := Heap.lt_size he
    have il : it < s.heap.objs.size := by obtain ⟨_, q, _⟩ := hit; exact Heap.lt_size q
    have D := Draws.tuple (prog := X.prog) (w := X.w) (A := X.A.in1) (I.ok.hd hc) it a hai its.toArray
    refine wpAny_pyNext_enum_itemD D he ⟨hit, p⟩ lt ne (by simp only [List.mem_cons, List.not_mem_nil, or_false, not_or]; exact ⟨ne, fun z => hae z.symm⟩) fun y h' tk hy ho hst hT hsz hk => ?_
    have ey : y = u := by
      have hy' : its.toArray[i]? = some y := hy
      rw [List.getElem?_toArray, hu] at hy'
      exact (Option.some.inj hy').symm
    subst ey
    refine ⟨_, rfl, wpAny_letOwnedTupleGo_enum (s := { s with heap := h', toks := tk + 1 }) ho fun h'' he' sb => ?_⟩
    have hT2 : h''.get? s.heap.objs.size = some { cls := .type "tuple", data := .seq #[.int i tk, y] } := (sb.2 _ (Nat.ne_of_gt el)).trans hT
    have new : ObjOk X.prog X.w (upd H s.heap.objs.size (.tup [.int (i : Nat), x])) h'' s.heap.objs.size (.tup [.int (i : Nat), x]) :=
      ⟨by show 2 ≤ sizeLine; decide, [.int i tk, y], .cons ⟨_, rfl⟩ (.cons ru .nil), ⟨_, hT2, rfl, _, rfl⟩⟩
    have I1 : Inv X pins σ (upd H s.heap.objs.size (.tup [.int (i : Nat), x])) { s with heap := h'', toks := tk + 1 } :=
      I.turnedNew (ch := [e, it]) (fun b ob hb q => (sb.2 b (fun z => hb (by simp [z]))).trans (hk b ob (fun z => hb (by simp [z])) (fun z => hb (by simp [z])) q)) hf (Nat.le_refl _) new
    refine ⟨.ref s.heap.objs.size, _, I1, rfl, ⟨_, x, rfl, I.hok.fresh (Nat.le_refl _), rfl, fun ys hys => ?_⟩, ⟨⟨y, ?_⟩, hst.1.at fun o q => (sb.2 it (Ne.symm ne)).trans q, ne⟩, fun b hb => ?_⟩
    · rw [I.tuple_inj hys hq]; exact hx
    · rw [show ((i + 1 : Nat) : Int) = (i : Int) + 1 by omega]; exact he'
    · have hb' : b = e ∨ b = it := by simpa using hb
      have : b < s.heap.objs.size := by rcases hb' with rfl | rfl <;> assumption
      rw [upd_ne (Nat.ne_of_lt this)]
      exact (hf b hb).1
  done := by
    intro X hP hw hK hc i pins s σ H E I hf st hg
    subst hP hw hK
    obtain ⟨⟨old, he⟩, hit, ne⟩ := st
    obtain ⟨xs, hq, hx⟩ := hg
    obtain ⟨its, rv, p, hz⟩ := I.tuple hq
    obtain ⟨f0, f1, f2, f3, f4, f5⟩ := hf it (by simp)
    have hl := rv.length
    exact pyNext_enumT_end (I.ok.hd hc) he hit p (by simp; omega) fun h' eb => ⟨rfl, I.turned (t' := s.toks) (fun b o hb q => eb b o hb q) f0 f1 f3 f4 f5⟩
  self := fun A i s Q E st h => let ⟨⟨_, he⟩, _⟩ := st; wpAny_pyIter_enum he h
def iEnumT (K : PySem.W.Frag) (ta : TA) : TI := fun σ H R => ta σ H fun vs H1 => ∃ a xs, vs = [.ref a] ∧ SqT K H1 a xs ∧ R (IteT K a) H1
theorem pi_enumT {X : Cx} {e : Expr} {ta : TA} {p pos tpos : Pos} {elts : List Expr} {kk : Nat} (hg : Gl X "enumerate") (hm : X.mg "enumerate" = none) (ha : PA X [e] ta) (hs : starEach [e] X.env = [(false, eval e X.env)] := by rfl) :
    PI X (.Tuple elts kk tpos) (.Call (.Name "enumerate" p) [e] [] pos) (iEnumT X.K ta) := by
  refine ⟨fun pins s σ H R I h => ?_⟩
  refine Call_ (ld_blt I hg hm boot_enumerate (PyProof.Rows.callWith_type1 (thn (ha.run pos pins s σ H _ I h) fun us s1 ⟨vs, H1, I1, r1, a, xs, ex, hq, q⟩ => ?_) hs rfl))
  subst ex
  rw [Vals.ref1 r1]
  obtain ⟨its, rv, ⟨ob, hob, hc, n, hd⟩, hz⟩ := I1.tuple hq
  have lt : a < s1.heap.objs.size := Heap.lt_size hob
  refine callType_new F.called_enumerate (by decide) (F.typeCall_enumerate_1 _) (F.newCall_enumerate_1 _) (fun obj => F.args_object_init_2 obj _) F.entry_enumerate_new
    (mEnumT a ob its.toArray hc fun h e => ⟨ob, e, hc, n, hd⟩) ⟨hob, ?_⟩
  have sz : (s1.heap.push { cls := .type "tuple_iterator", data := .fields #[.ref a, .int 0 0] }).objs.size = s1.heap.objs.size + 1 := Heap.size_push ..
  show _ ∧ _
  rw [sz]
  have he := Heap.get?_push_size (s1.heap.push { cls := .type "tuple_iterator", data := .fields #[.ref a, .int 0 0] }) (o := { cls := .type "enumerate", data := .fields #[.none, .bool false, .ref s1.heap.objs.size, rawInt 0, .none, .none] }) rfl
  rw [sz] at he
  have keep : ∀ b o, s1.heap.get? b = some o → ((s1.heap.push { cls := .type "tuple_iterator", data := .fields #[.ref a, .int 0 0] }).push { cls := .type "enumerate", data := .fields #[.none, .bool false, .ref s1.heap.objs.size, rawInt 0, .none, .none] }).get? b = some o := fun b o x => Heap.get?_push_of_some _ (Heap.get?_push_of_some _ x)
  have hit : ((s1.heap.push { cls := .type "tuple_iterator", data := .fields #[.ref a, .int 0 0] }).push { cls := .type "enumerate", data := .fields #[.none, .bool false, .ref s1.heap.objs.size, rawInt 0, .none, .none] }).get? s1.heap.objs.size = some { cls := .type "tuple_iterator", data := .fields #[.ref a, .int 0 0] } := Heap.get?_push_of_some _ (Heap.get?_push_size _ rfl)
  generalize (s1.heap.push { cls := .type "tuple_iterator", data := .fields #[.ref a, .int 0 0] }).push { cls := .type "enumerate", data := .fields #[.none, .bool false, .ref s1.heap.objs.size, rawInt 0, .none, .none] } = h' at he keep hit ⊢
  have hen : IsEnum h' (s1.heap.objs.size + 1) s1.heap.objs.size 0 .none := he
  refine ⟨⟨_, he, rfl⟩, wpAny_pyIter_enum hen ?_⟩
  have I2 : Inv X pins σ H1 { s1 with heap := h' } := I1.kept (t' := s1.toks) keep
  refine ⟨s1.heap.objs.size + 1, [s1.heap.objs.size + 1, s1.heap.objs.size], _, _, H1, rfl, I2, turn_enT a (s1.heap.objs.size + 1) s1.heap.objs.size (Nat.ne_of_lt lt) (Nat.ne_of_lt (Nat.lt_succ_of_lt lt)), ⟨⟨.none, hen⟩, ⟨_, hit, rfl, rfl⟩, Nat.succ_ne_self _⟩, fun b hb => ?_, q⟩
  have hb' : b = s1.heap.objs.size + 1 ∨ b = s1.heap.objs.size := by simpa using hb
  have le : s1.heap.objs.size ≤ b := by
    rcases hb' with rfl | rfl
    · exact Nat.le_add_right _ _
    · exact Nat.le_refl _
  exact I1.fpOk le (I1.hok.fresh le)
section
variable {X : Cx} {W : WX} {τ : Type} [Sto τ] {K : Fg}
def fEnumT : List D → Option (List D)
  | [.tup ds] => some (enumD ds)
  | _ => none
@[simp] theorem fEnumT_tup {ds : List D} : fEnumT [.tup ds] = some (enumD ds) := rfl
theorem rIt_enumT {I : Fp → Hp → Prop} {F0 F : Fp} {H H' : Hp} {a : Addr} {vs : List V} {ds : List D} (hl : TupF K F H' a vs) (r : Reps K F H' vs ds) : rIt K I F0 F H H' (IteT K a) (enumD ds) := by
  have w : Walk (IteT K a) (enumD ds).length (fun H => SqT K H a vs) (YPair (fun i => some (.int (i : Nat))) (fun i => vs[i]?)) := by
    rw [show (enumD ds).length = vs.length by unfold enumD; rw [List.length_mapIdx, r.length]]
    refine ⟨fun i H hi g => ⟨vs, vs[i], g, List.getElem?_eq_getElem hi⟩, fun H g => ⟨vs, g, Nat.le_refl _⟩, fun i H x H' hi g y => ?_⟩
    obtain ⟨T, x0, rfl, nT, rfl, hx⟩ := y
    exact ⟨T, _, x0, rfl, nT, rfl, rfl, hx vs g⟩
  refine ⟨_, _, w, fun H2 s => (hl.step ⟨s, fun _ z => .inl z⟩).sq, fun Fc i H2 x H3 hi s dm y => ?_⟩
  obtain ⟨T, x0, y0, rfl, nT, rfl, e1, e2⟩ := y
  cases e1
  obtain ⟨d, ed, q⟩ := (r.step s).getV e2
  exact ⟨same_upd nT, .tup [.int (i : Nat), d], by unfold enumD; rw [List.getElem?_mapIdx, ed]; rfl, Rep.newTup (.cons (.int _) (.cons q .nil)) dm nT⟩
theorem mi_enumT {e : Expr} {p pos tpos : Pos} {elts : List Expr} {kk : Nat} {m : ME τ (List D)} (hg : Gl X "enumerate") (hm : X.mg "enumerate" = none) (ha : PA X [e] (tA X.K W m)) (hs : starEach [e] X.env = [(false, eval e X.env)] := by rfl) :
    PI X (.Tuple elts kk tpos) (.Call (.Name "enumerate" p) [e] [] pos) (tI X.K W (e1 fEnumT m)) := PI.imp (pi_enumT hg hm ha hs) fun σ H R ⟨C, ρ, t, A, p⟩ => by
  refine use okI A p fun d t1 v H1 e1 s1 A1 r1 p1 => ?_
  unfold fEnumT at p1
  split at p1
  · cases r1 with
    | cons r rr =>
      cases rr
      cases r with
      | tup h rs => exact ⟨_, _, rfl, h.sq, p1 _ H1 (Sm.refl _ _) A1.st (rIt_enumT h rs)⟩
  · exact p1.elim
def fEnum2 : List D → Option (List D)
  | [.tup ds] => some (enumD ds)
  | [.lst ds] => some (enumD ds)
  | _ => none
@[simp] theorem fEnum2_tup {ds : List D} : fEnum2 [.tup ds] = some (enumD ds) := rfl
@[simp] theorem fEnum2_lst {ds : List D} : fEnum2 [.lst ds] = some (enumD ds) := rfl
theorem PI.or {tg e : Expr} {t t' : TI} (h : PI X tg e t) (h' : PI X tg e t') : PI X tg e (fun σ H Q => t σ H Q ∨ t' σ H Q) := ⟨fun pins s σ H R I q => q.elim (h.run pins s σ H R I) (h'.run pins s σ H R I)⟩
theorem mi_enum2 {e : Expr} {p pos tpos : Pos} {elts : List Expr} {kk : Nat} {m : ME τ (List D)} (hg : Gl X "enumerate") (hm : X.mg "enumerate" = none) (ha : PA X [e] (tA X.K W m)) (hs : starEach [e] X.env = [(false, eval e X.env)] := by rfl) :
    PI X (.Tuple elts kk tpos) (.Call (.Name "enumerate" p) [e] [] pos) (tI X.K W (e1 fEnum2 m)) := PI.imp (PI.or (mi_enumT hg hm ha hs) (mi_enum hg hm ha hs)) fun σ H R ⟨C, ρ, t, A, p⟩ => by
  have key : e1 fEnum2 m ρ t = e1 fEnumT m ρ t ∨ e1 fEnum2 m ρ t = e1 fEnum m ρ t := by
    unfold e1
    cases m ρ t with
    | ok ds t1 =>
      show opt (fEnum2 ds) t1 = opt (fEnumT ds) t1 ∨ opt (fEnum2 ds) t1 = opt (fEnum ds) t1
      rcases ds with _ | ⟨d, _ | ⟨d2, dr⟩⟩
      · exact .inl rfl
      · cases d <;> first
          | exact .inl rfl
          | exact .inr rfl
      · left
        cases d <;> rfl
    | ex n fs t1 => exact .inl rfl
    | bad => exact .inl rfl
  rcases key with k | k
  · exact .inl ⟨C, ρ, t, A, k ▸ p⟩
  · exact .inr ⟨C, ρ, t, A, k ▸ p⟩
end
end MM

namespace MM
open PySem PySem.Spec PyProof.Rows L2
section
variable {τ : Type} [Sto τ] {X : Cx} {W : WX} {K : Fg}
abbrev MSf (τ : Type) := Rho → τ → Res τ (List D)
def SPostF (K : Fg) (W : WX) (C : SC τ) (F1 : Fp) (H : Hp) (r : Res τ (List D)) (Q : VK) : Prop := match r with
  | .ok ds t' => ∀ a vs H', Stp F1 H (fun b => C.F b ∨ b = a) H' → ¬ C.F a → H' a = some (.lst vs) → Reps K (fun b => C.F b ∨ b = a) H' vs ds → C.Iv t' (fun b => C.F b ∨ b = a) H' → Q (.ref a) H'
  | .ex n fs t' => ∀ cls dd σ' H' G, (∀ b, C.F b → G b) → Stp F1 H G H' → C.Iv t' G H' → XRep K G H' n fs cls dd → W cls dd σ' H'
  | .bad => False
theorem SPostF.rebase {C : SC τ} {F1 F2 : Fp} {H H1 : Hp} {r : Res τ (List D)} {Q : VK} (h : SPostF K W C F1 H r Q) (s : Stp F1 H F2 H1) : SPostF K W C F2 H1 r Q := by
  cases r with
  | ok ds t' => exact fun a vs H' s' n q r i => h a vs H' (s.trans s') n q r i
  | ex n fs t' => exact fun cls dd σ' H' G g s' i x => h cls dd σ' H' G g (s.trans s') i x
  | bad => exact h
def tSf (K : Fg) (W : WX) (m : MSf τ) : TS := fun E σ H => ∃ (C : SC τ) (ρ : Rho) (t : τ), At K C ρ t σ H ∧ SPostF K W C (Fo C.F ρ σ) H (m ρ t) E.rt
def FPostF (K : Fg) (C : SC τ) (H : Hp) (r : Res τ (List D)) (Q : VK) (E : XK) : Prop := match r with
  | .ok ds t' => ∀ a vs H', Stp C.F H (fun b => C.F b ∨ b = a) H' → ¬ C.F a → H' a = some (.lst vs) → Reps K (fun b => C.F b ∨ b = a) H' vs ds → C.Iv t' (fun b => C.F b ∨ b = a) H' → Q (.ref a) H'
  | .ex n fs t' => ∀ cls dd H', Sm C.F H H' → C.Iv t' C.F H' → XRep K C.F H' n fs cls dd → E cls dd H'
  | .bad => False
def spFF (np : Nat) (K : Fg) (m : List D → τ → Res τ (List D)) : Sp := fun vs H Q E => ∃ (C : SC τ) (ds : List D) (t : τ), Sto.ok K C ∧ C.Iv t C.F H ∧ Reps K C.F H vs ds ∧ ds.length = np ∧ FPostF K C H (m ds t) Q E
def runF (n : Nat) (mb : MSf τ) : List D → τ → Res τ (List D) := fun ds t => mb (ds.map Slot.val ++ List.replicate (n - ds.length) .no) t
theorem fn_mkF {P : Program} {w : World} {K : Fg} {mg : Str → Option Value} {base : Heap} {x qual : Str} {params : Arguments} {body : List Stmt} {scope : Scope} {dvs : List V} {kws : List (Str × V)} {f : Addr} {fd : FuncData} {N ps : List Str} {k : Nat}
    (F : FunD K x qual params body scope dvs kws f fd) (S : FnScope N ps scope) (mb : MSf τ)
    (hb : ∀ (cdv : Value) (A : Around) (outer : List Env) (s : Shared) (H : Hp) (E : XK), Room k (A.deeper (envOfC qual scope s.heap.objs.size f cdv)) →
      PSs (cxOf (L2.CX P w) P w K mg base N qual scope f cdv A outer s H E) body (tSf K (fun cls d _ H => E cls d H) mb)) : FnOk P w K mg base (L2.CX P w) (k + 1) f fd ps (spFF ps.length K (runF N.length mb)) := by
  have hpl : ps.length ≤ N.length := by have := congrArg List.length S.pre; rw [List.length_take] at this; omega
  refine F.ok S (fun vs H Q E ⟨C, ds, t, _, _, r, hl, _⟩ => r.length.trans hl) fun cdv A outer s H vs Q E hr ⟨C, ds, t, okC, iv, r, hl, p⟩ => ⟨_, hb cdv A outer s H E hr, C, _, t, At.start okC iv r (by rw [hl]; exact hpl), ?_⟩
  unfold runF at p
  cases e : mb (ds.map Slot.val ++ List.replicate (N.length - ds.length) .no) t with
  | ok xs t' =>
    rw [e] at p
    exact fun a vs H' s' n q r i => p a vs H' ⟨fun b o n e => s'.keep b o (fun z => n (FoStart z)) e, fun b h => (s'.new b h).elim (fun z => .inl (FoStart z)) .inr⟩ n q r i
  | ex n fs t' =>
    rw [e] at p
    exact fun cls dd σ' H' G g s' i x => p cls dd H' (fun b o n e => s'.keep b o (fun z => n (FoStart z)) e) (C.less i g) (x.anti g)
  | bad => rw [e] at p; exact p.elim
structure DefF (P : Program) (w : World) (K : Fg) (mg : Str → Option Value) (base : Heap) (k : Nat) (x : Str) (np : Nat) (m : List D → τ → Res τ (List D)) : Prop where
  ex : ∃ (fd : FuncData) (ps : List Str) (ds : List Value), FnOk P w K mg base (L2.CX P w) k (He.ga K x) fd ps (spFF np K m) ∧ mg x = some (.ref (He.ga K x)) ∧ PySem.W.keepIn K (.ref (He.ga K x)) = true ∧ Binds K fd ps ds ∧ Vals [] ds
theorem DefF.mk' {P : Program} {w : World} {K : Fg} {mg : Str → Option Value} {base : Heap} {x qual : Str} {params : Arguments} {body : List Stmt} {scope : Scope} {dvs : List V} {kws : List (Str × V)} {fd : FuncData} {N ps : List Str} {k : Nat}
    (F : FunD K x qual params body scope dvs kws (He.ga K x) fd) (hm : mg x = some (.ref (He.ga K x))) (S : FnScope N ps scope) (mb : MSf τ) (hb : ∃ ds, Vals [] ds ∧ Binds K fd ps ds)
    (hbody : ∀ (cdv : Value) (A : Around) (outer : List Env) (s : Shared) (H : Hp) (E : XK), Room k (A.deeper (envOfC qual scope s.heap.objs.size (He.ga K x) cdv)) →
      PSs (cxOf (L2.CX P w) P w K mg base N qual scope (He.ga K x) cdv A outer s H E) body (tSf K (fun cls d _ H => E cls d H) mb)) : DefF P w K mg base (k + 1) x ps.length (runF N.length mb) := by
  obtain ⟨ds, h1, h2⟩ := hb
  exact ⟨fd, ps, ds, fn_mkF F S mb hbody, hm, F.kp, h2, h1⟩
theorem DefF.mono {P : Program} {w : World} {K : Fg} {mg : Str → Option Value} {base : Heap} {j k : Nat} {x : Str} {np : Nat} {m : List D → τ → Res τ (List D)} (F : DefF P w K mg base j x np m) (h : j ≤ k) : DefF P w K mg base k x np m := by
  obtain ⟨fd, ps, ds, F, r⟩ := F.ex
  exact ⟨fd, ps, ds, F.mono h, r⟩
end
section
variable {τ : Type} [Sto τ] {X : Cx} {W : WX}
end
section
variable {τ : Type} [Sto τ] {X : Cx} {W : WX}
end
section
variable {τ α : Type} {X : Str → Fds → τ → Prop} {ρ : Rho} {t : τ}
@[simp] theorem oE_runF {n : Nat} {b : MSf τ} {ds : List D} {Q : List D → τ → Prop} : oE (runF n b ds t) Q X = oE (b (ds.map Slot.val ++ List.replicate (n - ds.length) .no) t) Q X := rfl
end
end MM

namespace MM
open PySem PySem.Spec PyProof.Rows L2
section
variable {τ : Type} [Sto τ] {X : Cx} {W : WX}
end
section
variable {X : Cx} {K : Fg}
end
end MM

namespace MM
open PySem PySem.Spec PyProof.Rows L2
section
variable {X : Cx} {W : WX} {τ : Type} [Sto τ] {K : Fg}
end
section
variable {τ : Type} {Q : D → τ → Prop} {X : Str → Fds → τ → Prop} {ρ : Rho} {t : τ}
end
end MM

namespace MM
open PySem PySem.Spec PyProof.Rows L2
section
variable {X : Cx} {W : WX} {τ : Type} [Sto τ] {K : Fg}
end
end MM

namespace MM
open PySem PySem.Spec PyProof.Rows L2
section
variable {prog : Program} {w : World} {A : Around} {E : Value → Shared → Prop} {s : Shared}
end
section
variable {X : Cx} {τ : Type} [Sto τ] {K : Fg}
end
end MM

namespace MM
open PySem PySem.Spec PyProof.Rows L2
section
variable {X : Cx} {τ : Type} [Sto τ] {W : WX}
end
section
variable {τ : Type} {P : MM.Pt τ} {ρ : Rho} {t : τ}
end
end MM

namespace MM
open PySem PySem.Spec PyProof.Rows L2
section
variable {prog : Program} {w : World} {A : Around} {E : Value → Shared → Prop} {s : Shared}
end
section
variable {X : Cx}
variable {W : WX} {τ : Type} [Sto τ]
end
end MM

namespace MM
open PySem PySem.Spec PyProof.Rows L2
section
variable {X : Cx} {W : WX} {τ : Type} [Sto τ] {K : Fg}
end
section
variable {τ : Type} {Q : D → τ → Prop} {X : Str → Fds → τ → Prop} {ρ : Rho} {t : τ}
end
end MM

namespace MM
open PySem PySem.Spec PyProof.Rows L2
section
variable {X : Cx} {K : Fg}
theorem Reps.rep {F : Fp} {H : Hp} {vs : List V} {ds : List D} (r : Reps K F H vs ds) : ∀ k, Reps K F H (List.replicate k vs).flatten (List.replicate k ds).flatten
  | 0 => .nil
  | k + 1 => by
    rw [List.replicate_succ, List.replicate_succ, List.flatten_cons, List.flatten_cons]
    exact Reps.append r (Reps.rep r k)
variable {W : WX} {τ : Type} [Sto τ]
end
end MM

namespace MM
open PySem PySem.Spec PyProof.Rows L2
section
variable {X : Cx} {W : WX} {τ : Type} [Sto τ]
end
section
variable {τ : Type} {Q : D → τ → Prop} {X : Str → Fds → τ → Prop} {ρ : Rho} {t : τ}
end
end MM

namespace MM
open PySem PySem.Spec PyProof.Rows L2
section
variable {X : Cx} {W : WX} {τ : Type} [Sto τ]
end
section
variable {τ : Type} {Q : List D → τ → Prop} {X : Str → Fds → τ → Prop} {ρ : Rho} {t : τ}
end
end MM

namespace MM
open PySem PySem.Spec PyProof.Rows L2
section
variable {X : Cx} {W : WX} {τ : Type} [Sto τ] {K : Fg}
end
end MM

namespace MM
open PySem PySem.Spec PyProof.Rows L2
section
variable {J : It} {n : Nat} {G : Hp → Prop} {Y : Nat → Hp → V → Hp → Prop}
end
section
variable {X : Cx} {W : WX} {τ : Type} [Sto τ] {K : Fg}
end
section
variable {τ : Type} {Q : List D → τ → Prop} {X : Str → Fds → τ → Prop} {ρ : Rho} {t : τ} {vs vs1 : List Nat} {g g1 : Tgt} {tt tt1 : ME τ Bool} {mi mi1 : ME τ (List D)} {te : ME τ D}
end
end MM

namespace MM
open PySem PySem.Spec PyProof.Rows L2
section
variable {X : Cx} {W : WX} {τ : Type} [Sto τ] {K : Fg}
end
end MM

namespace MM
open PySem PySem.Spec PyProof.Rows L2
section
variable {K : Fg}
end
end MM

namespace MM
open PySem PySem.Spec PyProof.Rows L2
structure Nxr (it l : Addr) (S : Heap → Nat → Prop) (L : Heap → Prop) (xs : Array Value) : Prop where
  sat : ∀ {h h' : Heap} {i : Nat}, S h i → (∀ o, h.get? it = some o → h'.get? it = some o) → S h' i
  lat : ∀ {h h' : Heap}, L h → (∀ o, h.get? l = some o → h'.get? l = some o) → L h'
  lt : ∀ {h : Heap} {i : Nat}, S h i → it < h.objs.size
  item : ∀ {prog : Program} {w : World} {A : Around} {E : Value → Shared → Prop} {s : Shared} {i : Nat} {x : Value} {Q : Value → Shared → Prop}, S s.heap i → L s.heap → xs[i]? = some x →
    (∀ h', S h' (i + 1) → Heap.SameBut it s.heap h' → Q x { s with heap := h' }) → wpAny (model prog w) A (Builtin.SmallTypes.nextOf (.ref it)) Q E s
  stop : ∀ {prog : Program} {w : World} {A : Around} {E : Value → Shared → Prop} {s : Shared} {i : Nat} {Q : Value → Shared → Prop}, A.handled = none → S s.heap i → L s.heap → xs[i]? = none →
    (∀ h' e, Heap.ExtBut it s.heap h' → (∃ o, h'.get? e = some o ∧ o.cls = .type "StopIteration") → E (.ref e) { s with heap := h' }) → wpAny (model prog w) A (Builtin.SmallTypes.nextOf (.ref it)) Q E s
theorem Nxr.lst {it l : Addr} {xs : Array Value} : Nxr it l (fun h i => h.IsListIter it l i) (fun h => h.IsList l xs) xs :=
  ⟨fun a k => a.at k, fun a k => a.at k, fun a => by obtain ⟨_, e, _⟩ := a; exact Heap.lt_size e, fun a b c d => wpAny_nextOf_list_item a b c d, fun a b c d e => wpAny_nextOf_list_end a b c d e⟩
theorem Nxr.tup {it l : Addr} {xs : Array Value} : Nxr it l (fun h i => h.IsTupleIter it l i) (fun h => h.IsTuple l xs) xs :=
  ⟨fun a k => a.at k, fun a k => a.at k, fun a => by obtain ⟨_, e, _⟩ := a; exact Heap.lt_size e, fun a b c d => RZ.nextOf_tuple_item a b c d, fun a b c d e => RZ.nextOf_tuple_end a b c d e⟩
section
variable {it l : Addr} {S : Heap → Nat → Prop} {L : Heap → Prop} {xs : Array Value}
theorem Nxr.sx (N : Nxr it l S L xs) {h h' : Heap} {b : Addr} {i : Nat} (x : S h i) (e : Heap.ExtBut b h h') (d : it ≠ b) : S h' i := N.sat x fun o q => e _ o d q
theorem Nxr.lx (N : Nxr it l S L xs) {h h' : Heap} {b : Addr} (x : L h) (e : Heap.ExtBut b h h') (d : l ≠ b) : L h' := N.lat x fun o q => e _ o d q
end
section
variable {prog : Program} {w : World} {A : Around} {E : Value → Shared → Prop} {s : Shared} {z TI TO i1 i2 l1 l2 : Addr} {S1 S2 : Heap → Nat → Prop} {L1 L2 : Heap → Prop} {k1 k2 : Nat} {xs ys : Array Value} {x y a b : Value}
theorem zipN_item {Q : Value → Shared → Prop} (N1 : Nxr i1 l1 S1 L1 xs) (N2 : Nxr i2 l2 S2 L2 ys) (D : ZipApart z TI TO i1 i2 l1 l2) (hz : IsZip s.heap z TI TO .none) (hTI : IsPair s.heap TI (.ref i1) (.ref i2)) (hTO : IsPair s.heap TO a b)
    (h1 : S1 s.heap k1) (h2 : S2 s.heap k2) (hl1 : L1 s.heap) (hl2 : L2 s.heap) (hx : xs[k1]? = some x) (hy : ys[k2]? = some y)
    (hQ : ∀ h', IsZip h' z TI TO (rawInt s.heap.objs.size) → IsPair h' TO x y → S1 h' (k1 + 1) → S2 h' (k2 + 1) → IsPair h' s.heap.objs.size x y → h'.objs.size = s.heap.objs.size + 1 →
      (∀ c o, c ≠ z → c ≠ TO → c ≠ i1 → c ≠ i2 → s.heap.get? c = some o → h'.get? c = some o) → Q (.ref s.heap.objs.size) { s with heap := h' }) :
    wpAny (model prog w) A (Builtin.«zip.__next__» ⟨[.ref z], []⟩) (fun fin s' => ∃ v, fin = .done (.ret v) ∧ Q v s') E s := by
  show wpAny _ _ (field (.ref z) 2 >>= _) _ _ _
  refine wpAny_bind (wpAny_field hz rfl (x := .bool false) rfl ?_)
  show wpAny _ _ (field (.ref z) 3 >>= _) _ _ _
  refine wpAny_bind (wpAny_field hz rfl (x := .ref TI) rfl (wpAny_bind (wpAny_seqItems hTI rfl ?_)))
  show wpAny _ _ (Builtin.SmallTypes.ownedTupleIsFree (.ref z) >>= _) _ _ _
  refine wpAny_bind ?_
  unfold Builtin.SmallTypes.ownedTupleIsFree
  refine wpAny_bind (wpAny_field hz rfl (x := .none) rfl (wpAny_pure ?_))
  simp only [if_true]
  refine wpAny_bind (wpAny_rule (wpAny_bind (wpAny_field hz rfl (x := .ref TO) rfl (wpAny_bind (wpAny_setField_rec hz (by simp) fun g1 z1 e1 => ?_)))))
  replace z1 : IsZip g1 z TI TO .ellipsis := z1
  refine wpAny_bind ?_
  simp only [List.zipIdx_cons, List.zipIdx_nil, List.forIn_cons, List.forIn_nil]
  refine wpAny_bind (wpAny_bind (wpAny_onRaise ?_))
  show wpAny _ _ (Builtin.SmallTypes.nextOf (.ref i1) >>= _) _ _ _
  refine wpAny_bind (N1.item (N1.sx h1 e1.extBut D.i1z) (N1.lx hl1 e1.extBut D.l1z) hx fun g2 a1 e2 => wpAny_pure ?_)
  have t2 : IsPair g2 TO a b := e2.extBut _ _ D.TOi1 (e1.extBut _ _ D.TOz hTO)
  refine wpAny_bind (wpAny_seqItems t2 rfl (wpAny_bind (wpAny_updateSeq_pair t2 fun g3 t3 e3 => ?_)))
  replace t3 : IsPair g3 TO x b := t3
  refine wpAny_bind (wpAny_letGo (wpAny_pure (wpAny_bind (wpAny_bind (wpAny_onRaise ?_)))))
  show wpAny _ _ (Builtin.SmallTypes.nextOf (.ref i2) >>= _) _ _ _
  refine wpAny_bind (N2.item (N2.sx (N2.sx (N2.sx h2 e1.extBut D.i2z) e2.extBut D.i12.symm) e3.extBut D.TOi2.symm) (N2.lx (N2.lx (N2.lx hl2 e1.extBut D.l2z) e2.extBut D.l2i1) e3.extBut D.l2TO) hy fun g4 a2 e4 => wpAny_pure ?_)
  have t4 : IsPair g4 TO x b := e4.extBut _ _ D.TOi2 t3
  refine wpAny_bind (wpAny_seqItems t4 rfl (wpAny_bind (wpAny_updateSeq_pair t4 fun g5 t5 e5 => ?_)))
  replace t5 : IsPair g5 TO x y := t5
  refine wpAny_bind (wpAny_letGo (wpAny_pure (wpAny_pure (wpAny_bind (wpAny_seqItems t5 rfl (wpAny_bind (wpAny_newTuple ?_)))))))
  have hsz : g5.objs.size = s.heap.objs.size := by rw [e5.1, e4.1, e3.1, e2.1, e1.1]
  have z5 : IsZip g5 z TI TO .ellipsis := e5.extBut _ _ D.TOz.symm (e4.extBut _ _ D.i2z.symm (e3.extBut _ _ D.TOz.symm (e2.extBut _ _ D.i1z.symm z1)))
  have k5 : ∀ c o, c ≠ z → c ≠ TO → c ≠ i1 → c ≠ i2 → s.heap.get? c = some o → g5.get? c = some o := fun c o c1 c2 c3 c4 e => e5.extBut _ _ c2 (e4.extBut _ _ c4 (e3.extBut _ _ c2 (e2.extBut _ _ c3 (e1.extBut _ _ c1 e))))
  have b1 : S1 g5 (k1 + 1) := N1.sx (N1.sx (N1.sx a1 e3.extBut D.TOi1.symm) e4.extBut D.i12) e5.extBut D.TOi1.symm
  have b2 : S2 g5 (k2 + 1) := N2.sx a2 e5.extBut D.TOi2.symm
  have zl : z < g5.objs.size := Heap.lt_size z5
  show wpAny _ _ (Builtin.SmallTypes.ownedTupleHandOut (.ref z) (.ref g5.objs.size) >>= _) _ _ _
  refine wpAny_bind ?_
  unfold Builtin.SmallTypes.ownedTupleHandOut
  have z6 : IsZip (g5.push { cls := .type "tuple", data := .seq #[x, y] }) z TI TO .ellipsis := Heap.get?_push_of_some _ z5
  refine wpAny_bind (wpAny_setField_rec z6 (by simp) fun g7 z7 e7 => ?_)
  replace z7 : IsZip g7 z TI TO (rawInt g5.objs.size) := z7
  refine wpAny_setField_rec z7 (by simp) fun g8 z8 e8 => ?_
  replace z8 : IsZip g8 z TI TO (rawInt g5.objs.size) := z8
  have up : ∀ c o, c ≠ z → g5.get? c = some o → g8.get? c = some o := fun c o c1 e => e8.extBut _ _ c1 (e7.extBut _ _ c1 (Heap.get?_push_of_some _ e))
  have t8 : IsPair g8 g5.objs.size x y := e8.extBut _ _ (Nat.ne_of_gt zl) (e7.extBut _ _ (Nat.ne_of_gt zl) (Heap.get?_push_size _ rfl))
  have s8 : g8.objs.size = g5.objs.size + 1 := by rw [e8.1, e7.1, Heap.size_push]
  rw [hsz] at z8 t8 s8
  refine wpAny_pure ⟨_, rfl, ?_⟩
  show Q (.ref g5.objs.size) _
  rw [hsz]
  exact hQ g8 z8 (up _ _ D.TOz t5) (N1.sat b1 fun o e => up _ o D.i1z e) (N2.sat b2 fun o e => up _ o D.i2z e) t8 s8 fun c o c1 c2 c3 c4 e => up c o c1 (k5 c o c1 c2 c3 c4 e)
theorem zipN_end {Q : Fin → Shared → Prop} (hh : A.handled = none) (N1 : Nxr i1 l1 S1 L1 xs) (N2 : Nxr i2 l2 S2 L2 ys) (D : ZipApart z TI TO i1 i2 l1 l2) (hz : IsZip s.heap z TI TO .none) (hTI : IsPair s.heap TI (.ref i1) (.ref i2)) (hTO : IsPair s.heap TO a b)
    (h1 : S1 s.heap k1) (h2 : S2 s.heap k2) (hl1 : L1 s.heap) (hl2 : L2 s.heap) (hend : xs[k1]? = none ∨ ys[k2]? = none)
    (hE : ∀ h' e, (∀ c o, c ≠ z → c ≠ TO → c ≠ i1 → c ≠ i2 → s.heap.get? c = some o → h'.get? c = some o) → (∃ o, h'.get? e = some o ∧ o.cls = .type "StopIteration") → E (.ref e) { s with heap := h' }) :
    wpAny (model prog w) A (Builtin.«zip.__next__» ⟨[.ref z], []⟩) Q E s := by
  show wpAny _ _ (field (.ref z) 2 >>= _) _ _ _
  refine wpAny_bind (wpAny_field hz rfl (x := .bool false) rfl ?_)
  show wpAny _ _ (field (.ref z) 3 >>= _) _ _ _
  refine wpAny_bind (wpAny_field hz rfl (x := .ref TI) rfl (wpAny_bind (wpAny_seqItems hTI rfl ?_)))
  show wpAny _ _ (Builtin.SmallTypes.ownedTupleIsFree (.ref z) >>= _) _ _ _
  refine wpAny_bind ?_
  unfold Builtin.SmallTypes.ownedTupleIsFree
  refine wpAny_bind (wpAny_field hz rfl (x := .none) rfl (wpAny_pure ?_))
  simp only [if_true]
  refine wpAny_bind (wpAny_rule (wpAny_bind (wpAny_field hz rfl (x := .ref TO) rfl (wpAny_bind (wpAny_setField_rec hz (by simp) fun g1 z1 e1 => ?_)))))
  replace z1 : IsZip g1 z TI TO .ellipsis := z1
  refine wpAny_bind ?_
  simp only [List.zipIdx_cons, List.zipIdx_nil, List.forIn_cons, List.forIn_nil]
  refine wpAny_bind (wpAny_bind (wpAny_onRaise ?_))
  show wpAny _ _ (Builtin.SmallTypes.nextOf (.ref i1) >>= _) _ _ _
  have zne : ∀ {h : Heap} {e : Addr} {f : Value}, IsZip h z TI TO f → (∃ o, h.get? e = some o ∧ o.cls = .type "StopIteration") → e ≠ z := fun q ⟨o, ho, hc⟩ k => by
    subst k
    rw [q] at ho
    cases ho
    simp at hc
  cases hx : xs[k1]? with
  | none =>
    refine wpAny_bind (N1.stop hh (N1.sx h1 e1.extBut D.i1z) (N1.lx hl1 e1.extBut D.l1z) hx fun g2 e e2 he => ?_)
    have z2 : IsZip g2 z TI TO .ellipsis := e2 _ _ D.i1z.symm z1
    have ez := zne z2 he
    obtain ⟨oe, hoe, hce⟩ := he
    refine wpAny_setField_rec z2 (by simp) fun g3 _ e3 => hE g3 e (fun c o c1 _ c3 _ q => e3.extBut _ _ c1 (e2 _ _ c3 (e1.extBut _ _ c1 q))) ⟨oe, e3.extBut _ _ ez hoe, hce⟩
  | some x =>
    have hy : ys[k2]? = none := by
      rcases hend with q | q
      · rw [hx] at q; cases q
      · exact q
    refine wpAny_bind (N1.item (N1.sx h1 e1.extBut D.i1z) (N1.lx hl1 e1.extBut D.l1z) hx fun g2 a1 e2 => wpAny_pure ?_)
    have t2 : IsPair g2 TO a b := e2.extBut _ _ D.TOi1 (e1.extBut _ _ D.TOz hTO)
    refine wpAny_bind (wpAny_seqItems t2 rfl (wpAny_bind (wpAny_updateSeq_pair t2 fun g3 t3 e3 => ?_)))
    refine wpAny_bind (wpAny_letGo (wpAny_pure (wpAny_bind (wpAny_bind (wpAny_onRaise ?_)))))
    show wpAny _ _ (Builtin.SmallTypes.nextOf (.ref i2) >>= _) _ _ _
    refine wpAny_bind (N2.stop hh (N2.sx (N2.sx (N2.sx h2 e1.extBut D.i2z) e2.extBut D.i12.symm) e3.extBut D.TOi2.symm) (N2.lx (N2.lx (N2.lx hl2 e1.extBut D.l2z) e2.extBut D.l2i1) e3.extBut D.l2TO) hy fun g4 e e4 he => ?_)
    have z4 : IsZip g4 z TI TO .ellipsis := e4 _ _ D.i2z.symm (e3.extBut _ _ D.TOz.symm (e2.extBut _ _ D.i1z.symm z1))
    have ez := zne z4 he
    obtain ⟨oe, hoe, hce⟩ := he
    refine wpAny_setField_rec z4 (by simp) fun g5 _ e5 => hE g5 e (fun c o c1 c2 c3 c4 q => e5.extBut _ _ c1 (e4 _ _ c4 (e3.extBut _ _ c2 (e2.extBut _ _ c3 (e1.extBut _ _ c1 q))))) ⟨oe, e5.extBut _ _ ez hoe, hce⟩
end
section
variable {prog : Program} {w : World} {A : Around} {E : Value → Shared → Prop} {s : Shared} {z TI TO i1 i2 l1 l2 : Addr} {S1 S2 : Heap → Nat → Prop} {L1 L2 : Heap → Prop} {k1 k2 : Nat} {xs ys : Array Value} {x y a b : Value}
theorem pyNextN_item {Q : Option Value → Shared → Prop} (N1 : Nxr i1 l1 S1 L1 xs) (N2 : Nxr i2 l2 S2 L2 ys) (D : ZipApart z TI TO i1 i2 l1 l2) (hz : IsZip s.heap z TI TO .none) (hTI : IsPair s.heap TI (.ref i1) (.ref i2)) (hTO : IsPair s.heap TO a b)
    (h1 : S1 s.heap k1) (h2 : S2 s.heap k2) (hl1 : L1 s.heap) (hl2 : L2 s.heap) (hx : xs[k1]? = some x) (hy : ys[k2]? = some y)
    (hQ : ∀ h', IsZip h' z TI TO (rawInt s.heap.objs.size) → IsPair h' TO x y → S1 h' (k1 + 1) → S2 h' (k2 + 1) → IsPair h' s.heap.objs.size x y → h'.objs.size = s.heap.objs.size + 1 →
      (∀ c o, c ≠ z → c ≠ TO → c ≠ i1 → c ≠ i2 → s.heap.get? c = some o → h'.get? c = some o) → Q (some (.ref s.heap.objs.size)) { s with heap := h' }) : wpAny (model prog w) A (pyNext (.ref z)) Q E s := by
  have hT : s.TypeIs (.ref z) "zip" := ⟨_, hz, rfl⟩
  unfold pyNext
  exact wpAny_bind (wpAny_attempt (wpAny_callSpecial?_slot (name := Str.ofString "__next__") hT F.slot_zip_next (wpAny_call_entry F.slot_zip_next hT F.entry_zip_next
    (zipN_item N1 N2 D hz hTI hTO h1 h2 hl1 hl2 hx hy fun h' a1 a2 a3 a4 a5 a6 a7 => wpAny_pure (hQ h' a1 a2 a3 a4 a5 a6 a7)) (F.args_zip_next_1 _))))
theorem pyNextN_end {Q : Option Value → Shared → Prop} (hh : A.handled = none) (N1 : Nxr i1 l1 S1 L1 xs) (N2 : Nxr i2 l2 S2 L2 ys) (D : ZipApart z TI TO i1 i2 l1 l2) (hz : IsZip s.heap z TI TO .none) (hTI : IsPair s.heap TI (.ref i1) (.ref i2)) (hTO : IsPair s.heap TO a b)
    (h1 : S1 s.heap k1) (h2 : S2 s.heap k2) (hl1 : L1 s.heap) (hl2 : L2 s.heap) (hend : xs[k1]? = none ∨ ys[k2]? = none)
    (hQ : ∀ h', (∀ c o, c ≠ z → c ≠ TO → c ≠ i1 → c ≠ i2 → s.heap.get? c = some o → h'.get? c = some o) → Q none { s with heap := h' }) : wpAny (model prog w) A (pyNext (.ref z)) Q E s := by
  have hT : s.TypeIs (.ref z) "zip" := ⟨_, hz, rfl⟩
  unfold pyNext
  refine wpAny_bind (wpAny_attempt (wpAny_callSpecial?_slot (name := Str.ofString "__next__") hT F.slot_zip_next (wpAny_call_entry F.slot_zip_next hT F.entry_zip_next (zipN_end hh N1 N2 D hz hTI hTO h1 h2 hl1 hl2 hend fun h' e hk he => ?_) (F.args_zip_next_1 _))))
  obtain ⟨o, ho, hc⟩ := he
  exact wpAny_bind (wpAny_isInstance (T := "StopIteration") (b := true) ⟨o, ho, hc⟩ isSubtype_stop (wpAny_pure (hQ _ hk)))
end
section
variable {X : Cx} {W : WX} {τ : Type} [Sto τ] {K : Fg}
end
end MM

namespace MM
open PySem PySem.Spec PyProof.Rows L2
open ClX (CRead)
section
variable {X : Cx} {o e : Expr} {es : List Expr} {to te : TE} {ta : TA} {B f : Str} {p p' p1 p2 pos : Pos}
end
section
variable {X : Cx} {W : WX} {τ : Type} [Sto τ] {K : Fg}
end
section
variable {X : Cx} {W : WX} {τ : Type} [Sto τ] {K : Fg}
end
end MM
namespace MM
open PySem PySem.Spec PyProof.Rows L2
section
variable {τ : Type} {P : Pt τ} {ρ : Rho} {t : τ}
end
end MM

namespace MM
open PySem PySem.Spec PyProof.Rows L2
section
variable {prog : Program} {w : World} {A : Around} {P : Nat → Value → Prop}
end
section
variable {prog : Program} {w : World} {A : Around} {E : Value → Shared → Prop} {s : Shared} {x y : Str} {t u : Tok} {Q : Value → Shared → Prop}
end
section
variable {X : Cx} {K : Fg}
end
end MM
namespace PySem.W
open PySem PySem.Spec PySem.Calls PyProof.Rows
section
variable {prog : Program} {w : World} {A : Around} {E : Value → Shared → Prop} {s : Shared} {K : Frag} {x D : Addr} {ox : Obj} {od : Option Obj}
end
end PySem.W
namespace MM
open PySem PySem.Spec PyProof.Rows L2
section
variable {X : Cx} {a D : Addr} {oe : Obj} {cls : Value} {d : Option Addr} {pn : List (Addr × Obj)}
end
end MM

namespace MM
open PySem PySem.Spec PyProof.Rows L2
section
variable {X : Cx} {a D : Addr} {oe : Obj} {cls : Value} {d : Option Addr} {pn : List (Addr × Obj)} {i : Nat}
end
end MM

namespace MM
open PySem PySem.Spec PyProof.Rows L2
open L2H (RoomH PinOk cxH inv_startH)
structure Ec (dd : Addr) where
  fs : List (Str × V)
instance {dd : Addr} : Sto (Ec dd) where
  ok := fun _ C => ∀ t G H, C.Iv t G H → H dd = some (.xd t.fs)
  cmp := fun _ _ _ _ _ h t G H i => h t G H i.1
  ov := fun _ _ _ _ _ _ h t G H i => h t G H i.1
  lend := fun _ _ _ _ _ _ h t G H i => h t _ H i.1
section
variable {X : Cx} {W : WX} {K : Fg} {a D dd : Addr} {oe : Obj}
end
section
variable {dd a : Addr} {i : Nat} {b : Bool} {ρ : Rho} {t : Ec dd} {Q : D → Ec dd → Prop} {X : Str → Fds → Ec dd → Prop}
end
structure FnB (P : Program) (w : World) (K : Fg) (mg : Str → Option Value) (base : Heap) (CX : CXT) (p : Addr × Obj) (k : Nat) (f : Addr) (fd : FuncData) (ps : List Str) (sp : Sp) : Prop where
  len : ∀ vs H Q E, sp vs H Q E → vs.length = ps.length
  run : ∀ (A : Around) (outer : List Env) (s : Shared) (H : Hp) (args : Args) (us : List Value) (vs : List V) (Q : VK) (E : XK), RoomH k A → PinOk outer H s p → Env0 P w K mg base A outer s H → BindsTo s fd args (ps.zip us) → Vals vs us → sp vs H Q E →
    codeAny (model P w) A (.call (.ref f) args) (CR CX outer P w H s Q E) s
theorem fnB_of {P : Program} {w : World} {K : Fg} {mg : Str → Option Value} {base : Heap} {CX : CXT} {p : Addr × Obj} {x qual : Str} {params : Arguments} {body : List Stmt} {scope : Scope} {dvs : List V} {kws : List (Str × V)} {f : Addr} {fd : FuncData} {N ps : List Str} {k : Nat} {sp : Sp}
    (F : FunD K x qual params body scope dvs kws f fd) (S : FnScope N ps scope) (len : ∀ vs H Q E, sp vs H Q E → vs.length = ps.length)
    (hbody : ∀ (cdv : Value) (A : Around) (outer : List Env) (s : Shared) (H : Hp) (vs : List V) (Q : VK) (E : XK), RoomH k (A.deeper (envOfC qual scope s.heap.objs.size f cdv)) → sp vs H Q E →
      ∃ t, PSs (cxH CX P w K mg base N qual scope f cdv A outer s H E p) body t ∧ t { nx := fun _ H' => Q .non H', rt := Q } (L2.start N vs) H) : FnB P w K mg base CX p (k + 1) f fd ps sp := by
  obtain ⟨oc, od, dV, kV, doc, pm, an, cdv, ct, osl, rfl, lk, hcd, _, _⟩ := F.ex
  refine ⟨len, fun A outer s H args us vs Q E hr hpin e0 hb r hsp => ?_⟩
  have up : ∀ b o, base.get? b = some o → s.heap.get? b = some o := fun b o e => (e0.bs b o e).1
  have KX : K.In s.heap := e0.mod.kin.keeps up
  refine codeAny_call_function hr.depth (KX _ _ lk) rfl S.co S.gen rfl (PySem.W.codeRec_of KX hcd) (hb _ _ _ _ ?_)
  refine wpAny_newFunctionEnv_cells S.kind (fun ⟨n, v⟩ hy => ?_) fun env he s1 xx => ?_
  · rcases S.par n (List.of_mem_zip hy).1 with q | q
    · exact .inl q
    · exact .inr ⟨q, PySem.W.cellsFrom_some _ _ _ (.inl q)⟩
  subst he
  refine ⟨(e0.mod.nolimit.keeps up).keeps xx.toInCall.keep, codeAny_func ?_⟩
  obtain ⟨t, ht, hq⟩ := hbody cdv A outer s H vs Q E (hr.deeper _) hsp
  have I := inv_startH (CX := CX) (E := E) S hpin e0 (len _ _ _ _ hsp) r xx
  refine wpAny_mono (ht.run [] s1 (L2.start N vs) H _ I hq) (fun fl s' hs => ?_) fun e s' hs => hs
  cases fl with
  | ret u =>
    obtain ⟨v, σ', H', J, rv, q⟩ := hs
    exact ⟨v, H', J.os, J.bare, J.base, J.hok, rv, q⟩
  | next =>
    obtain ⟨σ', H', J, q⟩ := hs
    exact ⟨V.non, H', J.os, J.bare, J.base, J.hok, rfl, q⟩
  | brk => exact hs.elim fun _ h => h.elim fun _ h => h.2.elim
  | cont => exact hs.elim fun _ h => h.elim fun _ h => h.2.elim
section
variable {X : Cx} {CX : CXT} {k : Nat} {f : Addr} {fd : FuncData} {ps : List Str} {sp : Sp} {E : St → XK} {x : Str} {q pos : Pos} {e : Expr} {es : List Expr} {t : TA} {p : Addr × Obj}
end
structure DefB (P : Program) (w : World) (K : Fg) (mg : Str → Option Value) (base : Heap) (p : Addr × Obj) (k : Nat) (x : Str) (dd : Addr) (m : List D → Ec dd → Res (Ec dd) D) : Prop where
  ex : ∃ (fd : FuncData) (ps : List Str), FnB P w K mg base (L2.CX P w) p k (He.ga K x) fd ps (spF 1 K m) ∧ mg x = some (.ref (He.ga K x)) ∧ PySem.W.keepIn K (.ref (He.ga K x)) = true ∧ Binds K fd ps []
theorem DefB.mk' {P : Program} {w : World} {K : Fg} {mg : Str → Option Value} {base : Heap} {p : Addr × Obj} {dd : Addr} {x : Str} {params : Arguments} {body : List Stmt} {scope : Scope} {fd : FuncData} {N ps : List Str} {k : Nat}
    (F : FunD K x x params body scope [] [] (He.ga K x) fd) (g : mg x = some (.ref (He.ga K x))) (S : FnScope N ps scope) (hps : ps.length = 1) (hb : Binds K fd ps []) (mb : MS (Ec dd))
    (hbd : ∀ (cdv : Value) (A : Around) (outer : List Env) (s : Shared) (H : Hp) (E : XK), RoomH k (A.deeper (envOfC x scope s.heap.objs.size (He.ga K x) cdv)) →
      PSs (cxH (L2.CX P w) P w K mg base N x scope (He.ga K x) cdv A outer s H E p) body (tS K (fun cls d _ H => E cls d H) mb)) : DefB P w K mg base p (k + 1) x dd (runB N.length mb) := by
  have hpl : ps.length ≤ N.length := by have := congrArg List.length S.pre; rw [List.length_take] at this; omega
  refine ⟨fd, ps, fnB_of F S (fun vs H Q E ⟨C, ds, t, _, _, r, hl, _⟩ => r.length.trans (hl.trans hps.symm)) fun cdv A outer s H vs Q E hr ⟨C, ds, t, okC, iv, r, hl, p⟩ => ⟨_, hbd cdv A outer s H E hr, C, _, t, At.start okC iv r (by rw [hl, ← hps]; exact hpl), ?_⟩, g, F.kp, hb⟩
  unfold runB at p
  cases e : mb (ds.map Slot.val ++ List.replicate (N.length - ds.length) .no) t with
  | nx ρ' t' =>
    rw [e] at p
    exact fun σ' H' s' A' => p .non H' (fun b o n e => s'.keep b o (fun z => n (FoStart z)) e) (C.less A'.st fun _ => .inl) .non
  | rt d t' =>
    rw [e] at p
    exact fun v H' s' i r => p v H' (fun b o n e => s' b o (fun z => n (FoStart z)) e) i r
  | ex n fs ρ' t' =>
    rw [e] at p
    exact fun cls dd σ' H' s' A' x => p cls dd H' (fun b o n e => s'.keep b o (fun z => n (FoStart z)) e) (C.less A'.st fun _ => .inl) (x.anti fun _ => .inl)
  | bk ρ' t' => rw [e] at p; exact p.elim
  | ct ρ' t' => rw [e] at p; exact p.elim
  | bad => rw [e] at p; exact p.elim
section
variable {X : Cx} {W : WX} {a dd : Addr} {oe : Obj}
end
section
variable {X : Cx} {W : WX} {τ : Type} [Sto τ] {K : Fg}
end
section
variable {τ : Type} {Q : D → τ → Prop} {X : Str → Fds → τ → Prop} {ρ : Rho} {t : τ}
end
end MM

namespace MM
open PySem PySem.Spec PyProof.Rows L2
open L2H (RoomH PinOk cxH inv_startH roomH_of)
abbrev FX := Fds → Option D
def TeOk (K : Fg) (n0 : Str) (i : Nat) (hf : FX) (te : Addr → Value → Option Addr → TE) : Prop :=
  ∀ {a : Addr} {cls : Value} {dd : Option Addr} {fs : Fds} {F : Fp} {σ : St} {H : Hp} {d : D} {Q : VK}, σ[i]? = some (some (.ref a)) → XRep K F H n0 fs cls dd → hf fs = some d → Dom F H → (∀ v H', Same H H' → Rep K F H' v d → Q v H') → te a cls dd σ H Q
def SuS (X : Cx) (n0 : Str) (i : Nat) (b : Stmt) (j : Nat) (hf : FX) : Prop := ∃ te : Addr → Value → Option Addr → TE,
  (∀ (a : Addr) (oe : Obj) (cls : Value) (d : Option Addr) (pn : List (Addr × Obj)), Zc cls d oe → (∃ vs, oe.data = .fields vs) → PS (X.suite a ((a, oe) :: pn)) b (tAsg (te a cls d) (gName j))) ∧ TeOk X.K n0 i hf te
theorem SuS.mk {X : Cx} {n0 : Str} {i j : Nat} {b : Stmt} {hf : FX} {te : Addr → Value → Option Addr → TE}
    (h1 : ∀ (a : Addr) (oe : Obj) (cls : Value) (d : Option Addr) (pn : List (Addr × Obj)), Zc cls d oe → (∃ vs, oe.data = .fields vs) → PS (X.suite a ((a, oe) :: pn)) b (tAsg (te a cls d) (gName j)))
    (h2 : ∀ {a : Addr} {cls : Value} {dd : Option Addr} {fs : Fds} {F : Fp} {σ : St} {H : Hp} {d : D} {Q : VK}, σ[i]? = some (some (.ref a)) → XRep X.K F H n0 fs cls dd → hf fs = some d → Dom F H → (∀ v H', Same H H' → Rep X.K F H' v d → Q v H') → te a cls dd σ H Q) : SuS X n0 i b j hf := ⟨te, h1, h2⟩
inductive SuSs (X : Cx) (n0 : Str) (i : Nat) : List Stmt → List (Nat × FX) → Prop
  | nil : SuSs X n0 i [] []
  | cons {b : Stmt} {bs : List Stmt} {j : Nat} {hf : FX} {l : List (Nat × FX)} : j ≠ i → SuS X n0 i b j hf → SuSs X n0 i bs l → SuSs X n0 i (b :: bs) ((j, hf) :: l)
def appU (fs : Fds) : List (Nat × FX) → Rho → Option Rho
  | [], ρ => some ρ
  | (j, hf) :: l, ρ => match hf fs with
    | some d => appU fs l (ρ.set j (.val d))
    | none => none
section
variable {X : Cx} {W : WX} {τ : Type} [Sto τ] {n0 : Str} {i : Nat}
structure SuI (K : Fg) (n0 : Str) (i : Nat) (C : SC τ) (ρ : Rho) (t : τ) (σ : St) (H : Hp) (a : Addr) (cls : Value) (d : Option Addr) (fs : Fds) : Prop where
  at_ : At K C ρ t σ H
  no : ρ[i]? = some .no
  s : σ[i]? = some (some (.ref a))
  x : XRep K (Fo C.F ρ σ) H n0 fs cls d
def tU (K : Fg) (n0 : Str) (i : Nat) (τ : Type) [Sto τ] (l : List (Nat × FX)) (a : Addr) (cls : Value) (d : Option Addr) : TS := fun E σ H => ∃ (C : SC τ) (ρ : Rho) (t : τ) (fs : Fds), SuI K n0 i C ρ t σ H a cls d fs ∧
  ∃ ρ', appU fs l ρ = some ρ' ∧ ∀ σ' H', Stp (Fo C.F ρ σ) H (Fo C.F ρ' σ') H' → SuI K n0 i C ρ' t σ' H' a cls d fs → E.nx σ' H'
theorem XRep.step {K : Fg} {F F' : Fp} {H H' : Hp} {n : Str} {fs : Fds} {cls : Value} {dd : Option Addr} (x : XRep K F H n fs cls dd) (s : Same H H') (h : ∀ b, F' b → F b) : XRep K F' H' n fs cls dd := by
  obtain ⟨e, x⟩ := x
  refine ⟨e, ?_⟩
  cases fs with
  | none => exact x
  | some p =>
    obtain ⟨ns, ds⟩ := p
    obtain ⟨a, vs, h1, h2, h3, h4⟩ := x
    exact ⟨a, vs, h1, s a _ h2, h3, (h4.same (fun b o _ e => s b o e)).anti h⟩
theorem SuSs.run {bs : List Stmt} {l : List (Nat × FX)} (h : SuSs X n0 i bs l) {a : Addr} {oe : Obj} {cls : Value} {d : Option Addr} {pn : List (Addr × Obj)} (hz : Zc cls d oe) (hv : ∃ vs, oe.data = .fields vs) : PSs (X.suite a ((a, oe) :: pn)) bs (tU X.K n0 i τ l a cls d) := by
  induction h with
  | nil => exact PSs.imp pss_nil fun E σ H ⟨C, ρ, t, fs, S, ρ', e, q⟩ => by cases e; exact q σ H (Stp.less fun _ z => z) S
  | @cons b bs j hf l ij hb _ ih =>
    obtain ⟨te, hp, ht⟩ := hb
    refine PSs.imp (pss_cons (hp a oe cls d pn hz hv) ih) fun E σ H ⟨C, ρ, t, fs, S, ρ', e, q⟩ => ?_
    unfold appU at e
    cases eh : hf fs with
    | none => rw [eh] at e; cases e
    | some dv =>
      rw [eh] at e
      refine ht S.s S.x eh S.at_.dom fun v H1 sm r => ?_
      have smC : Sm C.F H H1 := fun b o _ e => sm b o e
      have A2 := S.at_.next smC (C.stay S.at_.st sm)
      have A3 := A2.setVal (i := j) (v := v) (d := dv) r
      have S3 : SuI X.K n0 i C (ρ.set j (.val dv)) t (σ.set j (some v)) H1 a cls d fs := ⟨A3, by rw [List.getElem?_set_ne ij]; exact S.no, by rw [List.getElem?_set_ne ij]; exact S.s, S.x.step sm fun b h => Fo.setVal h⟩
      refine ⟨C, _, t, fs, S3, ρ', e, fun σ' H' s' S' => q σ' H' (Stp.trans ⟨fun b o n e => sm b o e, fun b h => .inl (Fo.setVal h)⟩ s') S'⟩
end
theorem _root_.L2H.RoomH.units {k : Nat} {A : Around} (r : RoomH k A) : A.units + 64 < cLine := by have := r.un; omega
section
variable {τ : Type} {P : Pt τ} {ρ : Rho} {t : τ}
end
end MM

namespace MM
open PySem PySem.Spec PyProof.Rows L2
section
variable {X : Cx} {W : WX} {τ : Type} [Sto τ] {K : Fg}
end
section
variable {τ : Type} {Q : D → τ → Prop} {X : Str → Fds → τ → Prop} {ρ : Rho} {t : τ}
end
end MM

namespace MM
open PySem PySem.Spec PyProof.Rows L2
theorem nsEq_ok : ∀ {a b : List Nat}, nsEq a b = true → a = b
  | [], [], _ => rfl
  | a :: x, b :: y, h => by
    obtain ⟨h1, h2⟩ := Bool.and_eq_true_iff.mp h
    rw [Nat.eq_of_beq_eq_true h1, nsEq_ok h2]
  | [], _ :: _, h => by cases h
  | _ :: _, [], h => by cases h
theorem sEqL_ok {a b : Str} (h : sEqL a b = true) : a = b := by
  obtain ⟨⟨a⟩⟩ := a
  obtain ⟨⟨b⟩⟩ := b
  have := nsEq_ok h
  simp at this
  rw [this]
theorem linKeys_ok {own : List Str} : ∀ {ks xs : List Str}, linKeys own ks xs = true → ∀ k ∈ ks, startupNames.contains k = true ∨ own.contains k = true ∨ k ∈ xs
  | [], _, _, k, hk => by cases hk
  | k :: ks, [], h, k', hk => by
    obtain ⟨h1, h2⟩ := Bool.and_eq_true_iff.mp h
    rcases List.mem_cons.mp hk with rfl | hk
    · rcases Bool.or_eq_true_iff.mp h1 with z | z
      · exact .inl z
      · exact .inr (.inl z)
    · exact linKeys_ok h2 k' hk
  | k :: ks, x :: xs, h, k', hk => by
    rw [linKeys] at h
    cases e : sEqL k x with
    | true =>
      rw [e] at h
      rcases List.mem_cons.mp hk with rfl | hk
      · exact .inr (.inr (by rw [sEqL_ok e]; exact List.mem_cons_self))
      · rcases linKeys_ok h k' hk with z | z | z
        · exact .inl z
        · exact .inr (.inl z)
        · exact .inr (.inr (List.mem_cons_of_mem _ z))
    | false =>
      rw [e] at h
      obtain ⟨h1, h2⟩ := Bool.and_eq_true_iff.mp h
      rcases List.mem_cons.mp hk with rfl | hk
      · rcases Bool.or_eq_true_iff.mp h1 with z | z
        · exact .inl z
        · exact .inr (.inl z)
      · exact linKeys_ok h2 k' hk
theorem seenL_ok {q : Program} {loose mods : List Str} {Xt : Shared → Bool} {s : Shared} (hq : ∀ L, clssOf q L = [] ∧ dclssOf q L = [] ∧ PySem.W.wclssOf q L = []) (h : seenL q loose mods Xt s = PySem.W.openGood q []) :
    PySem.W.openSeen q loose mods Xt true s = PySem.W.openGood q loose := by
  have ek : ∀ {a}, (linKeys ((recsOf q).map (·.name)) (s.heap.nsKeys mainGlobals) loose && a) = true → ∀ c1 c2, (s.heap.keysOk (PySem.W.looseW q loose) ((recsOf q).map (·.name)) c1 c2 && a) = true := by
    intro a z c1 c2
    obtain ⟨z1, z2⟩ := Bool.and_eq_true_iff.mp z
    refine Bool.and_eq_true_iff.mpr ⟨?_, z2⟩
    unfold Heap.keysOk
    rw [List.all_eq_true]
    intro k hk
    rcases linKeys_ok z1 k hk with y | y | y
    · simp only [y, Bool.true_or]
    · simp only [y, Bool.true_or, Bool.or_true]
    · have : (PySem.W.looseW q loose).contains k = true := by
        rw [List.contains_iff_mem]
        unfold PySem.W.looseW looseD PySem.W.heldW
        simp only [List.mem_append]
        exact .inl (.inl (.inl y))
      simp only [this, Bool.true_or, Bool.or_true]
  unfold seenL at h
  rw [← HandSHeadRun.seenQ_eq] at h
  unfold PySem.W.openSeen PySem.W.openGood plainSeenE plainGoodE plainSeenD plainGoodD PySem.W.clsSeenW PySem.W.clsGoodW plainsOf at h ⊢
  simp only [(hq _).1, (hq _).2.1, (hq _).2.2, Prod.mk.injEq, if_true] at h ⊢
  obtain ⟨h1, h2, h3, h4⟩ := h
  refine ⟨h1, h2, ?_, h4⟩
  simp only [Bool.and_assoc] at h3 ⊢
  exact ek h3 _ _
open PySem.W PySem.Calls in
theorem head_anyL {r : OpenRow} {q : Program} {H : Hook} {ob : SharedT → H.α} {M : Nat} {loose : List PySem.Str} {d : DefRec} {kwd : List (PySem.Str × PySem.Expr)} (ho : ∀ s : SharedT, ob s = H.obs s.abs)
    (e : opening r.prog = plainProg r.prog.main.scope.names) (f : ∀ s, fenceModules? r.prog s = some s) (run : ∀ w, RunEqL r q H ob M loose w)
    (hq : ∀ L, clssOf q L = [] ∧ dclssOf q L = [] ∧ PySem.W.wclssOf q L = [])
    (hdef : defOf q r.name = some (d, kwd)) (hp : r.prog.theDef r.name = some (d.params, d.body, d.scope)) (hk : kwWritten? d.params.kwonlyargs d.params.kw_defaults = some kwd)
    (hwr : (!r.writes || r.records.isEmpty) = true) (k1 : r.wellSaid = true) (ok : (chainsOk q && opensWell r.prog && (frees r.toRowW && r.within.isEmpty)) = true) (hb : r.prog.bare) (hw : r.toRowW.promised)
    (call : WalkO q loose (XL q []) H.says r.toRowW d kwd fun f vs => PySem.call f vs) : r.Holds := by
  have left : LeftO r.prog q loose (fun s => xlAt q [] s && recOk r.toRowW.records s) H.obs H.val (M + 600) true :=
    HandSHeadRun.left_one (M := M) e (Nat.ble_eq_true_of_le (by omega)) f (Nat.ble_eq_true_of_le (by omega)) fun w os => by
      have z := run w os
      have eo : ob = fun s => H.obs s.abs := funext ho
      rw [eo] at z
      rw [HandSHeadRun.endQ_eq]
      obtain ⟨s, hs, hv⟩ := Option.map_eq_some_iff.mp z
      obtain ⟨l1, l2, l3⟩ : _ ∧ _ ∧ _ := by simpa only [Prod.mk.injEq] using hv
      rw [hs]
      exact congrArg some (Prod.ext l1 (Prod.ext (seenL_ok hq l2) l3))
  exact holds_open (r := r) (q := q) (loose := loose) (XP := XL q []) (YP := H.says) (d := d) (kwd := kwd) left H.of H.keeps (fun s z => xl_of s (Bool.and_eq_true_iff.mp z).1) XL.keeps hdef hp hk (fun s z => recFacts_of (Bool.and_eq_true_iff.mp z).2) hwr k1 ok hb hw call
end MM

namespace MM
open PySem PySem.Spec PyProof.Rows L2
section
variable {X : Cx} {W : WX} {τ : Type} [Sto τ] {K : Fg}
end
end MM

namespace MM
open PySem PySem.Spec PyProof.Rows L2
section
variable {X : Cx} {W : WX} {τ : Type} [Sto τ] {K : Fg}
end
structure FnG (P : Program) (w : World) (K : Fg) (mg : Str → Option Value) (base : Heap) (CX : CXT) (k : Nat) (f : Addr) (fd : FuncData) (ps : List Str) (sp : Sp) : Prop where
  len : ∀ vs H Q E, sp vs H Q E → vs.length = ps.length
  run : ∀ (A : Around) (outer : List Env) (s : Shared) (H : Hp) (args : Args) (us : List Value) (vs : List V) (Q : VK) (E : XK), Room k A → A.guards = some [] → Env0 P w K mg base A outer s H → BindsTo s fd args (ps.zip us) → Vals vs us → sp vs H Q E →
    codeAny (model P w) A (.call (.ref f) args) (CR CX outer P w H s Q E) s
theorem FnG.mono {P : Program} {w : World} {K : Fg} {mg : Str → Option Value} {base : Heap} {CX : CXT} {j k : Nat} {f : Addr} {fd : FuncData} {ps : List Str} {sp : Sp} (F : FnG P w K mg base CX j f fd ps sp) (h : j ≤ k) : FnG P w K mg base CX k f fd ps sp :=
  ⟨F.len, fun A outer s H args us vs Q E r => F.run A outer s H args us vs Q E (r.mono h)⟩
theorem fnG_of {P : Program} {w : World} {K : Fg} {mg : Str → Option Value} {base : Heap} {CX : CXT} {x qual : Str} {params : Arguments} {body : List Stmt} {scope : Scope} {dvs : List V} {kws : List (Str × V)} {f : Addr} {fd : FuncData} {N ps : List Str} {k : Nat} {sp : Sp}
    (F : FunD K x qual params body scope dvs kws f fd) (S : FnScope N ps scope) (len : ∀ vs H Q E, sp vs H Q E → vs.length = ps.length)
    (hbody : ∀ (cdv : Value) (A : Around) (outer : List Env) (s : Shared) (H : Hp) (vs : List V) (Q : VK) (E : XK), Room k (A.deeper (envOfC qual scope s.heap.objs.size f cdv)) → (A.deeper (envOfC qual scope s.heap.objs.size f cdv)).guards = some [] → sp vs H Q E →
      ∃ t, PSs (cxOf CX P w K mg base N qual scope f cdv A outer s H E) body t ∧ t { nx := fun _ H' => Q .non H', rt := Q } (L2.start N vs) H) : FnG P w K mg base CX (k + 1) f fd ps sp := by
  obtain ⟨oc, od, dV, kV, doc, pm, an, cdv, ct, osl, rfl, lk, hcd, _, _⟩ := F.ex
  refine ⟨len, fun A outer s H args us vs Q E hr hgd e0 hb r hsp => ?_⟩
  have up : ∀ b o, base.get? b = some o → s.heap.get? b = some o := fun b o e => (e0.bs b o e).1
  have KX : K.In s.heap := e0.mod.kin.keeps up
  refine codeAny_call_function hr.depth (KX _ _ lk) rfl S.co S.gen rfl (PySem.W.codeRec_of KX hcd) (hb _ _ _ _ ?_)
  refine wpAny_newFunctionEnv_cells S.kind (fun ⟨n, v⟩ hy => ?_) fun env he s1 xx => ?_
  · rcases S.par n (List.of_mem_zip hy).1 with q | q
    · exact .inl q
    · exact .inr ⟨q, PySem.W.cellsFrom_some _ _ _ (.inl q)⟩
  subst he
  refine ⟨(e0.mod.nolimit.keeps up).keeps xx.toInCall.keep, codeAny_func ?_⟩
  obtain ⟨t, ht, hq⟩ := hbody cdv A outer s H vs Q E (hr.deeper _) hgd hsp
  have I := inv_start (CX := CX) (E := E) S hr.hd e0 (len _ _ _ _ hsp) r xx
  refine wpAny_mono (ht.run [] s1 (L2.start N vs) H _ I hq) (fun fl s' hs => ?_) fun e s' hs => hs
  cases fl with
  | ret u =>
    obtain ⟨v, σ', H', J, rv, q⟩ := hs
    exact ⟨v, H', J.os, J.bare, J.base, J.hok, rv, q⟩
  | next =>
    obtain ⟨σ', H', J, q⟩ := hs
    exact ⟨V.non, H', J.os, J.bare, J.base, J.hok, rfl, q⟩
  | brk => exact hs.elim fun _ h => h.elim fun _ h => h.2.elim
  | cont => exact hs.elim fun _ h => h.elim fun _ h => h.2.elim
section
variable {X : Cx} {CX : CXT} {k : Nat} {f : Addr} {fd : FuncData} {ps : List Str} {sp : Sp} {dvs : List V} {ds : List Value} {E : St → XK} {x : Str} {q pos : Pos} {e : Expr} {es : List Expr} {t : TA}
end
structure DefG {τ : Type} [Sto τ] (P : Program) (w : World) (K : Fg) (mg : Str → Option Value) (base : Heap) (k : Nat) (x : Str) (np : Nat) (df : List D) (m : List D → τ → Res τ D) : Prop where
  ex : ∃ (fd : FuncData) (ps : List Str) (ds : List Value) (dvs : List V), FnG P w K mg base (L2.CX P w) k (He.ga K x) fd ps (spF np K m) ∧ mg x = some (.ref (He.ga K x)) ∧ PySem.W.keepIn K (.ref (He.ga K x)) = true ∧ Binds K fd ps ds ∧ Vals dvs ds ∧ (∀ F H, Reps K F H dvs df)
theorem DefG.mono {τ : Type} [Sto τ] {P : Program} {w : World} {K : Fg} {mg : Str → Option Value} {base : Heap} {j k : Nat} {x : Str} {np : Nat} {df : List D} {m : List D → τ → Res τ D} (F : DefG P w K mg base j x np df m) (h : j ≤ k) : DefG P w K mg base k x np df m := by
  obtain ⟨fd, ps, ds, dv, F, r⟩ := F.ex
  exact ⟨fd, ps, ds, dv, F.mono h, r⟩
theorem DefG.mk' {τ : Type} [Sto τ] {P : Program} {w : World} {K : Fg} {mg : Str → Option Value} {base : Heap} {x qual : Str} {params : Arguments} {body : List Stmt} {scope : Scope} {dvs : List V} {kws : List (Str × V)} {fd : FuncData} {N ps : List Str} {k : Nat} {df : List D}
    (F : FunD K x qual params body scope dvs kws (He.ga K x) fd) (hm : mg x = some (.ref (He.ga K x))) (S : FnScope N ps scope) (mb : MS τ) (hb : ∃ ds dv, Vals dv ds ∧ Binds K fd ps ds ∧ ∀ F H, Reps K F H dv df)
    (hbody : ∀ (cdv : Value) (A : Around) (outer : List Env) (s : Shared) (H : Hp) (E : XK), Room k (A.deeper (envOfC qual scope s.heap.objs.size (He.ga K x) cdv)) → (A.deeper (envOfC qual scope s.heap.objs.size (He.ga K x) cdv)).guards = some [] →
      PSs (cxOf (L2.CX P w) P w K mg base N qual scope (He.ga K x) cdv A outer s H E) body (tS K (fun cls d _ H => E cls d H) mb)) : DefG P w K mg base (k + 1) x ps.length df (runB N.length mb) := by
  obtain ⟨ds, dv, h1, h2, h3⟩ := hb
  have hpl : ps.length ≤ N.length := by have := congrArg List.length S.pre; rw [List.length_take] at this; omega
  refine ⟨fd, ps, ds, dv, fnG_of F S (fun vs H Q E ⟨C, ds, t, _, _, r, hl, _⟩ => r.length.trans hl) fun cdv A outer s H vs Q E hr hgd ⟨C, ds, t, okC, iv, r, hl, p⟩ => ⟨_, hbody cdv A outer s H E hr hgd, C, _, t, At.start okC iv r (by rw [hl]; exact hpl), ?_⟩, hm, F.kp, h2, h1, h3⟩
  unfold runB at p
  cases e : mb (ds.map Slot.val ++ List.replicate (N.length - ds.length) .no) t with
  | nx ρ' t' =>
    rw [e] at p
    exact fun σ' H' s' A' => p .non H' (fun b o n e => s'.keep b o (fun z => n (FoStart z)) e) (C.less A'.st fun _ => .inl) .non
  | rt d t' =>
    rw [e] at p
    exact fun v H' s' i r => p v H' (fun b o n e => s' b o (fun z => n (FoStart z)) e) i r
  | ex n fs ρ' t' =>
    rw [e] at p
    exact fun cls dd σ' H' s' A' x => p cls dd H' (fun b o n e => s'.keep b o (fun z => n (FoStart z)) e) (C.less A'.st fun _ => .inl) (x.anti fun _ => .inl)
  | bk ρ' t' => rw [e] at p; exact p.elim
  | ct ρ' t' => rw [e] at p; exact p.elim
  | bad => rw [e] at p; exact p.elim
section
variable {X : Cx} {W : WX} {τ : Type} [Sto τ]
end
section
variable {P : Program} {w : World} {K : Fg} {mg : Str → Option Value} {base : Heap}
end
section
variable {τ : Type} {Q : D → Prop} {d : D}
end
end MM

namespace MM
open PySem PySem.Spec PyProof.Rows L2
section
variable {X : Cx} {W : WX} {τ : Type} [Sto τ] {K : Fg}
theorem op_ne_ss : OpR X (compareOp .NotEq) (fun x y H Q => ∃ i j, x = .str i ∧ y = .str j ∧ Q (.bl (i.cps.toList != j.cps.toList)) H) := by
  intro pins s σ H x y v u Q I rx ry h
  obtain ⟨i, j, rfl, rfl, q⟩ := h
  obtain ⟨t, rfl⟩ := rx
  obtain ⟨t', rfl⟩ := ry
  exact PySem.P.ne_str ⟨.bl _, H, I, rfl, q⟩
theorem op_eq_ss : OpR X (compareOp .Eq) (fun x y H Q => ∃ i j, x = .str i ∧ y = .str j ∧ Q (.bl (i.cps.toList == j.cps.toList)) H) := by
  intro pins s σ H x y v u Q I rx ry h
  obtain ⟨i, j, rfl, rfl, q⟩ := h
  obtain ⟨t, rfl⟩ := rx
  obtain ⟨t', rfl⟩ := ry
  exact PySem.P.eq_str ⟨.bl _, H, I, rfl, q⟩
def dNeSS (d e : D) : Option D := match d, e with
  | .str x, .str y => some (.bl (x.cps.toList != y.cps.toList))
  | _, _ => none
def dEqSS (d e : D) : Option D := match d, e with
  | .str x, .str y => some (.bl (x.cps.toList == y.cps.toList))
  | _, _ => none
theorem o_neSS : DOp2 K (fun x y H Q => ∃ i j, x = .str i ∧ y = .str j ∧ Q (.bl (i.cps.toList != j.cps.toList)) H) dNeSS := fun F0 F H x y d e z Q dm rx ry q k => by
  cases d <;> try cases q
  cases e <;> try cases q
  exact ⟨_, _, rx.strOf, ry.strOf, k _ H (Same.refl H) (.bl _)⟩
theorem o_eqSS : DOp2 K (fun x y H Q => ∃ i j, x = .str i ∧ y = .str j ∧ Q (.bl (i.cps.toList == j.cps.toList)) H) dEqSS := fun F0 F H x y d e z Q dm rx ry q k => by
  cases d <;> try cases q
  cases e <;> try cases q
  exact ⟨_, _, rx.strOf, ry.strOf, k _ H (Same.refl H) (.bl _)⟩
@[simp] theorem dNeSS_self {x : Str} : dNeSS (.str x) (.str x) = some (.bl false) := by simp [dNeSS]
@[simp] theorem dEqSS_self {x : Str} : dEqSS (.str x) (.str x) = some (.bl true) := by simp [dEqSS]
end
end MM

namespace MM
open PySem PySem.Spec PyProof.Rows L2
section
variable {X : Cx}
end
section
variable {X : Cx} {W : WX} {τ : Type} [Sto τ]
end
section
variable {τ : Type} {P : Pt τ} {ρ : Rho} {t : τ}
end
end MM

namespace MM
open PySem PySem.Spec PyProof.Rows L2
section
variable {X : Cx} {W : WX} {τ : Type} [Sto τ] {K : Fg}
end

section
variable {X : Cx} {K : Fg}
def KnT (H : Hp) (p : Addr) (xs : List V) : Prop := ∃ o, H p = some (.frz o (.tup xs)) ∧ o.dict = none
theorem KnT.sq {H : Hp} {p : Addr} {xs : List V} (h : KnT H p xs) : SqT K H p xs := let ⟨o, e, _⟩ := h; .inl (.inr ⟨o, e⟩)
theorem KnT.rd {H : Hp} {p : Addr} {xs : List V} (h : KnT H p xs) : Rd H p (.tup xs) := let ⟨o, e, _⟩ := h; .inr ⟨o, e⟩
end
end MM

namespace MM
open PySem PySem.Spec PyProof.Rows L2
theorem KnT.same {H H' : Hp} {p : Addr} {xs : List V} (h : KnT H p xs) (s : Same H H') : KnT H' p xs := let ⟨o, e, d⟩ := h; ⟨o, s _ _ e, d⟩
section
variable {X : Cx} {W : WX} {τ : Type} [Sto τ]
end
section
variable {τ : Type} {P : Pt τ} {ρ : Rho} {t : τ}
end
end MM

namespace MM
open PySem PySem.Spec PyProof.Rows L2
section
variable {X : Cx} {W : WX} {τ : Type} [Sto τ] {K : Fg}
end
end MM

namespace MM
open PySem PySem.Spec PyProof.Rows L2
open L2H (RoomH PinOk cxH inv_startH roomH_of)
section
variable {X : Cx} {body : List Stmt} {h₀ : ExceptHandler} {hds : List ExceptHandler} {l : List (Value × Nat × (Addr → Value → Option Addr → TS))} {pos : Pos} {tb : WX → TS} {Wout : WX}
end
section
variable {X : Cx} {W : WX} {τ : Type} [Sto τ]
end
section
variable {τ : Type} {P : Pt τ} {ρ : Rho} {t : τ}
end
structure HX (X : Cx) (n0 : Str) (i : Nat) (e : Expr) (hf : FX) (te : Addr → Value → Option Addr → TE) : Prop where
  pe : ∀ (a : Addr) (oe : Obj) (cls : Value) (d : Option Addr) (pn : List (Addr × Obj)), Zc cls d oe → (∃ vs, oe.data = .fields vs) → PE (X.suite a ((a, oe) :: pn)) e (te a cls d)
  ok : TeOk X.K n0 i hf te
section
variable {X : Cx} {n0 : Str} {i : Nat}
theorem SuS.hx {e : Expr} {hf : FX} {te : Addr → Value → Option Addr → TE} {b : Stmt} {j : Nat} (h : HX X n0 i e hf te) (hp : ∀ (a : Addr) (oe : Obj) (pn : List (Addr × Obj)) (t : TE), PE (X.suite a ((a, oe) :: pn)) e t → PS (X.suite a ((a, oe) :: pn)) b (tAsg t (gName j))) : SuS X n0 i b j hf :=
  ⟨te, fun a oe cls d pn hz hv => hp a oe pn _ (h.pe a oe cls d pn hz hv), h.ok⟩
end
structure DefT (τ : Type) [Sto τ] (P : Program) (w : World) (K : Fg) (mg : Str → Option Value) (base : Heap) (p : Addr × Obj) (k : Nat) (x : Str) (np : Nat) (m : List D → τ → Res τ D) : Prop where
  ex : ∃ (fd : FuncData) (ps : List Str), FnB P w K mg base (L2.CX P w) p k (He.ga K x) fd ps (spF np K m) ∧ mg x = some (.ref (He.ga K x)) ∧ PySem.W.keepIn K (.ref (He.ga K x)) = true ∧ Binds K fd ps []
theorem DefT.mk' {τ : Type} [Sto τ] {P : Program} {w : World} {K : Fg} {mg : Str → Option Value} {base : Heap} {p : Addr × Obj} {x : Str} {params : Arguments} {body : List Stmt} {scope : Scope} {fd : FuncData} {N ps : List Str} {k : Nat}
    (F : FunD K x x params body scope [] [] (He.ga K x) fd) (g : mg x = some (.ref (He.ga K x))) (S : FnScope N ps scope) (hb : Binds K fd ps []) (mb : MS τ)
    (hbd : ∀ (cdv : Value) (A : Around) (outer : List Env) (s : Shared) (H : Hp) (E : XK), RoomH k (A.deeper (envOfC x scope s.heap.objs.size (He.ga K x) cdv)) →
      PSs (cxH (L2.CX P w) P w K mg base N x scope (He.ga K x) cdv A outer s H E p) body (tS K (fun cls d _ H => E cls d H) mb)) : DefT τ P w K mg base p (k + 1) x ps.length (runB N.length mb) := by
  have hpl : ps.length ≤ N.length := by have := congrArg List.length S.pre; rw [List.length_take] at this; omega
  refine ⟨fd, ps, fnB_of F S (fun vs H Q E ⟨C, ds, t, _, _, r, hl, _⟩ => r.length.trans hl) fun cdv A outer s H vs Q E hr ⟨C, ds, t, okC, iv, r, hl, p⟩ => ⟨_, hbd cdv A outer s H E hr, C, _, t, At.start okC iv r (by rw [hl]; exact hpl), ?_⟩, g, F.kp, hb⟩
  unfold runB at p
  cases e : mb (ds.map Slot.val ++ List.replicate (N.length - ds.length) .no) t with
  | nx ρ' t' =>
    rw [e] at p
    exact fun σ' H' s' A' => p .non H' (fun b o n e => s'.keep b o (fun z => n (FoStart z)) e) (C.less A'.st fun _ => .inl) .non
  | rt d t' =>
    rw [e] at p
    exact fun v H' s' i r => p v H' (fun b o n e => s' b o (fun z => n (FoStart z)) e) i r
  | ex n fs ρ' t' =>
    rw [e] at p
    exact fun cls dd σ' H' s' A' x => p cls dd H' (fun b o n e => s'.keep b o (fun z => n (FoStart z)) e) (C.less A'.st fun _ => .inl) (x.anti fun _ => .inl)
  | bk ρ' t' => rw [e] at p; exact p.elim
  | ct ρ' t' => rw [e] at p; exact p.elim
  | bad => rw [e] at p; exact p.elim
section
variable {X : Cx} {W : WX} {τ : Type} [Sto τ] {a dd : Addr} {oe : Obj}
theorem DefT.mono {P : Program} {w : World} {K : Fg} {mg : Str → Option Value} {base : Heap} {p : Addr × Obj} {j k : Nat} {x : Str} {np : Nat} {m : List D → τ → Res τ D} (F : DefT τ P w K mg base p j x np m) (h : j ≤ k) : DefT τ P w K mg base p k x np m := by
  obtain ⟨fd, ps, ⟨F1, F2⟩, r⟩ := F.ex
  exact ⟨fd, ps, ⟨F1, fun A outer s H args us vs Q E hr hp e0 b r' hs => F2 A outer s H args us vs Q E (hr.mono h) hp e0 b r' hs⟩, r⟩
end
section
variable {X : Cx} {n0 : Str} {i : Nat}
end
section
variable {X : Cx} {W : WX} {K : Fg} {a D0 : Addr} {oe : Obj}
end
section
variable {a : Addr} {i : Nat} {b : Bool} {ρ : Rho} {t : Unit} {Q : D → Unit → Prop} {X : Str → Fds → Unit → Prop}
end
end MM

namespace MM
open PySem PySem.Spec PyProof.Rows L2
section
variable {X : Cx} {W : WX} {τ : Type} [Sto τ] {K : Fg}
def fFmt : D → Option D
  | .str y => if y.length ≤ 16777216 then some (.str y) else none
  | .int i => if i.natAbs.log2 < 1920 then some (.str (toString i)) else none
  | _ => none
theorem me_fmt {e : Expr} {pos : Pos} {m : ME τ D} (h : PE X e (tE X.K W m)) : PE X (.FormattedValue e (-1) none pos) (tE X.K W (e1 fFmt m)) := PE.imp (pe_fmt h) fun σ H Q ⟨C, ρ, t, A, p⟩ => by
  refine use okE A p fun d t1 v H1 e1 s1 A1 r1 p1 => ?_
  cases e : fFmt d with
  | none => rw [e] at p1; exact p1.elim
  | some z =>
    rw [e] at p1
    unfold fFmt at e
    split at e
    · split at e
      · rename_i y hy
        cases e
        cases r1
        exact .inl ⟨y, rfl, by rw [sizeLine_eq]; omega, p1 _ H1 (Sm.refl _ _) A1.st (.str _)⟩
      · cases e
    · split at e
      · rename_i i hi
        cases e
        cases r1
        exact .inr ⟨i, rfl, hi, p1 _ H1 (Sm.refl _ _) A1.st (.str _)⟩
      · cases e
    · cases e
def eJs : List (ME τ D) → Str → ME τ D
  | [], acc => fun _ t => .ok (.str acc) t
  | m :: ms, acc => fun ρ t => (m ρ t).bind fun d t => match d with
    | .str y => if (acc ++ y).length ≤ 16777216 then eJs ms (acc ++ y) ρ t else .bad
    | _ => .bad
inductive PJE (X : Cx) (W : WX) (τ : Type) [Sto τ] : List Expr → List (ME τ D) → Prop
  | nil : PJE X W τ [] []
  | cons {e : Expr} {m : ME τ D} {es : List Expr} {ms : List (ME τ D)} : PE X e (tE X.K W m) → PJE X W τ es ms → PJE X W τ (e :: es) (m :: ms)
theorem PJE.pj {es : List Expr} {ms : List (ME τ D)} (h : PJE X W τ es ms) : PJ X es (ms.map fun m => tE X.K W m) := by
  induction h with
  | nil => exact .nil
  | cons h _ ih => exact .cons h ih
theorem js_red : ∀ (ms : List (ME τ D)) (acc : Str) (σ : L2.St) (H : Hp) (Q : VK), tE K W (eJs ms acc) σ H Q → tJs (ms.map fun m => tE K W m) acc σ H fun out H1 => Q (.str out) H1
  | [], acc, σ, H, Q, ⟨C, ρ, t, A, p⟩ => p _ H (Sm.refl _ _) A.st (.str acc)
  | m :: ms, acc, σ, H, Q, ⟨C, ρ, t, A, p⟩ => by
    show tE K W m σ H _
    refine use okE A p fun d t1 v H1 e1 s1 A1 r1 p1 => ?_
    cases d with
    | str y =>
      cases r1
      dsimp only at p1
      split at p1
      · rename_i hz
        exact ⟨y, rfl, by rw [sizeLine_eq]; omega, js_red ms (acc ++ y) σ H1 Q ⟨C, ρ, t1, A1, p1⟩⟩
      · exact p1.elim
    | _ => exact p1.elim
theorem me_joined {v1 v2 : Expr} {rest : List Expr} {ms : List (ME τ D)} {pos : Pos} (h : PJE X W τ (v1 :: v2 :: rest) ms) : PE X (.JoinedStr (v1 :: v2 :: rest) pos) (tE X.K W (eJs ms Str.empty)) :=
  PE.imp (pe_joined h.pj) fun σ H Q p => js_red ms Str.empty σ H Q p
end
section
variable {τ : Type} {Q : D → τ → Prop} {X : Str → Fds → τ → Prop} {ρ : Rho} {t : τ}
@[simp] theorem oE_jsN {acc : Str} : oE (eJs [] acc ρ t) Q X = Q (.str acc) t := rfl
@[simp] theorem oE_jsC {m : ME τ D} {ms : List (ME τ D)} {acc : Str} : oE (eJs (m :: ms) acc ρ t) Q X = oE (m ρ t) (fun d t => ∃ y, d = .str y ∧ (acc ++ y).length ≤ 16777216 ∧ oE (eJs ms (acc ++ y) ρ t) Q X) X := by
  show oE ((m ρ t).bind _) Q X = _
  cases m ρ t with
  | ok d t1 =>
    cases d with
    | str y =>
      simp only [Res.bind_ok, oE_ok, D.str.injEq, exists_eq_left']
      by_cases h : (acc ++ y).length ≤ 16777216
      · rw [if_pos h]; simp [h]
      · rw [if_neg h]; simp [h]
    | _ => simp
  | ex n fs t1 => simp
  | bad => simp
end
abbrev FW := Rho → FX
def SuW (X : Cx) (n0 : Str) (i : Nat) (τ : Type) [Sto τ] (b : Stmt) (j : Nat) (hw : FW) : Prop := ∃ te : Addr → Value → Option Addr → TE,
  (∀ (a : Addr) (oe : Obj) (cls : Value) (d : Option Addr) (pn : List (Addr × Obj)), Zc cls d oe → (∃ vs, oe.data = .fields vs) → PS (X.suite a ((a, oe) :: pn)) b (tAsg (te a cls d) (gName j))) ∧
  ∀ {C : SC τ} {ρ : Rho} {t : τ} {σ : L2.St} {H : Hp} {a : Addr} {cls : Value} {dd : Option Addr} {fs : Fds} {d : D} {Q : VK}, SuI X.K n0 i C ρ t σ H a cls dd fs → hw ρ fs = some d → (∀ v H', Same H H' → Rep X.K (Fo C.F ρ σ) H' v d → Q v H') → te a cls dd σ H Q
inductive SuWs (X : Cx) (n0 : Str) (i : Nat) (τ : Type) [Sto τ] : List Stmt → List (Nat × FW) → Prop
  | nil : SuWs X n0 i τ [] []
  | cons {b : Stmt} {bs : List Stmt} {j : Nat} {hw : FW} {l : List (Nat × FW)} : j ≠ i → SuW X n0 i τ b j hw → SuWs X n0 i τ bs l → SuWs X n0 i τ (b :: bs) ((j, hw) :: l)
def appW (fs : Fds) : List (Nat × FW) → Rho → Option Rho
  | [], ρ => some ρ
  | (j, hw) :: l, ρ => match hw ρ fs with
    | some d => appW fs l (ρ.set j (.val d))
    | none => none
section
variable {X : Cx} {W : WX} {τ : Type} [Sto τ] {n0 : Str} {i : Nat}
theorem SuW.hx {e : Expr} {hf : FX} {te : Addr → Value → Option Addr → TE} {b : Stmt} {j : Nat} (h : HX X n0 i e hf te) (hp : ∀ (a : Addr) (oe : Obj) (pn : List (Addr × Obj)) (t : TE), PE (X.suite a ((a, oe) :: pn)) e t → PS (X.suite a ((a, oe) :: pn)) b (tAsg t (gName j))) : SuW X n0 i τ b j (fun _ => hf) :=
  ⟨te, fun a oe cls d pn hz hv => hp a oe pn _ (h.pe a oe cls d pn hz hv), fun S e q => h.ok S.s S.x e S.at_.dom q⟩
def tW2 (K : Fg) (n0 : Str) (i : Nat) (τ : Type) [Sto τ] (l : List (Nat × FW)) (a : Addr) (cls : Value) (d : Option Addr) : TS := fun E σ H => ∃ (C : SC τ) (ρ : Rho) (t : τ) (fs : Fds), SuI K n0 i C ρ t σ H a cls d fs ∧
  ∃ ρ', appW fs l ρ = some ρ' ∧ ∀ σ' H', Stp (Fo C.F ρ σ) H (Fo C.F ρ' σ') H' → SuI K n0 i C ρ' t σ' H' a cls d fs → E.nx σ' H'
theorem SuWs.run {bs : List Stmt} {l : List (Nat × FW)} (h : SuWs X n0 i τ bs l) {a : Addr} {oe : Obj} {cls : Value} {d : Option Addr} {pn : List (Addr × Obj)} (hz : Zc cls d oe) (hv : ∃ vs, oe.data = .fields vs) : PSs (X.suite a ((a, oe) :: pn)) bs (tW2 X.K n0 i τ l a cls d) := by
  induction h with
  | nil => exact PSs.imp pss_nil fun E σ H ⟨C, ρ, t, fs, S, ρ', e, q⟩ => by cases e; exact q σ H (Stp.less fun _ z => z) S
  | @cons b bs j hw l ij hb _ ih =>
    obtain ⟨te, hp, ht⟩ := hb
    refine PSs.imp (pss_cons (hp a oe cls d pn hz hv) ih) fun E σ H ⟨C, ρ, t, fs, S, ρ', e, q⟩ => ?_
    unfold appW at e
    cases eh : hw ρ fs with
    | none => rw [eh] at e; cases e
    | some dv =>
      rw [eh] at e
      refine ht S eh fun v H1 sm r => ?_
      have smC : Sm C.F H H1 := fun b o _ e => sm b o e
      have A2 := S.at_.next smC (C.stay S.at_.st sm)
      have A3 := A2.setVal (i := j) (v := v) (d := dv) r
      have S3 : SuI X.K n0 i C (ρ.set j (.val dv)) t (σ.set j (some v)) H1 a cls d fs := ⟨A3, by rw [List.getElem?_set_ne ij]; exact S.no, by rw [List.getElem?_set_ne ij]; exact S.s, S.x.step sm fun b h => Fo.setVal h⟩
      refine ⟨C, _, t, fs, S3, ρ', e, fun σ' H' s' S' => q σ' H' (Stp.trans ⟨fun b o n e => sm b o e, fun b h => .inl (Fo.setVal h)⟩ s') S'⟩
end
section
variable {τ : Type} {P : Pt τ} {ρ : Rho} {t : τ}
end
end MM

namespace MM
open PySem PySem.Spec PyProof.Rows L2
section
variable {X : Cx} {W : WX} {τ : Type} [Sto τ] {K : Fg}
end
section
variable {τ : Type} {ρ : Rho} {t : τ}
end
end MM

namespace MM
open PySem PySem.Spec PyProof.Rows L2
section
variable {X : Cx} {W : WX} {τ : Type} [Sto τ] {K : Fg}
end
section
variable {τ : Type} {ρ : Rho} {t : τ}
end
end MM

namespace MM
open PySem PySem.Spec PyProof.Rows L2
section
variable {X : Cx} {W : WX} {τ : Type} [Sto τ] {K : Fg}
end
end MM

namespace MM
open PySem PySem.Spec PyProof.Rows L2
section
variable {X : Cx} {pins : List (Addr × Obj)} {σ : L2.St} {H : Hp} {s : Shared} {xe : Value → Shared → Prop}
end
section
variable {X : Cx} {x n : Str} {c : Value} {i : Nat} {body suite : List Stmt} {b₀ : Stmt} {np pos pos' : Pos} {tb : WX → TS} {ts : Addr → Value → Option Addr → TS} {Wout : WX}
end
section
variable {X : Cx} {W : WX} {τ : Type} [Sto τ] {K : Fg}
end
section
variable {τ : Type} {P : Pt τ} {ρ : Rho} {t : τ}
end
theorem fn_mkN {τ : Type} [Sto τ] {P : Program} {w : World} {K : Fg} {mg : Str → Option Value} {base : Heap} {x qual : Str} {params : Arguments} {body : List Stmt} {scope : Scope} {dvs : List V} {kws : List (Str × V)} {f : Addr} {fd : FuncData} {N ps : List Str} {k : Nat}
    (F : FunD K x qual params body scope dvs kws f fd) (S : FnScope N ps scope) (mb : MS τ)
    (hb : ∀ (cdv : Value) (A : Around) (outer : List Env) (s : Shared) (H : Hp) (E : XK), Room k (A.deeper (envOfC qual scope s.heap.objs.size f cdv)) →
      PSs (cxOf (L2N.CX P w) P w K mg base N qual scope f cdv A outer s H E) body (tS K (fun cls d _ H => E cls d H) mb)) : FnOk P w K mg base (L2N.CX P w) (k + 1) f fd ps (spF ps.length K (runB N.length mb)) := by
  have hpl : ps.length ≤ N.length := by have := congrArg List.length S.pre; rw [List.length_take] at this; omega
  refine F.ok S (fun vs H Q E ⟨C, ds, t, _, _, r, hl, _⟩ => r.length.trans hl) fun cdv A outer s H vs Q E hr ⟨C, ds, t, okC, iv, r, hl, p⟩ => ⟨_, hb cdv A outer s H E hr, C, _, t, At.start okC iv r (by rw [hl]; exact hpl), ?_⟩
  unfold runB at p
  cases e : mb (ds.map Slot.val ++ List.replicate (N.length - ds.length) .no) t with
  | nx ρ' t' =>
    rw [e] at p
    exact fun σ' H' s' A' => p .non H' (fun b o n e => s'.keep b o (fun z => n (FoStart z)) e) (C.less A'.st fun _ => .inl) .non
  | rt d t' =>
    rw [e] at p
    exact fun v H' s' i r => p v H' (fun b o n e => s' b o (fun z => n (FoStart z)) e) i r
  | ex n fs ρ' t' =>
    rw [e] at p
    exact fun cls dd σ' H' s' A' x => p cls dd H' (fun b o n e => s'.keep b o (fun z => n (FoStart z)) e) (C.less A'.st fun _ => .inl) (x.anti fun _ => .inl)
  | bk ρ' t' => rw [e] at p; exact p.elim
  | ct ρ' t' => rw [e] at p; exact p.elim
  | bad => rw [e] at p; exact p.elim
structure DefN {τ : Type} [Sto τ] (P : Program) (w : World) (K : Fg) (mg : Str → Option Value) (base : Heap) (k : Nat) (x : Str) (np : Nat) (df : List D) (m : List D → τ → Res τ D) : Prop where
  ex : ∃ (fd : FuncData) (ps : List Str) (ds : List Value) (dvs : List V), FnOk P w K mg base (L2N.CX P w) k (He.ga K x) fd ps (spF np K m) ∧ mg x = some (.ref (He.ga K x)) ∧ PySem.W.keepIn K (.ref (He.ga K x)) = true ∧ Binds K fd ps ds ∧ Vals dvs ds ∧ (∀ F H, Reps K F H dvs df)
theorem DefN.mk' {τ : Type} [Sto τ] {P : Program} {w : World} {K : Fg} {mg : Str → Option Value} {base : Heap} {x qual : Str} {params : Arguments} {body : List Stmt} {scope : Scope} {dvs : List V} {kws : List (Str × V)} {fd : FuncData} {N ps : List Str} {k : Nat} {df : List D}
    (F : FunD K x qual params body scope dvs kws (He.ga K x) fd) (hm : mg x = some (.ref (He.ga K x))) (S : FnScope N ps scope) (mb : MS τ) (hb : ∃ ds dv, Vals dv ds ∧ Binds K fd ps ds ∧ ∀ F H, Reps K F H dv df)
    (hbody : ∀ (cdv : Value) (A : Around) (outer : List Env) (s : Shared) (H : Hp) (E : XK), Room k (A.deeper (envOfC qual scope s.heap.objs.size (He.ga K x) cdv)) →
      PSs (cxOf (L2N.CX P w) P w K mg base N qual scope (He.ga K x) cdv A outer s H E) body (tS K (fun cls d _ H => E cls d H) mb)) : DefN P w K mg base (k + 1) x ps.length df (runB N.length mb) := by
  obtain ⟨ds, dv, h1, h2, h3⟩ := hb
  exact ⟨fd, ps, ds, dv, fn_mkN F S mb hbody, hm, F.kp, h2, h1, h3⟩
theorem DefN.mono {τ : Type} [Sto τ] {P : Program} {w : World} {K : Fg} {mg : Str → Option Value} {base : Heap} {j k : Nat} {x : Str} {np : Nat} {df : List D} {m : List D → τ → Res τ D} (F : DefN P w K mg base j x np df m) (h : j ≤ k) : DefN P w K mg base k x np df m := by
  obtain ⟨fd, ps, ds, dv, F, r⟩ := F.ex
  exact ⟨fd, ps, ds, dv, F.mono h, r⟩
section
variable {X : Cx} {W : WX} {τ : Type} [Sto τ]
end
section
variable {τ : Type} {ρ : Rho} {t : τ} {X : Str → Fds → τ → Prop}
end
end MM

namespace MM
open PySem PySem.Spec PyProof.Rows L2
section
variable {X : Cx}
end
section
variable {τ : Type} [Sto τ] {K : Fg} {W : WX}
end
section
variable {X : Cx} {W : WX} {τ : Type} [Sto τ]
end
section
variable {τ : Type} {Q : List D → τ → Prop} {X : Str → Fds → τ → Prop} {ρ : Rho} {t : τ} {vs : List Nat} {g : Tgt} {tt : ME τ Bool} {mi : ME τ (List D)} {te : ME τ D}
end
end MM

namespace MM
open PySem PySem.Spec PyProof.Rows L2
section
variable {X : Cx} {K : Fg}
end
end MM

namespace MM
open PySem PySem.Spec PyProof.Rows L2
section
variable {X : Cx} {W : WX} {τ : Type} [Sto τ] {K : Fg}
end
end MM

namespace MM
open PySem PySem.Spec PyProof.Rows L2
def pickL {α : Type} (ix : List (Bool × Nat)) (a b : List α) : List α := ix.filterMap fun p => if p.1 = true then a[p.2]? else b[p.2]?
section
end
section
variable {K : Fg} {x qual : Str} {params : Arguments} {body : List Stmt} {scope : Scope} {kws : List (Str × V)} {f : Addr} {fd : FuncData} {ps : List Str}
end
structure DefQ (P : Program) (w : World) (K : Fg) (mg : Str → Option Value) (base : Heap) (k : Nat) (x : Str) (np n : Nat) (ks : List Str) (ix : List (Bool × Nat)) (dms : List D) (m : List D → Unit → Res Unit D) : Prop where
  ex : ∃ (fd : FuncData) (ps : List Str) (g : List Value → List Value → List Value) (dvs : List V), FnOk P w K mg base (L2.CX P w) k (He.ga K x) fd ps (spF np K m) ∧ mg x = some (.ref (He.ga K x)) ∧ PySem.W.keepIn K (.ref (He.ga K x)) = true ∧ KBn K fd ps n ks g (fun vs zs => vs ++ pickL ix dvs zs) ∧ ∀ F H, Reps K F H dvs dms
section
variable {X : Cx} {CX : CXT} {k n : Nat} {f : Addr} {fd : FuncData} {ps ks : List Str} {sp : Sp} {E : L2.St → XK} {x : Str} {p pos : Pos} {e : Expr} {es : List Expr} {kws : List Keyword} {t tk : TA} {g : List Value → List Value → List Value} {gV : List V → List V → List V}
end
section
variable {X : Cx} {W : WX} {τ : Type} [Sto τ] {K : Fg}
theorem DefQ.mono {P : Program} {w : World} {mg : Str → Option Value} {base : Heap} {k k' np n : Nat} {x : Str} {ks : List Str} {ix : List (Bool × Nat)} {dms : List D} {m : List D → Unit → Res Unit D} (h : DefQ P w K mg base k x np n ks ix dms m) : DefQ P w K mg base k x np n ks ix dms m := h
end
end MM

namespace MM
open PySem PySem.Spec PyProof.Rows L2
section
variable {X : Cx} {W : WX} {τ : Type} [Sto τ] {K : Fg}
end
end MM

namespace MM
open PySem PySem.Spec PyProof.Rows L2
open PyProof.V (PairsRead reads_dictOf)
section
variable {X : Cx} {σ : St} {H : Hp} {s : Shared} {pins : List (Addr × Obj)}
end
section
variable {X : Cx} {W : WX} {τ : Type} [Sto τ] {K : Fg}
end
section
variable {Q : D → Prop} {d : D}
end
end MM

namespace PySem
open Sem (wp)
section
variable {prog : Program} {w : World} {A : Around} {E : Value → Shared → Prop} {s : Shared}
end
section
variable {prog : Program} {w : World}
end
end PySem
namespace MM
open PySem PySem.Spec PyProof.Rows L2
section
variable {X : Cx} {W : WX} {τ : Type} [Sto τ] {K : Fg}
end
end MM

namespace MM
open PySem PySem.Spec PyProof.Rows L2
section
variable {X : Cx} {τ : Type} [Sto τ] {K : Fg}
theorem PG.or {e : Expr} {t t' : TG} (h : PG X e t) (h' : PG X e t') : PG X e (fun v σ H Q => t v σ H Q ∨ t' v σ H Q) := ⟨fun pins s σ H v u Q I r q => q.elim (h.run pins s σ H v u Q I r) (h'.run pins s σ H v u Q I r)⟩
end
end MM

namespace MM
open PySem PySem.Spec PyProof.Rows L2
section
variable {X : Cx} {W : WX} {τ : Type} [Sto τ] {K : Fg}
end
end MM

namespace MM
open PySem PySem.Spec PyProof.Rows L2
section
variable {τ : Type} [Sto τ] {X : Cx} {W : WX} {K : Fg}
end
section
variable {τ α : Type} {X : Str → Fds → τ → Prop} {ρ : Rho} {t : τ}
end
end MM

namespace MM
open PySem PySem.Spec PyProof.Rows L2
section
variable {X : Cx} {W : WX} {τ : Type} [Sto τ] {K : Fg}
theorem run_fnA {CX : CXT} {k : Nat} {f : Addr} {fd : FuncData} {ps : List Str} {sp : Sp} {dvs : List V} {ds : List Value} {E : XK} {A : Around} {pins : List (Addr × Obj)} {σ : L2.St} {H : Hp} {s : Shared} {Q : VK} {us : List Value} {vs : List V}
    (F : FnOk X.prog X.w X.K X.mg X.base CX k f fd ps sp) (sb : Sub X k A) (hb : Binds X.K fd ps ds) (hd : Vals dvs ds) (hx : Passes CX X E)
    (I : Inv X pins σ H s) (r : Vals vs us) (h : sp (vs ++ dvs) H Q E) : wpAny (model X.prog X.w) A (call (.ref f) us) (EP X pins σ Q) X.xe s := by
  have r2 : Vals (vs ++ dvs) (us ++ ds) := r.append hd
  have hl : (us ++ ds).length = ps.length := by rw [← r2.length]; exact F.len _ _ _ _ h
  have e0 : Env0 X.prog X.w X.K X.mg X.base A X.stack s H := by
    have e := I.env0
    exact ⟨by rw [sb.fr]; exact e.frames, e.mod, e.bs, e.bsz, e.funs, e.frf, e.hok, e.bare⟩
  refine wpAny_call (codeAny_mono (F.run A X.stack s H ⟨us, []⟩ (us ++ ds) (vs ++ dvs) Q E sb.room e0 (hb s us I.kIn hl) r2 h) fun r s' hq => ?_)
  cases r with
  | error e => exact hx pins σ H s e s' I hq
  | ok fl =>
    cases fl with
    | ret u => exact I.after hq
    | next => exact False.elim hq
    | brk => exact False.elim hq
    | cont => exact False.elim hq
theorem RelV.strX {t : Str} {v : Value} (r : RelV (.str t) v) : ∃ u, v = .str t u := by
  first | exact r | (cases v <;> first | exact r.elim | (cases r; exact ⟨_, rfl⟩))
def tStrD (K : Fg) (tbl : List (Str × (List D → Unit → Res Unit D))) (ta : TE) : TE := fun σ H Q => ta σ H fun x H1 => ∃ (a dx : Addr) (C : Str) (fs : List (Str × V)) (mf : List D → Unit → Res Unit D), x = .ref a ∧ (C, mf) ∈ tbl ∧ H1 a = some (.ins (He.ga K C) dx fs) ∧
  spF 1 K mf [x] H1 (fun v H' => (∃ s, v = .str s) ∧ Q v H') (fun _ _ _ => False)
theorem pe_strD {k : Nat} {tbl : List (Str × (List D → Unit → Res Unit D))} {e : Expr} {ta : TE} {p pos : Pos} (hT : ∀ p ∈ tbl, MethE X.prog X.w X.K X.mg X.base k p.1 "__str__" 1 p.2) (hr : Room (k + 2) X.A) (he : PE X e ta) (hg : Gl X "str") (hm : X.mg "str" = none)
    (na : starEach [e] X.env = (false, eval e X.env) :: starEach [] X.env := by rfl) : PE X (.Call (.Name "str" p) [e] [] pos) (tStrD X.K tbl ta) := by
  refine ⟨fun pins s σ H Q I h => ?_⟩
  refine wpAny_Call_Name_kw (ld_blt I hg hm (by decide +kernel : bootBuiltins "str" = some (.type "str")) ?_)
  refine PyProof.Rows.callWith_type1 (one_arg he I h (fun v s2 x H2 I2 r q => ?_) na) na
  obtain ⟨a, dx, C, fs, mf, ex, hmem, ea, q⟩ := q
  subst ex
  obtain rfl : v = Value.ref a := r
  obtain ⟨fd, ps, F, hb, c, M⟩ := (hT _ hmem).ex
  obtain ⟨mA, J, _⟩ := ins_get I2.hok ea
  obtain ⟨od, J, _⟩ := J.look
  refine PySem.W.kso_call hr.in1.in1.units0 I2.kIn J M.at_ M.fn ?_
  refine wpAny_mono (run_fnA (E := fun _ _ _ => False) (vs := [.ref a]) (us := [.ref a]) F ⟨hr.in1.in1, rfl⟩ hb .nil (fun pins σ H s e s' I h => ?_) I2 (.cons rfl .nil) q) (fun r s' z => ?_) (fun _ _ x => x)
  · obtain ⟨_, _, _, _, _, _, _, _, _, _, _, _, z⟩ := h
    exact z.elim
  · obtain ⟨v, H', I', rv, ⟨t, ev⟩, q'⟩ := z
    subst ev
    obtain ⟨u, rfl⟩ := RelV.strX rv
    exact ⟨_, H', I', rv, q'⟩
def eStrO (tbl : List (Str × (List D → Unit → Res Unit D))) (mo : ME τ D) : ME τ D := fun ρ t => (mo ρ t).bind fun d t => match d with
  | .obj C _ _ => match tbl.lookup C with
    | some mf => match mf [d] () with
      | .ok (.str s) _ => .ok (.str s) t
      | _ => .bad
    | none => .bad
  | _ => .bad
theorem me_strO {k : Nat} {tbl : List (Str × (List D → Unit → Res Unit D))} {e : Expr} {mo : ME τ D} {p pos : Pos} (hT : ∀ p ∈ tbl, MethE X.prog X.w X.K X.mg X.base k p.1 "__str__" 1 p.2) (hr : Room (k + 2) X.A) (he : PE X e (tE X.K W mo)) (hg : Gl X "str") (hm : X.mg "str" = none)
    (na : starEach [e] X.env = (false, eval e X.env) :: starEach [] X.env := by rfl) : PE X (.Call (.Name "str" p) [e] [] pos) (tE X.K W (eStrO tbl mo)) := PE.imp (pe_strD hT hr he hg hm na) fun σ H Q ⟨C, ρ, t, A, p⟩ => by
  refine use okE A p fun d t1 v H1 e1 s1 A1 r1 p1 => ?_
  cases d <;> first
    | exact p1.elim
    | skip
  rename_i Cn ns ds0
  dsimp only at p1
  split at p1
  · rename_i mf hmf
    obtain ⟨a, dx, fs, rfl, nF, ha', rfl, rs⟩ := RepW.objOf (F0 := Fo C.F ρ σ) (RepW.of r1)
    refine ⟨a, dx, Cn, fs, mf, rfl, lookup_mem hmf, ha', ?_⟩
    generalize D.obj Cn (fs.map (·.1)) ds0 = d0 at r1 p1
    refine ⟨SC.pure (Fo C.F ρ σ) H1 A1.dom, [d0], (), trivial, ⟨Stp.refl _ _, fun _ _ _ e => e⟩, .cons r1 .nil, rfl, ?_⟩
    cases e : mf [d0] () with
    | ok d u =>
      rw [e] at p1
      cases d <;> first | exact p1.elim | skip
      rename_i str
      exact fun v H' s i r => ⟨by cases r; exact ⟨_, rfl⟩, p1 v H' (Sm.of_same (SC.pure_same i)) (C.stay A1.st (SC.pure_same i)) r⟩
    | ex n fs u => rw [e] at p1; exact p1.elim
    | bad => rw [e] at p1; exact p1.elim
  · exact p1.elim
end
end MM

namespace MM
open PySem PySem.Spec PyProof.Rows L2
section
variable {X : Cx} {W : WX} {τ : Type} [Sto τ] {K : Fg}
def mulS1Ok (x : Str) (n : Int) : Bool := decide (1 ≤ n) && decide (n ≤ 1000000) && decide (1 ≤ x.length) && decide (x.length * n.toNat ≤ 1000000)
def dMulS1 : D → D → Option D := fun d e => match d, e with
  | .str x, .int n => if mulS1Ok x n = true then some (.str (repS x n)) else none
  | _, _ => none
def rMulS1 : R2 := fun v u H Q => ∃ x n, v = .str x ∧ u = .int n ∧ mulS1Ok x n = true ∧ Q (.str (repS x n)) H
theorem op_mulS1 : OpR X (binaryOp .Mult) rMulS1 := by
  intro pins s σ H x y v u Q I rx ry h
  obtain ⟨a, n, rfl, rfl, hc, q⟩ := h
  obtain ⟨t, rfl⟩ := rx
  obtain ⟨t', rfl⟩ := ry
  unfold mulS1Ok at hc
  simp only [Bool.and_eq_true, decide_eq_true_eq] at hc
  obtain ⟨⟨⟨h2, h3⟩, h4⟩, h5⟩ := hc
  have hd : a.length * n.toNat < sizeLine := Nat.lt_of_le_of_lt h5 sizeLine_big
  refine PySem.SB.mul ⟨?_, fun _ _ => ?_, fun _ _ => ?_⟩ fun t1 k => ⟨.str (repS a n), H, I.tok _, ⟨_, rfl⟩, q⟩
  · rw [decide_eq_false (by omega), decide_eq_false (by omega)] <;> rfl
  · have e1 : (a.length : Int) ≤ 1000000 := by
      have : a.length ≤ a.length * n.toNat := Nat.le_mul_of_pos_right _ (by omega)
      omega
    have : (1000000 : Int) ≤ (2 ^ 63 - 1) / n := by
      rw [Int.le_ediv_iff_mul_le (by omega)]
      have : (1000000 : Int) * n ≤ 1000000 * 1000000 := Int.mul_le_mul_of_nonneg_left h3 (by decide)
      omega
    omega
  · exact decide_eq_false (by show ¬ a.length * n.toNat > sizeLine; omega)
theorem o_mulS1 : DOp2 K rMulS1 dMulS1 := fun F0 F H x y d e z Q dm rx ry q k => by
  unfold dMulS1 at q
  split at q
  · split at q
    · rename_i hc
      cases q
      exact ⟨_, _, rx.strOf, ry.intOf, hc, k _ _ (Same.refl H) (.str _)⟩
    · cases q
  · cases q
end
end MM

namespace MM
open PySem PySem.Spec PyProof.Rows L2
abbrev zwH1 (h : Heap) (l1 : Addr) : Heap := h.push { cls := .type "tuple_iterator", data := .fields #[.ref l1, .int 0 0] }
abbrev zwH2 (h : Heap) (l1 l2 : Addr) : Heap := (zwH1 h l1).push { cls := .type "list_iterator", data := .fields #[.ref l2, .int 0 0] }
abbrev zwH3 (h : Heap) (l1 l2 : Addr) : Heap := (zwH2 h l1 l2).push { cls := .type "tuple", data := .seq #[.ref h.objs.size, .ref (zwH1 h l1).objs.size] }
abbrev zwH4 (h : Heap) (l1 l2 : Addr) : Heap := (zwH3 h l1 l2).push { cls := .type "tuple", data := .seq #[.none, .none] }
abbrev zwH5 (h : Heap) (l1 l2 : Addr) : Heap := (zwH4 h l1 l2).push { cls := .type "zip", data := .fields #[.none, .bool false, .bool false, .ref (zwH2 h l1 l2).objs.size, .ref (zwH3 h l1 l2).objs.size] }
theorem meets_zipW (l1 l2 : Addr) (xs ys : Array Value) :
    Meets (Builtin.«zip.__new__» ⟨[.type "zip", .ref l1, .ref l2], []⟩) (fun _ R s => s.heap.IsTuple l1 xs ∧ s.heap.IsList l2 ys ∧ R (.ok (.ret (.ref (zwH4 s.heap l1 l2).objs.size))) { s with heap := zwH5 s.heap l1 l2 }) :=
  .of_wp fun prog w A R s h => by
    obtain ⟨hp, g, d, tk, os⟩ := s; obtain ⟨hl1, hl2, h⟩ := h
    have hsub := sub_zip
    have hL1 : Heap.IsTuple (Shared.heap ⟨hp, g, d, tk, os⟩) l1 xs := hl1
    have hL2 : Heap.IsList (Shared.heap ⟨hp.push { cls := .type "tuple_iterator", data := .fields #[.ref l1, .int 0 0] }, g, d, tk, os⟩) l2 ys := Heap.IsList.push hl2 _
    wp_walk using wpAny_pyIter_tuple hL1, wpAny_pyIter_list hL2
    exact ⟨_, rfl, h⟩
theorem call_zipW {prog : Program} {w : World} {A : Around} {E : Value → Shared → Prop} {s : Shared} {l1 l2 : Addr} {xs ys : Array Value} {Q : Value → Shared → Prop} (hl1 : s.heap.IsTuple l1 xs) (hl2 : s.heap.IsList l2 ys)
    (h : ∀ h', IsZip h' (s.heap.objs.size + 4) (s.heap.objs.size + 2) (s.heap.objs.size + 3) .none → IsPair h' (s.heap.objs.size + 2) (.ref s.heap.objs.size) (.ref (s.heap.objs.size + 1)) →
      IsPair h' (s.heap.objs.size + 3) .none .none → h'.IsTupleIter s.heap.objs.size l1 0 → h'.IsListIter (s.heap.objs.size + 1) l2 0 → (∀ c o, s.heap.get? c = some o → h'.get? c = some o) → Q (.ref (s.heap.objs.size + 4)) { s with heap := h' }) :
    wpAny (model prog w) A (call (.type "zip") [.ref l1, .ref l2]) Q E s := by
  refine callType_new F.called_zip (by decide) (F.typeCall_zip_2 _ _) (F.newCall_zip_2 _ _) (fun obj => F.args_object_init_3 obj _ _) F.entry_zip_new (meets_zipW l1 l2 xs ys) ⟨hl1, hl2, ?_⟩
  have n1 : (zwH1 s.heap l1).objs.size = s.heap.objs.size + 1 := Heap.size_push ..
  have n2 : (zwH2 s.heap l1 l2).objs.size = s.heap.objs.size + 2 := by rw [Heap.size_push, n1]
  have n3 : (zwH3 s.heap l1 l2).objs.size = s.heap.objs.size + 3 := by rw [Heap.size_push, n2]
  have n4 : (zwH4 s.heap l1 l2).objs.size = s.heap.objs.size + 4 := by rw [Heap.size_push, n3]
  have up : ∀ {c : Addr} {o : Obj} {g : Heap} (u : Obj), g.get? c = some o → (g.push u).get? c = some o := fun u q => Heap.get?_push_of_some _ q
  have g5 : (zwH5 s.heap l1 l2).get? (zwH4 s.heap l1 l2).objs.size = some _ := Heap.get?_push_size _ rfl
  have g4 : (zwH5 s.heap l1 l2).get? (zwH3 s.heap l1 l2).objs.size = some _ := up _ (Heap.get?_push_size _ rfl)
  have g3 : (zwH5 s.heap l1 l2).get? (zwH2 s.heap l1 l2).objs.size = some _ := up _ (up _ (Heap.get?_push_size _ rfl))
  have g2 : (zwH5 s.heap l1 l2).get? (zwH1 s.heap l1).objs.size = some _ := up _ (up _ (up _ (Heap.get?_push_size _ rfl)))
  have g1 : (zwH5 s.heap l1 l2).get? s.heap.objs.size = some _ := up _ (up _ (up _ (up _ (Heap.get?_push_size _ rfl))))
  show _ ∧ _
  rw [n2, n3, n4] at g5
  rw [n1, n2] at g3
  rw [n3] at g4
  rw [n1] at g2
  rw [n4]
  exact ⟨⟨_, g5, rfl⟩, h _ g5 g3 g4 ⟨_, g1, rfl, rfl⟩ ⟨_, g2, rfl, rfl⟩ fun c o q => up _ (up _ (up _ (up _ (up _ q))))⟩
def ItzW (K : Fg) (a b : Addr) : It :=
  ⟨fun i H => ∃ (xs ys : List V) (x y : V), SqT K H a xs ∧ SqL K H b ys ∧ xs[i]? = some x ∧ ys[i]? = some y,
    fun i H v H' => ∃ T x y, v = .ref T ∧ H T = none ∧ H' = upd H T (.tup [x, y]) ∧ (∀ xs, SqT K H a xs → xs[i]? = some x) ∧ ∀ ys, SqL K H b ys → ys[i]? = some y,
    fun i H => ∃ xs ys : List V, SqT K H a xs ∧ SqL K H b ys ∧ (xs.length ≤ i ∨ ys.length ≤ i)⟩
theorem turn_zipW {P : Program} {w : World} {K : Fg} {elts : List Expr} {kk : Nat} {tpos : Pos} {a b z TI TO i1 i2 : Addr} (D : ZipApart z TI TO i1 i2 a b) :
    Turn P w K (.Tuple elts kk tpos) (ItzW K a b) [z, TI, TO, i1, i2] z (fun i h => IsZip h z TI TO .none ∧ IsPair h TI (.ref i1) (.ref i2) ∧ (∃ x y, IsPair h TO x y) ∧ h.IsTupleIter i1 a i ∧ h.IsListIter i2 b i) where
  mem := by simp
  obj := fun i h st c hc => by
    obtain ⟨hz, hTI, ⟨x, y, hTO⟩, ⟨o1, e1, _, d1⟩, ⟨o2, e2, _, d2⟩⟩ := st
    have e' : c = z ∨ c = TI ∨ c = TO ∨ c = i1 ∨ c = i2 := by simpa using hc
    rcases e' with rfl | rfl | rfl | rfl | rfl
    · exact ⟨_, hz, fun v q => nomatch q⟩
    · exact ⟨_, hTI, fun v q => nomatch q⟩
    · exact ⟨_, hTO, fun v q => nomatch q⟩
    · exact ⟨o1, e1, fun v q => by rw [d1] at q; cases q⟩
    · exact ⟨o2, e2, fun v q => by rw [d2] at q; cases q⟩
  keep := fun i h h' st k => by
    obtain ⟨hz, hTI, ⟨x, y, hTO⟩, h1, h2⟩ := st
    exact ⟨k z (by simp) _ hz, k TI (by simp) _ hTI, ⟨x, y, k TO (by simp) _ hTO⟩, h1.at fun o q => k i1 (by simp) o q, h2.at fun o q => k i2 (by simp) o q⟩
  item := by
    intro X hP hw hK hc i pins s σ H E I hf st hg
    subst hP hw hK
    obtain ⟨hz, hTI, ⟨x0, y0, hTO⟩, h1, h2⟩ := st
    obtain ⟨xs, ys, x, y, hqx, hqy, hx, hy⟩ := hg
    obtain ⟨its, rv, p, _⟩ := I.tuple hqx
    obtain ⟨its2, rv2, p2, _⟩ := I.list hqy
    obtain ⟨u, hu, ru⟩ := rv.get hx
    obtain ⟨u2, hu2, ru2⟩ := rv2.get hy
    have hzl : z < s.heap.objs.size := Heap.lt_size hz
    refine pyNextN_item Nxr.tup Nxr.lst D hz hTI hTO h1 h2 p p2.isList (x := u) (y := u2) (by simpa using hu) (by simpa using hu2) fun h' z' TO' h1' h2' hT hsz hk => ?_
    refine ⟨_, rfl, wpAny_letOwnedTupleGo_zip (s := { s with heap := h' }) z' fun h'' z'' sb => ?_⟩
    have hT2 : h''.get? s.heap.objs.size = some { cls := .type "tuple", data := .seq #[u, u2] } := (sb.2 _ (Nat.ne_of_gt hzl)).trans hT
    have new : ObjOk X.prog X.w (upd H s.heap.objs.size (.tup [x, y])) h'' s.heap.objs.size (.tup [x, y]) := ⟨by show 2 ≤ sizeLine; decide, [u, u2], .cons ru (.cons ru2 .nil), ⟨_, hT2, rfl, _, rfl⟩⟩
    have I1 : Inv X pins σ (upd H s.heap.objs.size (.tup [x, y])) { s with heap := h'' } :=
      I.turnedNew (t' := s.toks) (ch := [z, TI, TO, i1, i2]) (fun c o hb q => (sb.2 c (fun q' => hb (by simp [q']))).trans (hk c o (fun q' => hb (by simp [q'])) (fun q' => hb (by simp [q'])) (fun q' => hb (by simp [q'])) (fun q' => hb (by simp [q'])) q)) hf (Nat.le_refl _) new
    refine ⟨.ref s.heap.objs.size, _, I1, rfl, ⟨_, x, y, rfl, I.hok.fresh (Nat.le_refl _), rfl, fun l hl => by rw [I.tuple_inj hl hqx]; exact hx, fun l hl => by rw [I.list_inj hl hqy]; exact hy⟩, ⟨z'', (sb.2 _ D.TIz).trans (hk _ _ D.TIz D.TITO D.TIi1 D.TIi2 hTI), ⟨u, u2, (sb.2 _ D.TOz).trans TO'⟩, h1'.at fun o q => (sb.2 _ D.i1z).trans q, h2'.at fun o q => (sb.2 _ D.i2z).trans q⟩, fun c hcm => ?_⟩
    have hlt : c < s.heap.objs.size := by
      have e' : c = z ∨ c = TI ∨ c = TO ∨ c = i1 ∨ c = i2 := by simpa using hcm
      rcases e' with rfl | rfl | rfl | rfl | rfl
      · exact hzl
      · exact Heap.lt_size hTI
      · exact Heap.lt_size hTO
      · obtain ⟨_, e1, _⟩ := h1; exact Heap.lt_size e1
      · obtain ⟨_, e2, _⟩ := h2; exact Heap.lt_size e2
    rw [upd_ne (Nat.ne_of_lt hlt)]
    exact (hf c hcm).1
  done := by
    intro X hP hw hK hc i pins s σ H E I hf st hg
    subst hP hw hK
    obtain ⟨hz, hTI, ⟨x0, y0, hTO⟩, h1, h2⟩ := st
    obtain ⟨xs, ys, hqx, hqy, hend⟩ := hg
    obtain ⟨its, rv, p, _⟩ := I.tuple hqx
    obtain ⟨its2, rv2, p2, _⟩ := I.list hqy
    have l1 := rv.length
    have l2 := rv2.length
    have he : its.toArray[i]? = none ∨ its2.toArray[i]? = none := by
      rcases hend with q | q
      · exact .inl (by simp; omega)
      · exact .inr (by simp; omega)
    exact pyNextN_end (I.ok.hd hc) Nxr.tup Nxr.lst D hz hTI hTO h1 h2 p p2.isList he fun h' hk => ⟨rfl, I.turnedL (t' := s.toks) (ch := [z, TI, TO, i1, i2]) (fun c o hb q =>
      hk c o (fun q' => hb (by simp [q'])) (fun q' => hb (by simp [q'])) (fun q' => hb (by simp [q'])) (fun q' => hb (by simp [q'])) q) hf⟩
  self := fun A i s Q E st h => wpAny_pyIter_zip st.1 h
section
variable {X : Cx} {W : WX} {τ : Type} [Sto τ] {K : Fg}
def iZipW (K : Fg) (ta : TA) : TI := fun σ H R => ta σ H fun vs H1 => ∃ a b xs ys, vs = [.ref a, .ref b] ∧ SqT K H1 a xs ∧ SqL K H1 b ys ∧ R (ItzW K a b) H1
theorem pi_zipW {e e2 : Expr} {ta : TA} {p pos tpos : Pos} {elts : List Expr} {kk : Nat} (hg : Gl X "zip") (hm : X.mg "zip" = none) (ha : PA X [e, e2] ta)
    (hs : starEach [e, e2] X.env = (false, eval e X.env) :: starEach [e2] X.env := by rfl) (hpl : (backTo pos (starEach [e2] X.env)).any (·.1) = false := by rfl) :
    PI X (.Tuple elts kk tpos) (.Call (.Name "zip" p) [e, e2] [] pos) (iZipW X.K ta) := by
  refine ⟨fun pins s σ H R I h => ?_⟩
  refine Call_ (ld_blt I hg hm PyProof.Rows.boot_zip (PyProof.Rows.callWith_type1 (thn (ha.run pos pins _ σ H _ I h) fun us s1 ⟨vs, H1, I1, r1, a, b, xs, ys, ex, hqx, hqy, q⟩ => ?_) hs hpl))
  subst ex
  cases r1 with
  | cons r rr =>
    cases rr with
    | cons r' rr =>
      cases rr
      cases r
      cases r'
      obtain ⟨its, rv, p1, _⟩ := I1.tuple hqx
      obtain ⟨its2, rv2, p2, _⟩ := I1.list hqy
      obtain ⟨o2, ho2, _⟩ := id p1
      refine call_zipW (show s1.heap.IsTuple a its.toArray from p1) p2.isList fun h' hz hTI hTO h1 h2 hk => wpAny_pyIter_zip hz ?_
      have I2 : Inv X pins σ H1 { s1 with heap := h' } := I1.kept (t' := s1.toks) hk
      refine ⟨s1.heap.objs.size + 4, [s1.heap.objs.size + 4, s1.heap.objs.size + 2, s1.heap.objs.size + 3, s1.heap.objs.size, s1.heap.objs.size + 1], _, _, H1, rfl, I2, turn_zipW (PySem.W.ktu_apart s1.heap.objs.size a b (Heap.lt_size ho2) p2.lt), ⟨hz, hTI, ⟨_, _, hTO⟩, h1, h2⟩, fun c hcm => ?_, q⟩
      have hle : s1.heap.objs.size ≤ c := by
        have e' : c = s1.heap.objs.size + 4 ∨ c = s1.heap.objs.size + 2 ∨ c = s1.heap.objs.size + 3 ∨ c = s1.heap.objs.size ∨ c = s1.heap.objs.size + 1 := by simpa using hcm
        rcases e' with z | z | z | z | z <;> rw [z] <;> first
          | exact Nat.le_add_right _ _
          | exact Nat.le_refl _
      exact I1.fpOk hle (I1.hok.fresh hle)
theorem walk_zipW {xs ys : List V} {a b : Addr} {n : Nat} (hn : n = min xs.length ys.length) : Walk (ItzW K a b) n (fun H => SqT K H a xs ∧ SqL K H b ys) (YPair (fun i => xs[i]?) (fun i => ys[i]?)) := by
  subst hn
  refine ⟨fun i _ hi q => ?_, fun _ q => ⟨xs, ys, q.1, q.2, by omega⟩, fun i H v H' hi q y => ?_⟩
  · have h1 : i < xs.length := by omega
    have h2 : i < ys.length := by omega
    exact ⟨xs, ys, xs[i], ys[i], q.1, q.2, by simp [h1], by simp [h2]⟩
  · obtain ⟨T, x, z, h1, h2, h3, h4, h5⟩ := y
    exact ⟨T, x, z, h1, h2, h3, h4 xs q.1, h5 ys q.2⟩
theorem rIt_zipW {I : Fp → Hp → Prop} {F0 F : Fp} {H H' : Hp} {a b : Addr} {vs ws : List V} {ds es : List D} (hl : TupF K F H' a vs) (r : Reps K F H' vs ds) (hl2 : LstF K F H' b ws) (r2 : Reps K F H' ws es) : rIt K I F0 F H H' (ItzW K a b) (zipD ds es) := by
  have w : Walk (ItzW K a b) (zipD ds es).length (fun H => SqT K H a vs ∧ SqL K H b ws) (YPair (fun i => vs[i]?) (fun i => ws[i]?)) := walk_zipW (by unfold zipD; rw [List.length_zipWith, r.length, r2.length])
  refine ⟨_, _, w, fun H2 s => ⟨(hl.step ⟨s, fun _ z => .inl z⟩).sq, (hl2.step ⟨s, fun _ z => .inl z⟩).sq⟩, fun Fc i H2 x H3 hi s dm y => ?_⟩
  obtain ⟨T, x0, y0, rfl, nT, rfl, e1, e2⟩ := y
  obtain ⟨d, ed, q⟩ := (r.step s).getV e1
  obtain ⟨e, ee, q2⟩ := (r2.step s).getV e2
  exact ⟨same_upd nT, .tup [d, e], zip_get ed ee, Rep.newTup (.cons q (.cons q2 .nil)) dm nT⟩
def fZipW : List D → Option (List D)
  | [.tup xs, .lst ys] => some (zipD xs ys)
  | _ => none
theorem mi_zipW {e e2 : Expr} {p pos tpos : Pos} {elts : List Expr} {kk : Nat} {m : ME τ (List D)} (hg : Gl X "zip") (hm : X.mg "zip" = none) (ha : PA X [e, e2] (tA X.K W m))
    (hs : starEach [e, e2] X.env = (false, eval e X.env) :: starEach [e2] X.env := by rfl) (hpl : (backTo pos (starEach [e2] X.env)).any (·.1) = false := by rfl) :
    PI X (.Tuple elts kk tpos) (.Call (.Name "zip" p) [e, e2] [] pos) (tI X.K W (MM.e1 fZipW m)) := PI.imp (pi_zipW hg hm ha hs hpl) fun σ H R ⟨C, ρ, t, A, p⟩ => by
  refine use okI A p fun d t1 v H1 e1 s1 A1 r1 p1 => ?_
  unfold fZipW at p1
  split at p1
  · cases r1 with
    | cons r1 r2 =>
      cases r2 with
      | cons r2 r3 =>
        cases r3
        cases r1 with
        | tup hl rs =>
          cases r2 with
          | lst hl2 rs2 => exact ⟨_, _, _, _, rfl, hl.sq, hl2.sq, p1 _ H1 (Sm.refl _ _) A1.st (rIt_zipW hl rs hl2 rs2)⟩
  · exact p1.elim
@[simp] theorem fZipW_tl {xs ys : List D} : fZipW [.tup xs, .lst ys] = some (zipD xs ys) := rfl
end
end MM

namespace MM
open PySem PySem.Spec PyProof.Rows L2
section
variable {X : Cx} {W : WX} {τ : Type} [Sto τ] {K : Fg}
def sExt (i : Nat) (m : ME τ (List D)) : MS τ := fun ρ t => match ρ[i]? with
  | some (.own xs) => sDo m (fun zs ρ t => if xs.length + zs.length ≤ 16777216 then .nx (ρ.set i (.own (xs ++ zs))) t else .bad) ρ t
  | _ => .bad
theorem reps_app {F : Fp} {H : Hp} : ∀ {vs ws : List V} {ds es : List D}, Reps K F H vs ds → Reps K F H ws es → Reps K F H (vs ++ ws) (ds ++ es)
  | [], _, [], _, .nil, r2 => r2
  | _ :: _, _, _ :: _, _, .cons r t, r2 => .cons r (reps_app t r2)
theorem set_self {σ : L2.St} {i : Nat} {x : Option V} (h : σ[i]? = some x) : σ.set i x = σ := by
  apply List.ext_getElem?
  intro j
  rw [List.getElem?_set]
  by_cases e : i = j
  · subst e
    rw [if_pos rfl]
    have hl : i < σ.length := by
      rcases Nat.lt_or_ge i σ.length with q | q
      · exact q
      · rw [List.getElem?_eq_none q] at h; cases h
    rw [if_pos hl, h]
  · rw [if_neg e]
theorem ms_ext {s : Stmt} {i : Nat} {m : ME τ (List D)} (h : PS X s (tAug i (tF X.K W m) rExt2)) : PS X s (tS X.K W (sExt i m)) := PS.imp h fun E σ H ⟨C, ρ, t, A, p⟩ => by
  unfold sExt at p
  split at p
  · rename_i xs hi
    obtain ⟨a, vs, hs, nF, ha, hr⟩ := A.own i xs hi
    refine ⟨_, hs, ?_⟩
    refine useS A p fun zs t1 v H1 e1 s1 A1 r1 p1 => ?_
    obtain ⟨b, ws, rfl, nb, hn, hb, rz, _⟩ := r1
    obtain ⟨a', vs', hs', nF', ha', hr'⟩ := A1.own i xs hi
    rw [hs] at hs'; cases hs'
    split at p1
    · rename_i hl
      obtain ⟨A2, sp⟩ := A1.reOwn (ws := vs' ++ ws) (ys := xs ++ zs) hi hs (reps_app hr' (rz.anti fun _ => .inl))
      refine ⟨a, b, vs', ws, rfl, rfl, ha', hb, by rw [hr'.length, rz.length]; exact hl, ?_⟩
      show E.nx (σ.set i (some (.ref a))) _
      have e : σ.set i (some (.ref a)) = σ := set_self hs
      rw [e]
      exact p1 σ _ sp A2
    · exact p1.elim
  · exact p.elim
@[simp] theorem oS_ext {i : Nat} {m : ME τ (List D)} {ρ : Rho} {t : τ} {P : Pt τ} : oS (sExt i m ρ t) P = (match ρ[i]? with | some (.own xs) => oE (m ρ t) (fun zs t => xs.length + zs.length ≤ 16777216 ∧ P.nx (ρ.set i (.own (xs ++ zs))) t) (fun n fs t => P.ex n fs ρ t) | _ => False) := by
  cases h : ρ[i]? with
  | none => unfold sExt; rw [h]; rfl
  | some s =>
    cases s with
    | own xs =>
      unfold sExt sDo
      rw [h]
      dsimp only
      cases e : m ρ t with
      | ok d t' =>
        by_cases q : xs.length + d.length ≤ 16777216
        · simp [q, oS, oE]
        · simp [q, oS, oE]
      | ex n fs t' => rfl
      | bad => rfl
    | _ => unfold sExt; rw [h]; rfl
end
end MM

noncomputable section
namespace MM
open PySem PySem.Spec PyProof.Rows L2
def b_share_text : MS Unit :=
  (sSeq (sIf (e1 asB (e2 dEq (e2 dIx (eVarW 0) (eC (.int 1))) (eC (.int 1)))) (sRet (e1 fStrI (aCons (e2 dIx (eVarW 0) (eC (.int 0))) aNil))) sSkip)
  (sRet (eJs [(e1 fFmt (e2 dIx (eVarW 0) (eC (.int 0)))), (eC (.str "/")), (e1 fFmt (e2 dIx (eVarW 0) (eC (.int 1))))] Str.empty)))
def m_share_text : List D → Unit → Res Unit D := runB 1 b_share_text
def b_spot_words : MS Unit :=
  (sRet (eLst (eComp (e1 itD (eVar 0)) [1] (gN 1) (fun _ t => .ok true t) (eCall m_share_text [] (aCons (eVar 1) aNil)))))
def m_spot_words : List D → Unit → Res Unit D := runB 2 b_spot_words
def b_body_words : MS Unit :=
  (sSeq (sAsg (gT (gCons (gN 1) (gCons (gN 2) (gCons (gN 3) (gCons (gN 4) (gCons (gN 5) (gCons (gN 6) gNil))))))) (eVar 0))
  (sSeq (sAsg (gN 7) (eLst (eComp (e1 itD (eVar 2)) [9, 10] (gT (gCons (gN 9) (gCons (gN 10) gNil))) (fun _ t => .ok true t) (eJs [(e1 fFmt (eVar 9)), (eC (.str ",")), (e1 fFmt (eVar 10))] Str.empty))))
  (sSeq (sIf (e1 asB (e2 dEq (eVarW 3) (eC (.int 0)))) (sRet (e2 dAdd (e2 dAdd (eLst (e1 lim (aCons (eC (.str "wall")) (aCons (eVar 1) aNil)))) (eCall m_spot_words [] (aCons (eVar 5) aNil))) (eVarW 7))) sSkip)
  (sSeq (sAsg (gN 8) (e2 dAdd (e2 dAdd (eCall m_spot_words [] (aCons (eVar 5) aNil)) (eCall m_spot_words [] (aCons (eVar 6) aNil))) (eVarW 7)))
  (sSeq (sIf (e1 asB (e2 dIs (eVarW 4) (eC .non))) (sRet (e2 dAdd (eLst (e1 lim (aCons (eC (.str "free")) (aCons (eVar 1) (aCons (e1 fStrI (aCons (eVarW 3) aNil)) aNil))))) (eVarW 8))) sSkip)
  (sRet (e2 dAdd (e2 dAdd (eLst (e1 lim (aCons (eC (.str "rail")) (aCons (eVar 1) (aCons (e1 fStrI (aCons (eVarW 3) aNil)) aNil))))) (eLst (eComp (e1 itD (eVar 4)) [11] (gN 11) (fun _ t => .ok true t) (e1 fStrI (aCons (eVarW 11) aNil))))) (eVarW 8))))))))
def m_body_words : List D → Unit → Res Unit D := runB 12 b_body_words
def b_body_of : MS Unit :=
  (sSeq (sIf (e1 asB (e2 dEq (e2 dIx (eVarW 0) (eC (.int 2))) (eC (.int 0)))) (sRet (eMake "Wall" "row" "name" "mass" 0 2 (aCons (eVar 0) aNil))) sSkip)
  (sSeq (sIf (e1 asB (e2 dIs (e2 dIx (eVarW 0) (eC (.int 3))) (eC .non))) (sRet (eMake "Free" "row" "name" "mass" 0 2 (aCons (eVar 0) aNil))) sSkip)
  (sRet (eMake "Railed" "row" "name" "mass" 0 2 (aCons (eVar 0) aNil)))))
def m_body_of : List D → Unit → Res Unit D := runB 1 b_body_of
def b_state_text : MS Unit :=
  (sSeq (sAsg (gT (gCons (gN 1) (gCons (gN 2) (gCons (gN 3) (gCons (gN 4) gNil))))) (eVar 0))
  (sSeq (sOwn 5 (e1 lim (aCons (e2 dAdd (e2 dAdd (eLst (e1 lim (aCons (eC (.str "world")) aNil))) (eCall m_spot_words [] (aCons (eVar 1) aNil))) (eLst (e1 lim (aCons (eCall m_share_text [] (aCons (eVar 2) aNil)) (aCons (eCall m_share_text [] (aCons (eVar 3) aNil)) aNil))))) aNil)))
  (sSeq (sExt 5 (eComp (e1 itD (eVar 4)) [6] (gN 6) (fun _ t => .ok true t) (eCall m_body_words [] (aCons (eVar 6) aNil))))
  (sFrz 5 (sRet (e1 (dJoin "\n") (eLst (eComp (e1 itD (eVar 5)) [7] (gN 7) (fun _ t => .ok true t) (e1 (dJoin " ") (eVarW 7))))))))))
def m_state_text : List D → Unit → Res Unit D := runB 8 b_state_text
def b__law_cell : MS Unit :=
  (sSeq (sIf (e1 asB (e2 dEq (e1 fLen (aCons (eVarW 0) aNil)) (eC (.int 0)))) (sRet (e2 dAdd (e2 dMulI (eC (.int 7)) (eVarW 1)) (eC (.int 3)))) sSkip)
  (sRet (e1 fAbs (aCons (e2 dIx (eVarW 0) (e2 dMod (eVarW 1) (e1 fLen (aCons (eVarW 0) aNil)))) aNil))))
def m__law_cell : List D → Unit → Res Unit D := runB 2 b__law_cell
def b__law_mixed : MS Unit :=
  (sSeq (sAsg (gN 3) (e2 dMod (e2 dPow (e2 dAdd (e2 dMulI (e2 dAdd (e2 dMod (eCall m__law_cell [] (aCons (eVar 0) (aCons (eVar 1) aNil))) (eC (.int 1000003))) (eC (.int 5))) (e2 dAdd (eVarW 1) (eC (.int 2)))) (e2 dMulI (eC (.int 7919)) (eVarW 1))) (eC (.int 5))) (eC (.int 2147483647))))
  (sRet (e2 dMod (e2 dDiv (eVarW 3) (eC (.int 13))) (eVarW 2))))
def m__law_mixed : List D → Unit → Res Unit D := runB 4 b__law_mixed
def b__law_deck : MSd :=
  (retD 0 (eComp (e1 itD (eVar 0)) [1] (gN 1) (e1 asB (e2 dGe (e1 fAbs (aCons (eVarW 1) aNil)) (e2 dPow (eC (.int 10)) (eC (.int 18))))) (e1 fAbs (aCons (eVarW 1) aNil))))
def m__law_deck : List D → Option (D × List Int) := runD 2 b__law_deck
def b__law_take : MS Dk :=
  (sSeq (sWhile (e1 asB (e2 dLt (eDk 0 2) (eDkLen 0))) (sSeq (sAsg (gN 2) (eDkAt 0))
  (sSeq (sIf (e1 asB (e2 dGt (eVarW 2) (eC (.int 0)))) (sSeq (sDkBig 0 (e2 dDiv (eVarW 2) (eVarW 1)))
  (sRet (e2 dMod (eVarW 2) (eVarW 1)))) sSkip)
  (sDkSet 0 2 (e2 dAdd (eDk 0 2) (eC (.int 1)))))))
  (sSeq (sDkSet 0 3 (e2 dAdd (eDk 0 3) (eC (.int 1))))
  (sRet (eCall m__law_mixed [] (aCons (eDk 0 0) (aCons (eDk 0 3) (aCons (eVar 1) aNil)))))))
def m__law_take : List D → Dk → Res Dk D := runB 3 b__law_take
def b__law_gcd : MS Unit :=
  (sSeq (sAsg (gN 0) (e1 fAbs (aCons (eVarW 0) aNil)))
  (sSeq (sAsg (gN 1) (e1 fAbs (aCons (eVarW 1) aNil)))
  (sSeq (sWhile (e1 asB (e2 dGt (eVarW 1) (eC (.int 0)))) (sSeq (sAsg (gN 2) (e2 dMod (eVarW 0) (eVarW 1)))
  (sSeq (sAsg (gN 0) (eVar 1))
  (sAsg (gN 1) (eVar 2)))))
  (sRet (eVar 0)))))
def m__law_gcd : List D → Unit → Res Unit D := runB 3 b__law_gcd
def b__law_share : MS Unit :=
  (sSeq (sIf (e1 asB (e2 dLt (eVarW 1) (eC (.int 0)))) (sSeq (sAsg (gN 0) (e1 dNeg (eVarW 0)))
  (sAsg (gN 1) (e1 dNeg (eVarW 1)))) sSkip)
  (sSeq (sAsg (gN 2) (eCall m__law_gcd [] (aCons (eVar 0) (aCons (eVar 1) aNil))))
  (sRet (eTup (aCons (e2 dDiv (eVarW 0) (eVarW 2)) (aCons (e2 dDiv (eVarW 1) (eVarW 2)) aNil))))))
def m__law_share : List D → Unit → Res Unit D := runB 3 b__law_share
def b__law_number : MS Dk :=
  (sSeq (sAsg (gN 1) (eCallS m__law_take [] (aCons (eVar 0) (aCons (eC (.int 4)) aNil))))
  (sSeq (sAsg (gN 2) (eCallS m__law_take [] (aCons (eVar 0) (aCons (eC (.int 9)) aNil))))
  (sSeq (sIf (e1 asB (e2 dEq (eVarW 1) (eC (.int 1)))) (sAsg (gN 2) (eCallS m__law_take [] (aCons (eVar 0) (aCons (e2 dPow (eC (.int 10)) (eC (.int 6))) aNil)))) sSkip)
  (sSeq (sIf (e1 asB (e2 dEq (eVarW 1) (eC (.int 2)))) (sAsg (gN 2) (e1 fIntA (aCons (e2 dMulS1 (e1 fStrI (aCons (e2 dAdd (eC (.int 1)) (eVarW 2)) aNil)) (e2 dAdd (eC (.int 1)) (eCallS m__law_take [] (aCons (eVar 0) (aCons (eC (.int 39)) aNil))))) aNil))) sSkip)
  (sSeq (sIf (tAnd2 (e1 asB (e2 dEq (eVarW 1) (eC (.int 3)))) (e1 asB (e2 dEq (eCallS m__law_take [] (aCons (eVar 0) (aCons (eC (.int 5)) aNil))) (eC (.int 0))))) (sAsg (gN 2) (e1 fIntA (aCons (e2 dMulS1 (e1 fStrI (aCons (e2 dAdd (eC (.int 1)) (eVarW 2)) aNil)) (e2 dAdd (eC (.int 1)) (eCallS m__law_take [] (aCons (eVar 0) (aCons (eC (.int 390)) aNil))))) aNil))) sSkip)
  (sRet (eVar 2)))))))
def m__law_number : List D → Dk → Res Dk D := runB 3 b__law_number
def b__law_part : MS Dk :=
  (sSeq (sAsg (gN 1) (eCallS m__law_take [] (aCons (eVar 0) (aCons (eC (.int 5)) aNil))))
  (sSeq (sAsg (gN 2) (eCallS m__law_number [] (aCons (eVar 0) aNil)))
  (sSeq (sAsg (gN 3) (eC (.int 1)))
  (sSeq (sIf (e1 asB (e2 dEq (eVarW 1) (eC (.int 0)))) (sAsg (gN 3) (e2 dAdd (eC (.int 1)) (eCallS m__law_take [] (aCons (eVar 0) (aCons (eC (.int 50)) aNil))))) sSkip)
  (sSeq (sIf (e1 asB (e2 dEq (eVarW 1) (eC (.int 1)))) (sAsg (gN 3) (e2 dAdd (eC (.int 1)) (eCallS m__law_number [] (aCons (eVar 0) aNil)))) sSkip)
  (sRet (eCall m__law_share [] (aCons (e2 dMulI (eVarW 2) (e2 dSub (eC (.int 1)) (e2 dMulI (eC (.int 2)) (eCallS m__law_take [] (aCons (eVar 0) (aCons (eC (.int 2)) aNil)))))) (aCons (eVar 3) aNil)))))))))
def m__law_part : List D → Dk → Res Dk D := runB 4 b__law_part
def b__law_names : MS Dk :=
  (sSeq (sAsg (gN 2) (eC (.str "qwertyuiopasdfghjklzxcvbnm")))
  (sSeq (sOwn 3 (e1 lim aNil))
  (sSeq (sFor (e1 fRng1 (aCons (e2 dMulI (eC (.int 4)) (eVarW 1)) aNil)) (gN 4) (sSeq (sAsg (gN 5) (e2 dIx (eLst (e1 lim (aCons (eC (.int 1)) (aCons (eC (.int 2)) (aCons (eC (.int 3)) (aCons (eC (.int 12)) aNil)))))) (eCallS m__law_take [] (aCons (eVar 0) (aCons (eC (.int 4)) aNil)))))
  (sSeq (sAsg (gN 6) (e1 (dJoin "") (eLst (eComp (e1 fRng1 (aCons (eVarW 5) aNil)) [7] (gN 7) (fun _ t => .ok true t) (e2 dIx (eVarW 2) (eCallS m__law_take [] (aCons (eVar 0) (aCons (eC (.int 26)) aNil))))))))
  (sIf (tAnd2 (e1 asB (e2 dNotIn (eVarW 6) (eVarW 3))) (e1 asB (e2 dLt (e1 fLen (aCons (eVarW 3) aNil)) (eVarW 1)))) (sApp 3 (eVar 6)) sSkip))))
  (sFrz 3 (sRet (eVar 3))))))
def m__law_names : List D → Dk → Res Dk D := runB 8 b__law_names
def b__law_shape : MS Dk :=
  (sSeq (sAsg (gN 1) (e2 dIx (eLst (e1 lim (aCons (eC (.int 1)) (aCons (eC (.int 30)) (aCons (eC (.int 500000)) aNil))))) (eCallS m__law_take [] (aCons (eVar 0) (aCons (eC (.int 3)) aNil)))))
  (sSeq (sAsg (gN 2) (e2 dAdd (eC (.int 1)) (eCallS m__law_take [] (aCons (eVar 0) (aCons (eVar 1) aNil)))))
  (sSeq (sAsg (gN 3) (e2 dAdd (eC (.int 1)) (eCallS m__law_take [] (aCons (eVar 0) (aCons (eVar 1) aNil)))))
  (sSeq (sAsg (gN 4) (e2 dSub (eCallS m__law_take [] (aCons (eVar 0) (aCons (e2 dMulI (eC (.int 2)) (eVarW 1)) aNil))) (eVarW 1)))
  (sSeq (sAsg (gN 5) (eCallS m__law_take [] (aCons (eVar 0) (aCons (eC (.int 3)) aNil))))
  (sSeq (sIf (e1 asB (e2 dEq (eVarW 5) (eC (.int 0)))) (sRet (eTup (aCons (eTup (aCons (eC (.int 0)) (aCons (eVar 4) aNil))) (aCons (eTup (aCons (eVar 2) (aCons (eVar 4) aNil))) (aCons (eTup (aCons (eVar 2) (aCons (e2 dAdd (eVarW 4) (eVarW 3)) aNil))) (aCons (eTup (aCons (eC (.int 0)) (aCons (e2 dAdd (eVarW 4) (eVarW 3)) aNil))) aNil)))))) sSkip)
  (sSeq (sIf (e1 asB (e2 dEq (eVarW 5) (eC (.int 1)))) (sRet (eTup (aCons (eTup (aCons (e1 dNeg (eVarW 2)) (aCons (eVar 4) aNil))) (aCons (eTup (aCons (eC (.int 0)) (aCons (e2 dSub (eVarW 4) (eVarW 3)) aNil))) (aCons (eTup (aCons (eVar 2) (aCons (eVar 4) aNil))) aNil))))) sSkip)
  (sSeq (sAsg (gN 2) (e2 dAdd (eC (.int 1)) (e2 dDiv (eVarW 2) (eC (.int 9)))))
  (sRet (eTup (aCons (eTup (aCons (e2 dMulI (e1 dNeg (eC (.int 16))) (eVarW 2)) (aCons (eC (.int 0)) aNil))) (aCons (eTup (aCons (e2 dMulI (e1 dNeg (eC (.int 9))) (eVarW 2)) (aCons (e1 dNeg (eC (.int 3))) aNil))) (aCons (eTup (aCons (e2 dMulI (e1 dNeg (eC (.int 4))) (eVarW 2)) (aCons (e1 dNeg (eC (.int 4))) aNil))) (aCons (eTup (aCons (eC (.int 0)) (aCons (e1 dNeg (eC (.int 3))) aNil))) (aCons (eTup (aCons (eC (.int 0)) (aCons (eC (.int 3)) aNil))) (aCons (eTup (aCons (e2 dMulI (e1 dNeg (eC (.int 4))) (eVarW 2)) (aCons (eC (.int 4)) aNil))) (aCons (eTup (aCons (e2 dMulI (e1 dNeg (eC (.int 9))) (eVarW 2)) (aCons (eC (.int 3)) aNil))) aNil)))))))))))))))))
def m__law_shape : List D → Dk → Res Dk D := runB 6 b__law_shape
def b__law_row : MS Dk :=
  (sSeq (sAsg (gN 3) (eCallS m__law_take [] (aCons (eVar 0) (aCons (eC (.int 3)) aNil))))
  (sSeq (sAsg (gN 4) (eCallS m__law_shape [] (aCons (eVar 0) aNil)))
  (sSeq (sAsg (gN 5) (e2 dAdd (eC (.int 1)) (e2 dMulI (eCallS m__law_take [] (aCons (eVar 0) (aCons (eC (.int 3)) aNil))) (eC (.int 6)))))
  (sSeq (sAsg (gN 6) (eTup (aCons (eCall m__law_share [] (aCons (e2 dAdd (e2 dMulI (e2 dMulI (e2 dPow (eC (.int 10)) (eC (.int 8))) (eVarW 2)) (eVarW 5)) (eCallS m__law_take [] (aCons (eVar 0) (aCons (eC (.int 900)) aNil)))) (aCons (eVar 5) aNil))) (aCons (eCallS m__law_part [] (aCons (eVar 0) aNil)) aNil))))
  (sSeq (sIf (e1 asB (e2 dEq (eVarW 3) (eC (.int 0)))) (sRet (eTup (aCons (eVar 1) (aCons (eVar 4) (aCons (eC (.int 0)) (aCons (eC .non) (aCons (eVar 6) (aCons (eTup (aCons (eTup (aCons (eC (.int 0)) (aCons (eC (.int 1)) aNil))) (aCons (eTup (aCons (eC (.int 0)) (aCons (eC (.int 1)) aNil))) aNil))) aNil)))))))) sSkip)
  (sSeq (sAsg (gN 7) (e2 dIx (eLst (e1 lim (aCons (eC (.int 1)) (aCons (e2 dAdd (eC (.int 1)) (eCallS m__law_take [] (aCons (eVar 0) (aCons (eC (.int 1000000)) aNil)))) aNil)))) (eCallS m__law_take [] (aCons (eVar 0) (aCons (eC (.int 2)) aNil)))))
  (sSeq (sAsg (gN 8) (eCallS m__law_part [] (aCons (eVar 0) aNil)))
  (sSeq (sIf (e1 asB (e2 dEq (eVarW 3) (eC (.int 1)))) (sRet (eTup (aCons (eVar 1) (aCons (eVar 4) (aCons (eVar 7) (aCons (eC .non) (aCons (eVar 6) (aCons (eTup (aCons (eVar 8) (aCons (eCallS m__law_part [] (aCons (eVar 0) aNil)) aNil))) aNil)))))))) sSkip)
  (sSeq (sAsg (gN 9) (e2 dSub (eCallS m__law_take [] (aCons (eVar 0) (aCons (eC (.int 2001)) aNil))) (eC (.int 1000))))
  (sSeq (sAsg (gN 10) (e2 dAdd (eC (.int 1)) (eCallS m__law_take [] (aCons (eVar 0) (aCons (eC (.int 1000000)) aNil)))))
  (sSeq (sAsg (gN 11) (e2 dMulI (eCall m__law_gcd [] (aCons (eVar 9) (aCons (eVar 10) aNil))) (e2 dSub (eC (.int 1)) (e2 dMulI (eC (.int 2)) (eCallS m__law_take [] (aCons (eVar 0) (aCons (eC (.int 2)) aNil)))))))
  (sSeq (sPar 9 10 (e2 dDiv (eVarW 9) (eVarW 11)) (e2 dDiv (eVarW 10) (eVarW 11)))
  (sSeq (sAsg (gN 12) (eTup (aCons (eCall m__law_share [] (aCons (e2 dMulI (eVarW 9) (e2 dIx (eVarW 8) (eC (.int 0)))) (aCons (e2 dIx (eVarW 8) (eC (.int 1))) aNil))) (aCons (eCall m__law_share [] (aCons (e2 dMulI (eVarW 10) (e2 dIx (eVarW 8) (eC (.int 0)))) (aCons (e2 dIx (eVarW 8) (eC (.int 1))) aNil))) aNil))))
  (sRet (eTup (aCons (eVar 1) (aCons (eVar 4) (aCons (eVar 7) (aCons (eTup (aCons (eVar 9) (aCons (eVar 10) aNil))) (aCons (eVar 6) (aCons (eVar 12) aNil)))))))))))))))))))))
def m__law_row : List D → Dk → Res Dk D := runB 13 b__law_row
def b__law_state : MS Dk :=
  (sSeq (sAsg (gN 2) (eTup (aCons (eCallS m__law_part [] (aCons (eVar 0) aNil)) (aCons (eCallS m__law_part [] (aCons (eVar 0) aNil)) aNil))))
  (sSeq (sAsg (gN 3) (e2 dAdd (eC (.int 1)) (eCallS m__law_take [] (aCons (eVar 0) (aCons (eC (.int 99)) aNil)))))
  (sSeq (sAsg (gN 4) (eCall m__law_share [] (aCons (eCallS m__law_take [] (aCons (eVar 0) (aCons (e2 dAdd (eVarW 3) (eC (.int 1))) aNil))) (aCons (eVar 3) aNil))))
  (sSeq (sAsg (gN 5) (eCallS m__law_part [] (aCons (eVar 0) aNil)))
  (sSeq (sOwn 6 (e1 lim aNil))
  (sSeq (sFor (e1 fEnum2 (aCons (eCallS m__law_names [] (aCons (eVar 0) (aCons (eVar 1) aNil))) aNil)) (gT (gCons (gN 7) (gCons (gN 8) gNil))) (sApp 6 (eCallS m__law_row [] (aCons (eVar 0) (aCons (eVar 8) (aCons (eVar 7) aNil))))))
  (sFrz 6 (sRet (eTup (aCons (eVar 2) (aCons (eVar 4) (aCons (eTup (aCons (e1 fAbs (aCons (e2 dIx (eVarW 5) (eC (.int 0))) aNil)) (aCons (e2 dIx (eVarW 5) (eC (.int 1))) aNil))) (aCons (e1 fTup (aCons (eLst (e1 fSortD (aCons (eVarW 6) aNil))) aNil)) aNil)))))))))))))
def m__law_state : List D → Dk → Res Dk D := runB 9 b__law_state
def b__law_word : MS Unit :=
  (sSeq (sIf (e1 asB (e2 dEq (e2 dIx (eVarW 0) (eC (.int 1))) (eC (.int 1)))) (sRet (e1 fStrI (aCons (e2 dIx (eVarW 0) (eC (.int 0))) aNil))) sSkip)
  (sRet (e2 dAdd (e2 dAdd (e1 fStrI (aCons (e2 dIx (eVarW 0) (eC (.int 0))) aNil)) (eC (.str "/"))) (e1 fStrI (aCons (e2 dIx (eVarW 0) (eC (.int 1))) aNil)))))
def m__law_word : List D → Unit → Res Unit D := runB 1 b__law_word
def b__law_words : MS Unit :=
  (sSeq (sAsg (gT (gCons (gN 1) (gCons (gN 2) (gCons (gN 3) (gCons (gN 4) (gCons (gN 5) (gCons (gN 6) gNil))))))) (eVar 0))
  (sSeq (sAsg (gN 7) (eLst (e1 lim (aCons (eC (.str "wall")) (aCons (eVar 1) aNil)))))
  (sSeq (sAsg (gN 8) (eLst (eComp (e1 itD (eVar 5)) [9] (gN 9) (fun _ t => .ok true t) (eCall m__law_word [] (aCons (eVar 9) aNil)))))
  (sSeq (sIf (e1 asB (e2 dGt (eVarW 3) (eC (.int 0)))) (sSeq (sAsg (gN 7) (eLst (e1 lim (aCons (eC (.str "free")) (aCons (eVar 1) (aCons (e1 fStrI (aCons (eVarW 3) aNil)) aNil))))))
  (sAsg (gN 8) (e2 dAdd (eVarW 8) (eLst (eComp (e1 itD (eVar 6)) [9] (gN 9) (fun _ t => .ok true t) (eCall m__law_word [] (aCons (eVar 9) aNil))))))) sSkip)
  (sSeq (sIf (e1 asB (e2 dIsnt (eVarW 4) (eC .non))) (sAsg (gN 7) (eLst (e1 lim (aCons (eC (.str "rail")) (aCons (eVar 1) (aCons (e1 fStrI (aCons (eVarW 3) aNil)) (aCons (e1 fStrI (aCons (e2 dIx (eVarW 4) (eC (.int 0))) aNil)) (aCons (e1 fStrI (aCons (e2 dIx (eVarW 4) (eC (.int 1))) aNil)) aNil)))))))) sSkip)
  (sRet (e2 dAdd (e2 dAdd (eVarW 7) (eVarW 8)) (eLst (eComp (e1 itD (eVar 2)) [10, 11] (gT (gCons (gN 10) (gCons (gN 11) gNil))) (fun _ t => .ok true t) (e2 dAdd (e2 dAdd (e1 fStrI (aCons (eVarW 10) aNil)) (eC (.str ","))) (e1 fStrI (aCons (eVarW 11) aNil))))))))))))
def m__law_words : List D → Unit → Res Unit D := runB 12 b__law_words
def b__law_lines : MS Unit :=
  (sSeq (sAsg (gT (gCons (gN 1) (gCons (gN 2) (gCons (gN 3) (gCons (gN 4) gNil))))) (eVar 0))
  (sSeq (sAsg (gN 5) (e2 dAdd (eLst (e1 lim (aCons (eC (.str "world")) aNil))) (eLst (eComp (e1 itD (eLst (e1 lim (aCons (e2 dIx (eVarW 1) (eC (.int 0))) (aCons (e2 dIx (eVarW 1) (eC (.int 1))) (aCons (eVar 2) (aCons (eVar 3) aNil))))))) [6] (gN 6) (fun _ t => .ok true t) (eCall m__law_word [] (aCons (eVar 6) aNil))))))
  (sRet (eLst (eComp (e1 itD (e2 dAdd (eLst (e1 lim (aCons (eVar 5) aNil))) (eLst (eComp (e1 itD (eVar 4)) [8] (gN 8) (fun _ t => .ok true t) (eCall m__law_words [] (aCons (eVar 8) aNil)))))) [7] (gN 7) (fun _ t => .ok true t) (e1 (dJoin " ") (eVarW 7)))))))
def m__law_lines : List D → Unit → Res Unit D := runB 9 b__law_lines
def b_Body____str__ : MS Unit :=
  (sRet (e1 (dJoin " ") (eCall m_body_words [] (aCons (e1 (eFld ["Body", "Wall", "Free", "Railed"] "row") (eVarW 0)) aNil))))
def m_Body____str__ : List D → Unit → Res Unit D := runB 1 b_Body____str__
def b_Wall____str__ : MS Unit :=
  (sRet (e1 (dJoin " ") (eCall m_body_words [] (aCons (e1 (eFld ["Body", "Wall", "Free", "Railed"] "row") (eVarW 0)) aNil))))
def m_Wall____str__ : List D → Unit → Res Unit D := runB 1 b_Wall____str__
def b_Free____str__ : MS Unit :=
  (sRet (e1 (dJoin " ") (eCall m_body_words [] (aCons (e1 (eFld ["Body", "Wall", "Free", "Railed"] "row") (eVarW 0)) aNil))))
def m_Free____str__ : List D → Unit → Res Unit D := runB 1 b_Free____str__
def b_Railed____str__ : MS Unit :=
  (sRet (e1 (dJoin " ") (eCall m_body_words [] (aCons (e1 (eFld ["Body", "Wall", "Free", "Railed"] "row") (eVarW 0)) aNil))))
def m_Railed____str__ : List D → Unit → Res Unit D := runB 1 b_Railed____str__
def b_law : MS Dk :=
  (sSeq (sAsg (gN 2) (e2 dIx (eLst (e1 lim (aCons (eC (.int 0)) (aCons (eC (.int 1)) (aCons (eC (.int 2)) (aCons (eC (.int 12)) (aCons (eCallS m__law_take [] (aCons (eVar 1) (aCons (eC (.int 13)) aNil))) (aCons (eCallS m__law_take [] (aCons (eVar 1) (aCons (eC (.int 6)) aNil))) aNil)))))))) (eCallS m__law_take [] (aCons (eVar 1) (aCons (eC (.int 6)) aNil)))))
  (sSeq (sAsg (gN 3) (eCallS m__law_state [] (aCons (eVar 1) (aCons (eVar 2) aNil))))
  (sSeq (sAsg (gN 4) (eCall m__law_lines [] (aCons (eVar 3) aNil)))
  (sSeq (sFor (e1 fZipW (aCons (e2 dIx (eVarW 3) (eC (.int 3))) (aCons (e3 dCutA (eVarW 4) (oSome (eC (.int 1))) oNone) aNil))) (gT (gCons (gN 5) (gCons (gN 6) gNil))) (sSeq (sAsg (gN 7) (eStrO [("Body", m_Body____str__), ("Wall", m_Wall____str__), ("Free", m_Free____str__), ("Railed", m_Railed____str__)] (eCall m_body_of [] (aCons (eVar 5) aNil))))
  (sIf (tOr2 (tNot1 (e1 truth (e1 fIsi (aCons (eVarW 7) (aCons (eC (.ty "str")) aNil))))) (e1 asB (e2 dNeSS (eVarW 7) (eVarW 6)))) (sRet (eC (.bl false))) sSkip)))
  (sSeq (sAsg (gN 7) (eCall m_state_text [] (aCons (eVar 3) aNil)))
  (sSeq (sIf (tOr2 (tNot1 (e1 truth (e1 fIsi (aCons (eVarW 7) (aCons (eC (.ty "str")) aNil))))) (e1 asB (e2 dNeSS (eVarW 7) (e1 (dJoin "\n") (eVarW 4))))) (sRet (eC (.bl false))) sSkip)
  (sSeq (sAsg (gN 8) (e2 dAdd (e3 dCutA (eVarW 3) oNone (oSome (eC (.int 3)))) (eTup (aCons (e3 dCutA (e2 dIx (eVarW 3) (eC (.int 3))) (oSome (eC (.int 1))) oNone) aNil))))
  (sRet (eAnd2 (e2 dEqSS (eCall m_state_text [] (aCons (eVar 8) aNil)) (e1 (dJoin "\n") (e2 dAdd (e3 dCutA (eVarW 4) oNone (oSome (eC (.int 1)))) (e3 dCutA (eVarW 4) (oSome (eC (.int 2))) oNone)))) (e2 dEqSS (eCall m_state_text [] (aCons (eVar 3) aNil)) (eVarW 7)))))))))))
end MM
end
namespace MM
open PySem PySem.Spec PyProof.Rows L2
theorem fmod_nat (x y : Nat) : Int.fmod (x : Int) (y : Int) = ((x % y : Nat) : Int) := by
  rw [Int.fmod_eq_emod_of_nonneg _ (by omega)]; rfl
theorem gcd_step {x n : Nat} {g : Nat} (h : x.gcd n = g) : n.gcd (x % n) = g := by rw [Nat.gcd_comm, ← Nat.gcd_rec, Nat.gcd_comm]; exact h
def sh : D → Bool
  | .tup [.int a, .int b] => decide (1 ≤ b) && decide (Int.gcd a b = 1)
  | _ => false
theorem fdiv_gcd {g a' : Int} (hg : g ≠ 0) : (g * a').fdiv g = a' := Int.mul_fdiv_cancel_left _ hg
theorem gcd_parts (a b : Int) (hb : b ≠ 0) : ∃ a' b' : Int, a = (Int.gcd a b : Int) * a' ∧ b = (Int.gcd a b : Int) * b' ∧ Int.gcd a' b' = 1 ∧ (0 : Int) < Int.gcd a b := by
  have hg : 0 < Int.gcd a b := Int.gcd_pos_of_ne_zero_right _ hb
  refine ⟨a / (Int.gcd a b : Int), b / (Int.gcd a b : Int), ?_, ?_, ?_, by omega⟩
  · rw [Int.mul_ediv_cancel' (Int.gcd_dvd_left ..)]
  · rw [Int.mul_ediv_cancel' (Int.gcd_dvd_right ..)]
  · exact Int.gcd_ediv_gcd_ediv_gcd hg
theorem fmod_pos {a b : Int} (hb : 1 ≤ b) : 0 ≤ a.fmod b ∧ a.fmod b < b := by
  rw [Int.fmod_eq_emod_of_nonneg _ (by omega)]
  exact ⟨Int.emod_nonneg _ (by omega), Int.emod_lt_of_pos _ (by omega)⟩
def manyOk (m : Int) : Prop := 1 ≤ m ∧ m.natAbs < 2 ^ 8000
theorem many_of {m : Int} (h1 : 1 ≤ m) (h2 : m ≤ 1000000000000) : manyOk m := ⟨h1, Nat.lt_of_lt_of_le (show m.natAbs < 2 ^ 50 by omega) (Nat.pow_le_pow_right (by decide) (by decide))⟩
theorem law_gcd_ok (a b : Int) : m__law_gcd [.int a, .int b] () = .ok (.int (Int.gcd a b)) () := by
  apply oE_eq
  unfold m__law_gcd b__law_gcd
  simp [Nxt, Nxt]
  refine oS_while (fun n ρ t => ∃ (x y : Nat) (z : Slot), ρ = [.val (.int x), .val (.int y), z] ∧ n = y ∧ Nat.gcd x y = Int.gcd a b) ?_ b.natAbs _ _ ⟨a.natAbs, b.natAbs, _, rfl, rfl, rfl⟩
  rintro n ρ t ⟨x, y, z, rfl, rfl, h⟩
  simp [Nxt]
  by_cases hn : n = 0
  · subst hn; left; simp at h; exact ⟨rfl, by rw [h]⟩
  · right
    exact ⟨by omega, hn, x % n, Nat.mod_lt _ (by omega), n, x % n, ⟨rfl, by rw [fmod_nat]⟩, rfl, gcd_step h⟩
def R (r : Rat) : D := .tup [.int r.num, .int (r.den : Int)]
structure Sz (n : Nat) (r : Rat) : Prop where
  nu : r.num.natAbs < 2 ^ n
  de : r.den < 2 ^ n
theorem Sz.le {n m : Nat} {r : Rat} (h : Sz n r) (hm : n ≤ m) : Sz m r := ⟨Nat.lt_of_lt_of_le h.nu (Nat.pow_le_pow_right (by decide) hm), Nat.lt_of_lt_of_le h.de (Nat.pow_le_pow_right (by decide) hm)⟩
@[simp] theorem R_ix0 {r : Rat} : dIx (R r) (.int 0) = some (.int r.num) := rfl
@[simp] theorem R_ix1 {r : Rat} : dIx (R r) (.int 1) = some (.int (r.den : Int)) := rfl
@[simp] theorem R_gT {r : Rat} {gs : Tgts} {ρ : Rho} : gT gs ρ (R r) = gs ρ [.int r.num, .int (r.den : Int)] := rfl
@[simp] theorem R_len {r : Rat} : fLen [R r] = some (.int 2) := rfl
@[simp] theorem R_it {r : Rat} : itD (R r) = some [.int r.num, .int (r.den : Int)] := rfl
@[simp] theorem R_isT {r : Rat} : fIsi [R r, .ty "tuple"] = some (.bl true) := rfl
@[simp] theorem isi_int_int {i : Int} : fIsi [.int i, .ty "int"] = some (.bl true) := rfl
@[simp] theorem isi_int_bool {i : Int} : fIsi [.int i, .ty "bool"] = some (.bl false) := rfl
@[simp] theorem R_eq {r s : Rat} : dEq (R r) (R s) = some (.bl (decide (r = s))) := by
  unfold R
  rw [dEq_pair]
  congr 2
  by_cases h : r = s
  · subst h; simp
  · rw [decide_eq_false h]
    by_cases h1 : r.num = s.num
    · by_cases h2 : (r.den : Int) = s.den
      · exact absurd (Rat.ext h1 (by omega)) h
      · rw [decide_eq_false h2, Bool.and_false]
    · rw [decide_eq_false h1, Bool.false_and]
theorem den_pos (r : Rat) : (1 : Int) ≤ r.den := by have := r.den_pos; omega
theorem rat_of {a b p q : Int} (hb : b ≠ 0) (hq : 1 ≤ q) (hg : Int.gcd p q = 1) (he : p * b = q * a) : (Rat.divInt a b).num = p ∧ ((Rat.divInt a b).den : Int) = q := by
  have nz : q.natAbs ≠ 0 := by omega
  have e : (Rat.mk' p q.natAbs nz hg) = Rat.divInt a b := by
    rw [← Rat.num_divInt_den (Rat.mk' p q.natAbs nz hg)]
    show Rat.divInt p (q.natAbs : Int) = Rat.divInt a b
    rw [show ((q.natAbs : Nat) : Int) = q by omega, Rat.divInt_eq_divInt_iff (by omega) hb, he, Int.mul_comm]
  rw [← e]
  exact ⟨rfl, by show ((q.natAbs : Nat) : Int) = q; omega⟩
theorem divInt_sz {a b : Int} {n : Nat} (hb : b ≠ 0) (h1 : a.natAbs < 2 ^ n) (h2 : b.natAbs < 2 ^ n) : Sz n (Rat.divInt a b) := by
  obtain ⟨a', b', e1, e2, e3, e4⟩ := gcd_parts a b hb
  have la : a'.natAbs ≤ a.natAbs := by
    conv => rhs; rw [e1]
    rw [Int.natAbs_mul]; exact Nat.le_mul_of_pos_left _ (by omega)
  have lb : b'.natAbs ≤ b.natAbs := by
    conv => rhs; rw [e2]
    rw [Int.natAbs_mul]; exact Nat.le_mul_of_pos_left _ (by omega)
  have b0 : b' ≠ 0 := fun z => hb (by rw [e2, z, Int.mul_zero])
  have cross : a' * b = b' * a := by
    conv => lhs; rw [e2]
    conv => rhs; rw [e1]
    rw [← Int.mul_assoc, ← Int.mul_assoc, Int.mul_comm a', Int.mul_comm b', Int.mul_assoc, Int.mul_assoc, Int.mul_comm a' b']
  rcases Int.lt_or_gt_of_ne b0 with h | h
  · obtain ⟨q1, q2⟩ := rat_of (a := a) (b := b) (p := -a') (q := -b') hb (by omega) (by rw [Int.gcd_neg, Int.neg_gcd]; exact e3) (by rw [Int.neg_mul, Int.neg_mul, cross])
    exact ⟨by rw [q1]; omega, by omega⟩
  · obtain ⟨q1, q2⟩ := rat_of (a := a) (b := b) (p := a') (q := b') hb (by omega) e3 cross
    exact ⟨by rw [q1]; omega, by omega⟩
theorem sz_mul {a b : Int} {n m : Nat} (h1 : a.natAbs < 2 ^ n) (h2 : b.natAbs < 2 ^ m) : (a * b).natAbs < 2 ^ (n + m) := by
  rw [Int.natAbs_mul, Nat.pow_add]
  exact Nat.mul_lt_mul'' h1 h2
theorem sz_sub {a b : Int} {n : Nat} (h1 : a.natAbs < 2 ^ n) (h2 : b.natAbs < 2 ^ n) : (a - b).natAbs < 2 ^ (n + 1) := by
  rw [Nat.pow_succ]; omega
theorem Sz.den {n : Nat} {r : Rat} (h : Sz n r) : (r.den : Int).natAbs < 2 ^ n := h.de
@[simp] theorem R_plain {r : Rat} {i : Int} : atI [D.int r.num, D.int (r.den : Int)] 0 = some (.int r.num) := rfl
theorem den_mul_ne (r s : Rat) : (r.den : Int) * s.den ≠ 0 := by
  have := r.den_pos; have := s.den_pos
  intro z
  rcases Int.mul_eq_zero.mp z with h | h <;> omega
theorem sub_divInt (r s : Rat) : r - s = Rat.divInt (r.num * s.den - s.num * r.den) (r.den * s.den) := by
  conv => lhs; rw [← Rat.num_divInt_den r, ← Rat.num_divInt_den s]
  rw [Rat.divInt_sub_divInt _ _ (by have := r.den_pos; omega) (by have := s.den_pos; omega)]
theorem mul_divInt (r s : Rat) : r * s = Rat.divInt (r.num * s.num) (r.den * s.den) := by
  conv => lhs; rw [← Rat.num_divInt_den r, ← Rat.num_divInt_den s]
  rw [Rat.divInt_mul_divInt]
theorem Sz.sub {n m : Nat} {r s : Rat} (h1 : Sz n r) (h2 : Sz m s) : Sz (n + m + 1) (r - s) := by
  rw [sub_divInt]
  refine divInt_sz (den_mul_ne r s) (sz_sub (sz_mul h1.nu h2.den) ?_) (Nat.lt_of_lt_of_le (sz_mul h1.den h2.den) (Nat.pow_le_pow_right (by decide) (by omega)))
  rw [Nat.add_comm n m]; exact sz_mul h2.nu h1.den
theorem Sz.mul {n m : Nat} {r s : Rat} (h1 : Sz n r) (h2 : Sz m s) : Sz (n + m) (r * s) := by
  rw [mul_divInt]
  exact divInt_sz (den_mul_ne r s) (sz_mul h1.nu h2.nu) (sz_mul h1.den h2.den)
theorem law_share_R {a b : Int} (hb : b ≠ 0) (hs : b.natAbs < 2 ^ 8000) : m__law_share [.int a, .int b] () = .ok (R (Rat.divInt a b)) () := by
  obtain ⟨a', b', e1, e2, e3, e4⟩ := gcd_parts a b hb
  have sg : (Int.gcd a b : Int).natAbs < 2 ^ 8000 := by
    have : Int.gcd a b ≤ b.natAbs := Int.gcd_le_natAbs_right _ (by omega)
    omega
  have gn : Int.gcd (-a) (-b) = Int.gcd a b := by rw [Int.gcd_neg, Int.neg_gcd]
  have gz : (Int.gcd a b : Int) ≠ 0 := by omega
  generalize hgg : (Int.gcd a b : Int) = g at *
  have da : a.fdiv g = a' := by rw [e1]; exact fdiv_gcd gz
  have db : b.fdiv g = b' := by rw [e2]; exact fdiv_gcd gz
  have dna : (-a).fdiv g = -a' := by rw [e1, show -(g * a') = g * (-a') by rw [Int.mul_neg]]; exact fdiv_gcd gz
  have dnb : (-b).fdiv g = -b' := by rw [e2, show -(g * b') = g * (-b') by rw [Int.mul_neg]]; exact fdiv_gcd gz
  have o1 : ∀ x, divOk x g = true := fun x => small_div gz sg (by decide) (by decide)
  have bpos : b < 0 ↔ b' < 0 := by
    rw [e2]
    constructor
    · intro h
      apply Classical.byContradiction
      intro z
      have := Int.mul_nonneg (Int.le_of_lt e4) (show 0 ≤ b' by omega)
      omega
    · intro h
      have := Int.mul_neg_of_pos_of_neg e4 h
      omega
  have b0 : b' ≠ 0 := fun z => hb (by rw [e2, z, Int.mul_zero])
  have cross : a' * b = b' * a := by
    rw [e1, e2]
    rw [← Int.mul_assoc, ← Int.mul_assoc, Int.mul_comm a' g, Int.mul_comm b' g, Int.mul_assoc, Int.mul_assoc, Int.mul_comm a' b']
  apply oE_eq
  unfold m__law_share b__law_share
  by_cases h : b < 0
  · obtain ⟨q1, q2⟩ := rat_of (a := a) (b := b) (p := -a') (q := -b') hb (by have := bpos.mp h; omega) (by rw [Int.gcd_neg, Int.neg_gcd]; exact e3) (by rw [Int.neg_mul, Int.neg_mul, cross])
    simp [Nxt, h, law_gcd_ok, gn, hgg, dna, dnb, o1, R, q1, q2]
  · obtain ⟨q1, q2⟩ := rat_of (a := a) (b := b) (p := a') (q := b') hb (by have : ¬ b' < 0 := fun z => h (bpos.mpr z); omega) e3 cross
    simp [Nxt, h, law_gcd_ok, gn, hgg, da, db, o1, R, q1, q2]
theorem cell_ok (ns : List Int) (k : Nat) (hk : k ≤ 1000000000000) : ∃ c : Nat, m__law_cell [.scr ns, .int (k : Nat)] () = .ok (.int c) () := by
  by_cases h : ns.length = 0
  · refine ⟨7 * k + 3, oE_eq ?_⟩
    unfold m__law_cell b__law_cell
    simp [Nxt, h]
    exact small_mul (i := 7) (j := k) (a := 8) (b := 50) (by decide) (by omega) (by decide) (by decide) (by decide)
  · have hl : k % ns.length < ns.length := Nat.mod_lt _ (by omega)
    refine ⟨(ns[k % ns.length]).natAbs, oE_eq ?_⟩
    have e : atI ns ((k : Int) % (ns.length : Int)) = some ns[k % ns.length] := by rw [← Int.natCast_emod]; exact atI_nat (by rw [List.getElem?_eq_getElem hl])
    have h' : ((ns.length : Nat) : Int) ≠ 0 := by omega
    unfold m__law_cell b__law_cell
    simp [Nxt, h, h', fmod_nat, e]
theorem mixed_ok (ns : List Int) (k : Nat) (hk : k ≤ 1000000000000) (m : Int) (hm : manyOk m) : ∃ r : Int, m__law_mixed [.scr ns, .int (k : Nat), .int m] () = .ok (.int r) () ∧ 0 ≤ r ∧ r < m := by
  obtain ⟨c, hc⟩ := cell_ok ns k hk
  have c1 := fmod_pos (a := (c : Int)) (b := 1000003) (by decide)
  have key : oE (m__law_mixed [.scr ns, .int (k : Nat), .int m] ()) (fun d _ => ∃ r : Int, d = .int r ∧ 0 ≤ r ∧ r < m) (fun _ _ _ => False) := by
    unfold m__law_mixed b__law_mixed
    simp [Nxt, hc]
    generalize (c : Int).fmod 1000003 = x at c1 ⊢
    have m1 : (x + 5) * (k + 2) ≤ 1000008 * (k + 2) := Int.mul_le_mul_of_nonneg_right (by omega) (by omega)
    have m0 : 0 ≤ (x + 5) * (k + 2) := Int.mul_nonneg (by omega) (by omega)
    refine ⟨small_mul (i := x + 5) (j := k + 2) (a := 50) (b := 50) (by omega) (by omega) (by decide) (by decide) (by decide), small_mul (i := 7919) (j := k) (a := 50) (b := 50) (by decide) (by omega) (by decide) (by decide) (by decide), decide_eq_true ⟨by decide, by decide, ?_⟩, ?_, ?_, fmod_pos hm.1⟩
    · generalize (x + 5) * (k + 2) = y at m1 m0 ⊢
      omega
    · exact small_div (b := 4) (by decide) (by decide) (by decide) (by decide)
    · have := hm.1; omega
  obtain ⟨d, u, e, r, rfl, h⟩ := oE_ex' key
  exact ⟨r, e, h⟩
structure TkOk (ns : List Int) (t t' : Dk) : Prop where
  a : t'.a = t.a
  scr : t'.scr = .scr ns
  cnt : t'.cnt ≤ t.cnt + 1
theorem take_ok {ns : List Int} {t : Dk} (hs : t.scr = .scr ns) (hc : t.cnt < 1000000000000) {m : Int} (hm : manyOk m) : ∃ (r : Int) (t' : Dk), m__law_take [.at t.a, .int m] t = .ok (.int r) t' ∧ 0 ≤ r ∧ r < m ∧ TkOk ns t t' := by
  have key : oE (m__law_take [.at t.a, .int m] t) (fun d t' => ∃ r : Int, d = .int r ∧ 0 ≤ r ∧ r < m ∧ TkOk ns t t') (fun _ _ _ => False) := by
    unfold m__law_take b__law_take
    simp [Nxt, Nxt]
    refine oS_while (fun n ρ u => ∃ (z : Slot), ρ = [.val (.at t.a), .val (.int m), z] ∧ u.a = t.a ∧ u.scr = .scr ns ∧ u.cnt = t.cnt ∧ n = u.big.length - u.pos) ?_ _ _ _ ⟨_, rfl, rfl, hs, rfl, rfl⟩
    rintro n ρ u ⟨z, rfl, ha, hsc, hcn, rfl⟩
    simp [Nxt, ha, hsc, hcn]
    by_cases hp : u.pos < u.big.length
    · right
      refine ⟨hp, u.big[u.pos], List.getElem?_eq_getElem hp, ?_⟩
      by_cases hc0 : u.big[u.pos] ≤ 0
      · left; exact ⟨hc0, by omega, by omega⟩
      · right
        have f := fmod_pos (a := u.big[u.pos]) hm.1
        exact ⟨by omega, small_div (by have := hm.1; omega) hm.2 (by decide) (by decide), hp, by have := hm.1; omega, f.1, f.2, rfl, rfl, Nat.le_succ _⟩
    · left
      refine ⟨by omega, by omega, ?_⟩
      have e : max ((t.cnt : Int) + 1) 0 = ((t.cnt + 1 : Nat) : Int) := by omega
      obtain ⟨r, e2, h0, h1⟩ := mixed_ok ns (t.cnt + 1) (by omega) m hm
      rw [e, e2]
      exact ⟨r, rfl, h0, h1, rfl, rfl, Nat.le_refl _⟩
  obtain ⟨d, u, e, r, rfl, h⟩ := oE_ex' key
  exact ⟨r, u, e, h⟩
structure Gd (ns : List Int) (a : Addr) (n : Nat) (t : Dk) : Prop where
  scr : t.scr = .scr ns
  ad : t.a = a
  cnt : t.cnt ≤ n
theorem Gd.le {ns : List Int} {a : Addr} {n m : Nat} {t : Dk} (g : Gd ns a n t) (h : n ≤ m) : Gd ns a m t := ⟨g.scr, g.ad, Nat.le_trans g.cnt h⟩
theorem take_wp {ns : List Int} {a : Addr} {n : Nat} {t : Dk} {m : Int} {Q : D → Dk → Prop} {X : Str → Fds → Dk → Prop} (g : Gd ns a n t) (hc : n < 1000000000000) (hm : manyOk m) (h : ∀ (r : Int) (t' : Dk), 0 ≤ r → r < m → Gd ns a (n + 1) t' → Q (.int r) t') :
    oE (m__law_take [.at a, .int m] t) Q X := by
  obtain ⟨r, t', e, h0, h1, h2⟩ := take_ok g.scr (Nat.lt_of_le_of_lt g.cnt hc) hm
  rw [g.ad] at e
  rw [e]
  exact h r t' h0 h1 ⟨h2.scr, h2.a.trans g.ad, Nat.le_trans h2.cnt (Nat.succ_le_succ g.cnt)⟩
theorem deck_ok (ns : List Int) (hl : ns.length ≤ 63) : ∃ big, m__law_deck [.scr ns] = some (.scr ns, big) := by
  obtain ⟨ys, e, hy⟩ := compL_ok (g := gN 1) (tt := e1 asB (e2 dGe (e1 fAbs (aCons (eVarW 1) aNil)) (e2 dPow (eC (.int 10)) (eC (.int 18))))) (te := e1 fAbs (aCons (eVarW 1) aNil)) (ρ := [.val (.scr ns), .no]) (p := fun y => ∃ i, y = .int i) (ns.map .int) (fun d hd => by
    obtain ⟨i, _, rfl⟩ := List.mem_map.mp hd
    refine ⟨_, rfl, decide ((10 : Int) ^ 18 ≤ (i.natAbs : Int)), oE_eq ?_, fun _ => ⟨.int (i.natAbs : Int), oE_eq ?_, _, rfl⟩⟩
    · simp
      decide
    · simp)
  obtain ⟨big, eb⟩ := intsD_all ys hy
  have ec : eComp (e1 itD (eVar 0)) [1] (gN 1) (e1 asB (e2 dGe (e1 fAbs (aCons (eVarW 1) aNil)) (e2 dPow (eC (.int 10)) (eC (.int 18))))) (e1 fAbs (aCons (eVarW 1) aNil)) [.val (.scr ns), .no] () = .ok ys () := by
    show (if (ns.map D.int).length ≤ 16777216 ∧ noOwn [.val (.scr ns), .no] [1] = true then compL _ _ _ (wipeR [.val (.scr ns), .no] [1]) (ns.map D.int) () else .bad) = _
    rw [if_pos ⟨by rw [List.length_map]; omega, rfl⟩]
    exact e
  refine ⟨big, ?_⟩
  show (match aVar 0 [.val (.scr ns), .no], eComp (e1 itD (eVar 0)) [1] (gN 1) (e1 asB (e2 dGe (e1 fAbs (aCons (eVarW 1) aNil)) (e2 dPow (eC (.int 10)) (eC (.int 18))))) (e1 fAbs (aCons (eVarW 1) aNil)) [.val (.scr ns), .no] () with
    | some d, .ok ds _ => (intsD ds).map fun l => (d, l)
    | _, _ => none) = some (.scr ns, big)
  rw [ec]
  show (intsD ys).map _ = _
  rw [eb]
  rfl
def gd : Nat → D → Bool
  | _, .non => true
  | _, .bl _ => true
  | _, .int _ => true
  | _, .str x => PyData.canLay0 (.str x)
  | n + 1, .tup ds => ds.all (gd n)
  | n + 1, .lst ds => ds.all (gd n)
  | _, _ => false
theorem gds_ok {n : Nat} (ih : ∀ d, gd n d = true → ∃ p, py d = some p ∧ p.canLay0 = true ∧ p.depth ≤ n) : ∀ ds : List D, ds.all (gd n) = true → ∃ ps, pys ds = some ps ∧ PyData.canLayAll0 ps = true ∧ PyData.depthAll ps ≤ n
  | [], _ => ⟨[], rfl, rfl, Nat.zero_le _⟩
  | d :: ds, h => by
    rw [List.all_cons, Bool.and_eq_true_iff] at h
    obtain ⟨p, h1, h2, h3⟩ := ih d h.1
    obtain ⟨ps, k1, k2, k3⟩ := gds_ok ih ds h.2
    exact ⟨p :: ps, by simp [pys, h1, k1], by simp [PyData.canLayAll0, h2, k2], by simp [PyData.depthAll]; omega⟩
theorem gd_ok : ∀ (n : Nat) (d : D), gd n d = true → ∃ p, py d = some p ∧ p.canLay0 = true ∧ p.depth ≤ n := by
  intro n
  induction n with
  | zero =>
    intro d h
    cases d <;> first
      | (cases h; done)
      | exact ⟨_, rfl, h, Nat.zero_le _⟩
      | exact ⟨_, rfl, rfl, Nat.zero_le _⟩
  | succ n ih =>
    intro d h
    cases d <;> first
      | (cases h; done)
      | exact ⟨_, rfl, h, Nat.zero_le _⟩
      | exact ⟨_, rfl, rfl, Nat.zero_le _⟩
      | skip
    all_goals
      obtain ⟨ps, k1, k2, k3⟩ := gds_ok ih _ h
      exact ⟨_, by simp only [py, k1]; rfl, by simpa [PyData.canLay0] using k2, by simp [PyData.depth]; omega⟩
inductive Pw {α β : Type} (p : α → β → Prop) : List α → List β → Prop
  | nil : Pw p [] []
  | cons {x : α} {y : β} {xs : List α} {ys : List β} : p x y → Pw p xs ys → Pw p (x :: xs) (y :: ys)
theorem Pw.len {α β : Type} {p : α → β → Prop} : ∀ {xs : List α} {ys : List β}, Pw p xs ys → xs.length = ys.length
  | _, _, .nil => rfl
  | _, _, .cons _ t => congrArg (· + 1) t.len
theorem Pw.right {α β : Type} {p : α → β → Prop} : ∀ {xs : List α} {ys : List β}, Pw p xs ys → ∀ y ∈ ys, ∃ x ∈ xs, p x y
  | _, _, .cons h t, y, hy => by
    rcases List.mem_cons.mp hy with rfl | hy
    · exact ⟨_, List.mem_cons_self, h⟩
    · obtain ⟨x, hx, hp⟩ := t.right y hy
      exact ⟨x, List.mem_cons_of_mem _ hx, hp⟩
theorem Pw.mono {α β : Type} {p q : α → β → Prop} (h : ∀ x y, p x y → q x y) : ∀ {xs : List α} {ys : List β}, Pw p xs ys → Pw q xs ys
  | _, _, .nil => .nil
  | _, _, .cons a t => .cons (h _ _ a) (t.mono h)
structure Nm (n : Nat) (x : Str) : Prop where
  lt : ∀ c ∈ x.cps.toList, 97 ≤ c ∧ c ≤ 122
  le : x.length ≤ n
theorem str_len (x : Str) : x.length = x.cps.toList.length := by show x.cps.size = _; simp
theorem Nm.mono {n m : Nat} {x : Str} (h : Nm n x) (hm : n ≤ m) : Nm m x := ⟨h.lt, Nat.le_trans h.le hm⟩
theorem Nm.ok {n : Nat} {x : Str} (h : Nm n x) : PyData.canLay0 (.str x) = true := by
  show (x.cps.all fun c => decide (c < 1114112)) = true
  rw [← Array.all_toList, List.all_eq_true]
  intro c hc
  have := h.lt c hc
  exact decide_eq_true (by omega)
theorem Nm.cut {n : Nat} {x : Str} (h : Nm n x) (lo hi : Option Int) : Nm n (cutS x lo hi) := by
  have e : (cutS x lo hi).cps.toList = ((x.cps.toList.drop (HT.sIx x.length 0 lo)).take (HT.sIx x.length x.length hi - HT.sIx x.length 0 lo)) := by unfold cutS; simp
  refine ⟨fun c hc => ?_, ?_⟩
  · rw [e] at hc; exact h.lt c (List.mem_of_mem_drop (List.mem_of_mem_take hc))
  · have a := h.le
    rw [str_len] at *
    rw [e, List.length_take, List.length_drop]; omega
theorem Nm.nil : Nm 0 ⟨#[]⟩ := ⟨fun c hc => (nomatch hc), Nat.le_refl _⟩
theorem nm_join {n : Nat} : ∀ ys : List Str, (∀ y ∈ ys, Nm n y) → Nm (n * ys.length) (Txt.join "" ys) := fun ys h => by
  rw [TL.join_eq]
  have key : ∀ ys : List Str, (∀ y ∈ ys, Nm n y) → (∀ c ∈ TL.joinL [] (ys.map TL.tl), 97 ≤ c ∧ c ≤ 122) ∧ (TL.joinL [] (ys.map TL.tl)).length ≤ n * ys.length := by
    intro ys
    induction ys with
    | nil => intro _; exact ⟨fun c hc => (nomatch hc), Nat.le_refl _⟩
    | cons y r ih =>
      intro h
      have h1 := h y List.mem_cons_self
      have ih := ih fun z hz => h z (List.mem_cons_of_mem _ hz)
      have e : TL.joinL [] ((y :: r).map TL.tl) = TL.tl y ++ TL.joinL [] (r.map TL.tl) := by
        cases r with
        | nil => simp [TL.joinL]
        | cons z r => simp [TL.joinL]
      rw [e]
      refine ⟨fun c hc => ?_, ?_⟩
      · rcases List.mem_append.mp hc with q | q
        · exact h1.lt c q
        · exact ih.1 c q
      · rw [List.length_append, List.length_cons, Nat.mul_add, Nat.mul_one]
        have := h1.le
        rw [str_len] at this
        have : (TL.tl y).length ≤ n := this
        have := ih.2
        omega
  have e : (Str.join "" ys).cps.toList = TL.joinL [] (ys.map TL.tl) := TL.tl_join "" ys
  obtain ⟨k1, k2⟩ := key ys h
  exact ⟨fun c hc => k1 c (by rw [← e]; exact hc), by rw [str_len, e]; exact k2⟩
theorem strsD_map : ∀ ys : List Str, strsD (ys.map D.str) = some ys
  | [] => rfl
  | y :: ys => by show (strsD (ys.map D.str)).map (y :: ·) = _; rw [strsD_map ys]; rfl
theorem join_ok {n : Nat} {ys : List Str} (h : ∀ y ∈ ys, Nm n y) (hl : n * ys.length ≤ 1000000) : dJoin "" (.lst (ys.map D.str)) = some (.str (Txt.join "" ys)) := by
  show (strsD (ys.map D.str)).bind _ = _
  rw [strsD_map, Option.bind_some, if_pos]
  refine decide_eq_true ?_
  have : ∀ ys : List Str, (∀ y ∈ ys, Nm n y) → (ys.map (·.length)).sum ≤ n * ys.length := fun ys => by
    induction ys with
    | nil => intro _; exact Nat.le_refl _
    | cons y r ih =>
      intro h
      have h1 := (h y List.mem_cons_self).le
      have ih := ih fun z hz => h z (List.mem_cons_of_mem _ hz)
      simp only [List.map_cons, List.sum_cons, List.length_cons, Nat.mul_add, Nat.mul_one]
      omega
  have := this ys h
  have e0 : ("" : Str).length = 0 := rfl
  rw [e0, Nat.mul_zero]; omega
theorem pys_strs : ∀ ys : List Str, pys (ys.map D.str) = some (ys.map .str)
  | [] => rfl
  | y :: ys => by show (py (.str y)).bind (fun p => (pys (ys.map D.str)).map (p :: ·)) = _; rw [pys_strs ys]; rfl
theorem depth_strs : ∀ ys : List Str, PyData.depthAll (ys.map .str) = 0
  | [] => rfl
  | y :: ys => by simp [PyData.depthAll, PyData.depth, depth_strs ys]
theorem canLay_strs : ∀ ys : List Str, (∀ y ∈ ys, PyData.canLay0 (.str y) = true) → PyData.canLayAll0 (ys.map .str) = true
  | [], _ => rfl
  | y :: ys, h => by
    simp only [List.map_cons, PyData.canLayAll0, Bool.and_eq_true]
    exact ⟨h y List.mem_cons_self, canLay_strs ys fun z hz => h z (List.mem_cons_of_mem _ hz)⟩
theorem inD_strs {x : Str} {ys : List Str} (hx : PyData.canLay0 (.str x) = true) (h : ∀ y ∈ ys, PyData.canLay0 (.str y) = true) : inD (.str x) (.lst (ys.map D.str)) = some (decide (x ∈ ys)) := by
  unfold inD
  dsimp only
  rw [pys_strs]
  dsimp only [py]
  rw [if_pos]
  · congr 1
    rw [List.any_map]
    induction ys with
    | nil => rfl
    | cons y r ih =>
      rw [List.any_cons, ih fun z hz => h z (List.mem_cons_of_mem _ hz)]
      by_cases e : x = y
      · subst e; simp [PyData.eqv]
      · have e' : ¬ y = x := fun z => e z.symm
        simp [PyData.eqv, e, e']
  · refine ⟨Bool.and_eq_true_iff.mpr ⟨hx, rfl⟩, Bool.and_eq_true_iff.mpr ⟨?_, ?_⟩⟩
    · exact canLay_strs ys h
    · rw [show PyData.depth (.list (ys.map .str)) = PyData.depthAll (ys.map .str) + 1 from rfl, depth_strs]; rfl
theorem comp_wp {ns : List Int} {a : Addr} {g : Tgt} {te : ME Dk D} {ρ : Rho} {p : D → D → Prop} {k B : Nat} {Q : List D → Dk → Prop} {X : Str → Fds → Dk → Prop} : ∀ (ds : List D)
    (hg : ∀ d ∈ ds, ∀ n t, Gd ns a n t → n ≤ B → ∃ ρ1, g ρ d = some ρ1 ∧ oE (te ρ1 t) (fun y t' => p d y ∧ Gd ns a (n + k) t') (fun _ _ _ => False)) (n : Nat) (t : Dk), Gd ns a n t → n + k * ds.length ≤ B →
    (∀ ys t', Pw p ds ys → Gd ns a (n + k * ds.length) t' → Q ys t') → oE (compL g (fun _ t => .ok true t) te ρ ds t) Q X
  | [], hg, n, t, h, hB, hQ => hQ [] t .nil (by simpa using h)
  | d :: ds, hg, n, t, h, hB, hQ => by
    rw [List.length_cons, Nat.mul_add] at hB
    obtain ⟨ρ1, e1, e2⟩ := hg d List.mem_cons_self n t h (by omega)
    rw [oE_compCons]
    refine ⟨ρ1, e1, ?_⟩
    simp only [oE_ok, not_true_eq_false, false_implies, and_true, forall_const]
    refine oE_imp e2 (fun y t1 ⟨py, h1⟩ => ?_) fun _ _ _ z => z
    refine comp_wp ds (fun d hd => hg d (List.mem_cons_of_mem _ hd)) (n + k) t1 h1 (by omega) fun ys t' hys h' => hQ _ _ (.cons py hys) ?_
    rw [List.length_cons, Nat.mul_add]
    exact h'.le (by omega)
theorem pw_nm {k : Nat} : ∀ {ds ys : List D}, Pw (fun _ y => ∃ x, y = .str x ∧ Nm k x) ds ys → ∃ xs : List Str, ys = xs.map D.str ∧ (∀ x ∈ xs, Nm k x) ∧ xs.length = ds.length
  | _, _, .nil => ⟨[], rfl, fun x hx => (nomatch hx), rfl⟩
  | _, _, .cons h t => by
    obtain ⟨x, rfl, hx⟩ := h
    obtain ⟨xs, rfl, h1, h2⟩ := pw_nm t
    refine ⟨x :: xs, rfl, fun y hy => ?_, by simp [h2]⟩
    rcases List.mem_cons.mp hy with rfl | hy
    · exact hx
    · exact h1 y hy
def S2 (x y : Rat) : D := .tup [R x, R y]
@[simp] theorem S2_ix0 {x y : Rat} : dIx (S2 x y) (.int 0) = some (R x) := rfl
@[simp] theorem S2_ix1 {x y : Rat} : dIx (S2 x y) (.int 1) = some (R y) := rfl
@[simp] theorem S2_gT {x y : Rat} {gs : Tgts} {ρ : Rho} : gT gs ρ (S2 x y) = gs ρ [R x, R y] := rfl
theorem Sz.int {p : Int} {n : Nat} (h : p.natAbs < 2 ^ n) (h0 : 1 ≤ n) : Sz n (p : Rat) := ⟨h, by show 1 < 2 ^ n; exact Nat.one_lt_two_pow (by omega)⟩
@[simp] theorem atI_0 {α : Type} {x : α} {xs : List α} : atI (x :: xs) 0 = some x := atI_nat (j := 0) rfl
@[simp] theorem atI_1 {α : Type} {x y : α} {xs : List α} : atI (x :: y :: xs) 1 = some y := atI_nat (j := 1) rfl
@[simp] theorem atI_2 {α : Type} {x y z : α} {xs : List α} : atI (x :: y :: z :: xs) 2 = some z := atI_nat (j := 2) rfl
@[simp] theorem atI_3 {α : Type} {x y z u : α} {xs : List α} : atI (x :: y :: z :: u :: xs) 3 = some u := atI_nat (j := 3) rfl
@[simp] theorem atI_4 {α : Type} {x y z u v : α} {xs : List α} : atI (x :: y :: z :: u :: v :: xs) 4 = some v := atI_nat (j := 4) rfl
@[simp] theorem atI_5 {α : Type} {x y z u v w : α} {xs : List α} : atI (x :: y :: z :: u :: v :: w :: xs) 5 = some w := atI_nat (j := 5) rfl
mutual
theorem alike_refl : ∀ d : PyData, d.canLay0 = true → PySem.W.alike d d = true
  | .none, _ => rfl
  | .bool _, _ => rfl
  | .int _, _ => rfl
  | .str _, _ => rfl
  | .list xs, h => by rw [PySem.W.alike]; exact alikeAll_refl xs h
  | .tuple xs, h => by rw [PySem.W.alike]; exact alikeAll_refl xs h
  | .dict _, h => nomatch h
theorem alikeAll_refl : ∀ xs : List PyData, PyData.canLayAll0 xs = true → PySem.W.alikeAll xs xs = true
  | [], _ => rfl
  | x :: xs, h => by
    have h' : x.canLay0 = true ∧ PyData.canLayAll0 xs = true := by simpa [PyData.canLayAll0] using h
    rw [PySem.W.alikeAll, alike_refl x h'.1, alikeAll_refl xs h'.2]; rfl
end
theorem cmpAll_refl : ∀ xs : List PyData, PyData.canLayAll0 xs = true → PySem.W.cmpAll xs xs = true
  | [], _ => rfl
  | x :: xs, h => by
    have h' : x.canLay0 = true ∧ PyData.canLayAll0 xs = true := by simpa [PyData.canLayAll0] using h
    rw [PySem.W.cmpAll, alike_refl x h'.1, SeqAt.eqv_refl x h'.1, if_pos rfl, cmpAll_refl xs h'.2]; rfl
def Nmd (d : D) (x : Str) : Prop := ∃ r, d = .tup (.str x :: r)
theorem nmd_cons {d : D} {x : Str} {p : PyData} (h : Nmd d x) (e : py d = some p) : ∃ r, p = .tuple (.str x :: r) := by
  obtain ⟨r, rfl⟩ := h
  simp only [py, pys] at e
  cases h2 : pys r with
  | none => rw [h2] at e; cases e
  | some q => rw [h2] at e; cases e; exact ⟨q, rfl⟩
theorem pys_mem : ∀ {ds : List D} {ps : List PyData}, pys ds = some ps → ∀ p ∈ ps, ∃ d ∈ ds, py d = some p
  | [], _, e, p, hp => by cases e; cases hp
  | d :: ds, ps, e, p, hp => by
    simp only [pys] at e
    cases h1 : py d with
    | none => rw [h1] at e; cases e
    | some q =>
      cases h2 : pys ds with
      | none => rw [h1, h2] at e; cases e
      | some qs =>
        rw [h1, h2] at e; cases e
        rcases List.mem_cons.mp hp with rfl | hp
        · exact ⟨d, List.mem_cons_self, h1⟩
        · obtain ⟨d', m, e'⟩ := pys_mem h2 p hp
          exact ⟨d', List.mem_cons_of_mem _ m, e'⟩
theorem sortV_perm {α : Type} {xs : List α} {ps : List PyData} (h : ps.length = xs.length) : (sortV xs ps).Perm xs := by
  unfold sortV
  have := (List.mergeSort_perm (xs.zip ps) (PySem.W.dataLe false fun b : α × PyData => b.2)).map (·.1)
  rw [show (xs.zip ps).map (·.1) = xs from zip_fst h] at this
  exact this
theorem sort_rows {ds : List D} (hg : ∀ d ∈ ds, gd 8 d = true ∧ ∃ x, Nmd d x) (hn : ∀ d ∈ ds, ∀ d' ∈ ds, ∀ x, Nmd d x → Nmd d' x → d = d') : ∃ zs, fSortD [.lst ds] = some zs ∧ zs.Perm ds := by
  obtain ⟨ps, e, _, _⟩ := gds_ok (fun d => gd_ok 8 d) ds (List.all_eq_true.mpr fun d hd => (hg d hd).1)
  have c : SrtC ps := by
    refine ⟨.inr ⟨fun p hp => ?_, fun xs ys hx hy => ?_⟩, fun p hp => ?_⟩
    · obtain ⟨d, m, e1⟩ := pys_mem e p hp
      obtain ⟨q, h1, h2, _⟩ := gd_ok 8 d (hg d m).1
      rw [e1] at h1; cases h1
      obtain ⟨x, hx⟩ := (hg d m).2
      obtain ⟨r, er⟩ := nmd_cons hx e1
      exact ⟨h2, _, r, er⟩
    · obtain ⟨d, m, e1⟩ := pys_mem e _ hx
      obtain ⟨d', m', e2⟩ := pys_mem e _ hy
      obtain ⟨x, n1⟩ := (hg d m).2
      obtain ⟨y, n2⟩ := (hg d' m').2
      obtain ⟨r, er⟩ := nmd_cons n1 e1
      obtain ⟨r', er'⟩ := nmd_cons n2 e2
      cases er; cases er'
      by_cases h : x = y
      · subst h
        have := hn d m d' m' x n1 n2
        subst this
        rw [e1] at e2
        cases e2
        obtain ⟨q, h1, h2, _⟩ := gd_ok 8 d (hg d m).1
        rw [e1] at h1; cases h1
        exact cmpAll_refl _ h2
      · simp [PySem.W.cmpAll, PySem.W.alike, PyData.eqv, h]
    · obtain ⟨d, m, e1⟩ := pys_mem e p hp
      obtain ⟨q, h1, _, h3⟩ := gd_ok 8 d (hg d m).1
      rw [e1] at h1; cases h1
      omega
  refine ⟨sortV ds ps, ?_, sortV_perm (pys_len e).symm⟩
  show (pys ds).bind _ = _
  rw [e, Option.bind_some, if_pos c]
theorem Sz.zero {n : Nat} (h0 : 1 ≤ n) : Sz n (0 : Rat) := ⟨by show 0 < 2 ^ n; exact Nat.two_pow_pos n, by show 1 < 2 ^ n; exact Nat.one_lt_two_pow (by omega)⟩
theorem app_len (x y : Str) : (x ++ y).length = x.length + y.length := by
  show (x.cps ++ y.cps).size = x.cps.size + y.cps.size
  exact Array.size_append
theorem app_nil (y : Str) : Str.empty ++ y = y := by
  cases y
  show (⟨#[] ++ _⟩ : Str) = _
  rw [Array.empty_append]
theorem p10 {n : Nat} (h : n < 10 ^ 403) : n.log2 < 1920 := Nat.lt_of_lt_of_le (PySem.Flt.log2_lt_of (by decide) (Nat.lt_of_lt_of_le h (show (10 : Nat) ^ 403 ≤ 2 ^ 1400 by decide +kernel))) (by decide)
theorem strOf_len {i : Int} (h : i.natAbs < 10 ^ 403) : (strOf i).length ≤ 404 := by
  have := int_text_length_le10 (k := 403) (by decide) h
  unfold strOf
  rw [PySem.ofString_length]
  exact this
theorem strI_ok {i : Int} (h : i.natAbs < 10 ^ 403) : fStrI [.int i] = some (.str (strOf i)) := by
  show (if decide (i.natAbs.log2 < 1920) = true then some (D.str (strOf i)) else none) = _
  rw [if_pos (decide_eq_true (p10 h))]
theorem fmt_ok {i : Int} (h : i.natAbs < 10 ^ 403) : fFmt (.int i) = some (.str (strOf i)) := by
  show (if i.natAbs.log2 < 1920 then some (D.str (toString i)) else none) = _
  rw [if_pos (p10 h)]
  rfl
def txt (a b : Int) : Str := if b = 1 then strOf a else strOf a ++ "/" ++ strOf b
theorem txt_len {a b : Int} (ha : a.natAbs < 10 ^ 403) (hb : b.natAbs < 10 ^ 403) : (txt a b).length ≤ 809 := by
  have h1 := strOf_len ha
  have h2 := strOf_len hb
  unfold txt
  split
  · omega
  · rw [app_len, app_len]
    have : ("/" : Str).length = 1 := rfl
    omega
theorem add_ss (x y : Str) (h : x.length + y.length ≤ 16777216) : dAdd (.str x) (.str y) = some (.str (x ++ y)) := by
  show (if lim2 (x.length + y.length) = true then some (D.str (x ++ y)) else none) = _
  rw [if_pos (show lim2 _ = true from decide_eq_true h)]
theorem text_ok {a b : Int} (ha : a.natAbs < 10 ^ 403) (hb : b.natAbs < 10 ^ 403) : m__law_word [.tup [.int a, .int b]] () = .ok (.str (txt a b)) () ∧ m_share_text [.tup [.int a, .int b]] () = .ok (.str (txt a b)) () := by
  have h1 := strOf_len ha
  have h2 := strOf_len hb
  have hs : ("/" : Str).length = 1 := rfl
  have i0 : atI [D.int a, .int b] 0 = some (.int a) := rfl
  have i1 : atI [D.int a, .int b] 1 = some (.int b) := rfl
  have l1 : (strOf a ++ "/").length ≤ 405 := by rw [app_len]; omega
  have l2 : (strOf a ++ "/" ++ strOf b).length ≤ 16777216 := by rw [app_len]; omega
  have d1 := add_ss (strOf a) "/" (by omega)
  have d2 := add_ss (strOf a ++ "/") (strOf b) (by omega)
  unfold txt
  by_cases q : b = 1
  · subst q
    rw [if_pos rfl]
    constructor
    · apply oE_eq
      unfold m__law_word b__law_word
      simp [i0, i1, strI_ok ha]
    · apply oE_eq
      unfold m_share_text b_share_text
      simp [i0, i1, strI_ok ha]
  · rw [if_neg q]
    constructor
    · apply oE_eq
      unfold m__law_word b__law_word
      simp [i0, i1, q]
      unfold Nxt
      simp [i0, i1, strI_ok ha, strI_ok hb, d1, d2]
    · apply oE_eq
      unfold m_share_text b_share_text
      simp [i0, i1, q]
      unfold Nxt
      simp [i0, i1, fmt_ok ha, fmt_ok hb, app_nil]
      refine ⟨by omega, by omega, l2⟩
abbrev Zk (i : Int) : Prop := i.natAbs < 10 ^ 403
abbrev Fr := Int × Int
def prD (p : Fr) : D := .tup [.int p.1, .int p.2]
def FrOk (p : Fr) : Prop := Zk p.1 ∧ Zk p.2
def frT (p : Fr) : Str := txt p.1 p.2
theorem share_text_fr {p : Fr} (h : FrOk p) : m_share_text [prD p] () = .ok (.str (frT p)) () := (text_ok h.1 h.2).2
theorem law_word_fr {p : Fr} (h : FrOk p) : m__law_word [prD p] () = .ok (.str (frT p)) () := (text_ok h.1 h.2).1
structure Rw where
  x : Str
  sh : List Fr
  m : Int
  rl : Option Fr
  px : Fr
  py : Fr
  vx : Fr
  vy : Fr
def rlD : Option Fr → D
  | none => .non
  | some p => prD p
def Rw.row (r : Rw) : D := .tup [.str r.x, .tup (r.sh.map prD), .int r.m, rlD r.rl, .tup [prD r.px, prD r.py], .tup [prD r.vx, prD r.vy]]
structure Rw.Ok (r : Rw) : Prop where
  x : Nm 12 r.x
  sh : ∀ c ∈ r.sh, FrOk c
  shl : r.sh.length ≤ 8
  m0 : 0 ≤ r.m
  m : Zk r.m
  rl : ∀ p, r.rl = some p → FrOk p
  w : r.m = 0 → r.rl = none
  px : FrOk r.px
  py : FrOk r.py
  vx : FrOk r.vx
  vy : FrOk r.vy
def corT (c : Fr) : Str := strOf c.1 ++ "," ++ strOf c.2
def Rw.words (r : Rw) : List Str :=
  if r.m = 0 then (["wall", r.x] : List Str) ++ [frT r.px, frT r.py] ++ r.sh.map corT
  else match r.rl with
    | none => (["free", r.x, strOf r.m] : List Str) ++ [frT r.px, frT r.py] ++ [frT r.vx, frT r.vy] ++ r.sh.map corT
    | some p => (["rail", r.x, strOf r.m] : List Str) ++ [strOf p.1, strOf p.2] ++ [frT r.px, frT r.py] ++ [frT r.vx, frT r.vy] ++ r.sh.map corT
theorem corT_len {c : Fr} (h : FrOk c) : (corT c).length ≤ 809 := by
  have h1 := strOf_len h.1
  have h2 := strOf_len h.2
  unfold corT
  rw [app_len, app_len]
  have : ("," : Str).length = 1 := rfl
  omega
theorem spot_words_ok {p q : Fr} (hp : FrOk p) (hq : FrOk q) : m_spot_words [.tup [prD p, prD q]] () = .ok (.lst [.str (frT p), .str (frT q)]) () := by
  apply oE_eq
  unfold m_spot_words b_spot_words
  simp
  refine comp_map (α := Fr) (xs := [p, q]) (enc := prD) (f := fun p => .str (frT p)) (fun x hx => ⟨_, rfl, ?_⟩) rfl
  have : FrOk x := by
    rcases List.mem_cons.mp hx with rfl | hx
    · exact hp
    · rw [List.mem_singleton.mp hx]; exact hq
  simp [wipeR, share_text_fr this]
theorem addL {xs ys : List D} (h : xs.length + ys.length ≤ 16777216) : dAdd (.lst xs) (.lst ys) = some (.lst (xs ++ ys)) := by
  unfold dAdd lim2
  simp [h]
theorem body_words_ok {r : Rw} (o : r.Ok) : m_body_words [r.row] () = .ok (.lst (r.words.map .str)) () := by
  have hsl := o.shl
  have sc : (",":Str).length = 1 := rfl
  apply oE_eq
  unfold m_body_words b_body_words
  simp [Rw.row]
  unfold Nxt
  simp
  refine ⟨by omega, comp_map (α := Fr) (enc := prD) (f := fun c => .str (corT c)) (fun c hc => ⟨_, rfl, ?_⟩) ?_⟩
  · have h := o.sh c hc
    have h1 := strOf_len h.1
    have h2 := strOf_len h.2
    have h3 := corT_len h
    unfold corT at h3 ⊢
    simp [wipeR, fmt_ok h.1, fmt_ok h.2, app_nil]
    simp only [app_len] at h3 ⊢
    omega
  unfold Nxt
  simp
  unfold Rw.words
  have nn : dIs .non .non = some (.bl true) := rfl
  have ln : (r.sh.map fun c => D.str (corT c)).length ≤ 8 := by rw [List.length_map]; exact hsl
  by_cases h0 : r.m = 0
  · simp [h0, spot_words_ok o.px o.py]
    rw [addL (by simp only [List.length_cons, List.length_nil]; omega)]
    simp [Function.comp_def]
  · simp [h0]
    unfold Nxt
    simp [spot_words_ok o.px o.py, spot_words_ok o.vx o.vy]
    refine ⟨by omega, ?_⟩
    unfold Nxt
    cases hr : r.rl with
    | none =>
      simp [rlD, strI_ok o.m, hr, nn]
      rw [addL (by simp only [List.length_cons, List.length_nil]; omega)]
      simp [Function.comp_def]
    | some p =>
      have hp := o.rl p hr
      have tn : dIs (.tup [.int p.1, .int p.2]) .non = some (.bl false) := rfl
      simp [rlD, prD, hr, tn]
      unfold Nxt
      simp [strI_ok o.m]
      refine comp_map (α := Int) (xs := [p.1, p.2]) (enc := D.int) (f := fun i => .str (strOf i)) (fun i hi => ⟨_, rfl, ?_⟩) ?_
      · have hz : Zk i := by
          rcases List.mem_cons.mp hi with rfl | hi
          · exact hp.1
          · rw [List.mem_singleton.mp hi]; exact hp.2
        simp [wipeR, strI_ok hz]
      · refine ⟨by simp, ?_⟩
        rw [addL (by simp only [List.length_cons, List.length_map, List.length_nil] at ln ⊢; omega)]
        simp [Function.comp_def]
theorem law_words_ok {r : Rw} (o : r.Ok) : m__law_words [r.row] () = .ok (.lst (r.words.map .str)) () := by
  have hsl := o.shl
  have sc : (",":Str).length = 1 := rfl
  have nn : dIsnt .non .non = some (.bl false) := rfl
  have ln : (r.sh.map fun c => D.str (corT c)).length ≤ 8 := by rw [List.length_map]; exact hsl
  have cm : ∀ {p q : Fr} {ρ : Rho} {Q : List D → Unit → Prop} {X : Str → Fds → Unit → Prop}, FrOk p → FrOk q → (∀ d, ∃ ρ1, gN 9 ρ d = some ρ1 ∧ ρ1[9]? = some (.val d)) → Q [.str (frT p), .str (frT q)] () → oE (compL (gN 9) (fun _ t => .ok true t) (eCall m__law_word [] (aCons (eVar 9) aNil)) ρ [prD p, prD q] ()) Q X := fun {p q ρ Q X} hp hq hs h => by
    refine comp_map (α := Fr) (xs := [p, q]) (enc := prD) (f := fun p => .str (frT p)) (fun x hx => ?_) h
    have : FrOk x := by
      rcases List.mem_cons.mp hx with rfl | hx
      · exact hp
      · rw [List.mem_singleton.mp hx]; exact hq
    obtain ⟨ρ1, e1, e2⟩ := hs (prD x)
    refine ⟨ρ1, e1, ?_⟩
    simp [e2, law_word_fr this]
  have cc : ∀ {ρ : Rho} {Q : List D → Unit → Prop} {X : Str → Fds → Unit → Prop}, (∀ c : Fr, ∃ ρ1, gT (gCons (gN 10) (gCons (gN 11) gNil)) ρ (prD c) = some ρ1 ∧ ρ1[10]? = some (.val (.int c.1)) ∧ ρ1[11]? = some (.val (.int c.2))) → Q (r.sh.map fun c => .str (corT c)) () →
      oE (compL (gT (gCons (gN 10) (gCons (gN 11) gNil))) (fun _ t => .ok true t) (e2 dAdd (e2 dAdd (e1 fStrI (aCons (eVarW 10) aNil)) (eC (.str ","))) (e1 fStrI (aCons (eVarW 11) aNil))) ρ (r.sh.map prD) ()) Q X := fun {ρ Q X} hs h => by
    refine comp_map (α := Fr) (enc := prD) (f := fun c => .str (corT c)) (fun x hx => ?_) h
    have ok := o.sh x hx
    obtain ⟨ρ1, e1, e2, e3⟩ := hs x
    have h1 := strOf_len ok.1
    have h2 := strOf_len ok.2
    refine ⟨ρ1, e1, ?_⟩
    simp [e2, e3, strI_ok ok.1, strI_ok ok.2, add_ss (strOf x.1) "," (by omega), add_ss (strOf x.1 ++ ",") (strOf x.2) (by rw [app_len]; omega)]
    rfl
  apply oE_eq
  unfold m__law_words b__law_words
  simp [Rw.row]
  unfold Nxt
  simp
  unfold Nxt
  simp
  refine cm o.px o.py (fun d => ⟨_, rfl, rfl⟩) ?_
  unfold Rw.words
  unfold Nxt
  by_cases h0 : r.m = 0
  · have hw := o.w h0
    simp [h0, hw, rlD]
    unfold Nxt
    simp [nn, h0, hw]
    unfold Nxt
    simp
    refine ⟨by omega, cc (fun c => ⟨_, rfl, rfl, rfl⟩) ?_⟩
    rw [addL (by simp only [List.length_cons, List.length_nil]; omega)]
    simp [Function.comp_def]
  · have h1 : 0 < r.m := by have := o.m0; omega
    simp [h0, h1, strI_ok o.m]
    unfold Nxt
    simp
    refine cm o.vx o.vy (fun d => ⟨_, rfl, rfl⟩) ?_
    simp
    unfold Nxt
    cases hr : r.rl with
    | none =>
      simp [rlD, nn, hr]
      refine ⟨by omega, cc (fun c => ⟨_, rfl, rfl, rfl⟩) ?_⟩
      rw [addL (by simp only [List.length_cons, List.length_nil]; omega)]
      simp [Function.comp_def]
    | some p =>
      have hp := o.rl p hr
      have tn : dIsnt (.tup [.int p.1, .int p.2]) .non = some (.bl true) := rfl
      have i0 : atI [D.int p.1, .int p.2] 0 = some (.int p.1) := rfl
      have i1 : atI [D.int p.1, .int p.2] 1 = some (.int p.2) := rfl
      simp [rlD, prD, tn, hr, strI_ok o.m, strI_ok hp.1, strI_ok hp.2, i0, i1]
      refine ⟨p10 o.m, by omega, cc (fun c => ⟨_, rfl, rfl, rfl⟩) ?_⟩
      rw [addL (by simp only [List.length_cons, List.length_nil]; omega)]
      simp [Function.comp_def]
theorem dig_bound : ∀ l : List Nat, (∀ c ∈ l, 48 ≤ c ∧ c ≤ 57) → ∀ acc : Nat, l.foldl (fun acc c => acc * 10 + (c - 48)) acc < (acc + 1) * 10 ^ l.length
  | [], _, acc => by simp
  | c :: l, h, acc => by
    have hc := h c List.mem_cons_self
    have ih := dig_bound l (fun z hz => h z (List.mem_cons_of_mem _ hz)) (acc * 10 + (c - 48))
    rw [List.foldl_cons, List.length_cons]
    refine Nat.lt_of_lt_of_le ih ?_
    have : acc * 10 + (c - 48) + 1 ≤ (acc + 1) * 10 := by omega
    calc (acc * 10 + (c - 48) + 1) * 10 ^ l.length ≤ ((acc + 1) * 10) * 10 ^ l.length := Nat.mul_le_mul_right _ this
      _ = (acc + 1) * 10 ^ (l.length + 1) := by rw [Nat.pow_succ, Nat.mul_assoc, Nat.mul_comm 10]
theorem rep_one (c : Nat) : ∀ (n : Nat) (acc : Array Nat), ((List.replicate n #[c]).foldl (· ++ ·) acc).toList = acc.toList ++ List.replicate n c
  | 0, acc => by simp
  | n + 1, acc => by
    rw [List.replicate_succ, List.foldl_cons, rep_one c n]
    simp [List.replicate_succ]
theorem repS_one {c : Nat} {n : Int} (h : 1 ≤ n) : (repS ⟨#[c]⟩ n).cps.toList = List.replicate n.toNat c := by
  unfold repS Txt.mul
  rw [if_neg (by omega)]
  by_cases h1 : n = 1
  · subst h1
    rw [if_pos (by simp)]
    rfl
  · rw [if_neg (by simp [h1]; show ¬ (#[c] : Array Nat).size = 0; simp)]
    exact rep_one c n.toNat #[]
theorem digit_str {d : Int} (h0 : 1 ≤ d) (h1 : d ≤ 9) : ∃ c : Nat, 48 ≤ c ∧ c ≤ 57 ∧ strOf d = ⟨#[c]⟩ := by
  have : d = 1 ∨ d = 2 ∨ d = 3 ∨ d = 4 ∨ d = 5 ∨ d = 6 ∨ d = 7 ∨ d = 8 ∨ d = 9 := by omega
  rcases this with rfl | rfl | rfl | rfl | rfl | rfl | rfl | rfl | rfl
  · exact ⟨49, by decide, by decide, by decide +kernel⟩
  · exact ⟨50, by decide, by decide, by decide +kernel⟩
  · exact ⟨51, by decide, by decide, by decide +kernel⟩
  · exact ⟨52, by decide, by decide, by decide +kernel⟩
  · exact ⟨53, by decide, by decide, by decide +kernel⟩
  · exact ⟨54, by decide, by decide, by decide +kernel⟩
  · exact ⟨55, by decide, by decide, by decide +kernel⟩
  · exact ⟨56, by decide, by decide, by decide +kernel⟩
  · exact ⟨57, by decide, by decide, by decide +kernel⟩
theorem figs {d n : Int} (h0 : 1 ≤ d) (h1 : d ≤ 9) (n0 : 1 ≤ n) (n1 : n ≤ 390) : ∃ (z : D) (G : Int), dMulS1 (.str (strOf d)) (.int n) = some z ∧ fIntA [z] = some (.int G) ∧ 0 ≤ G ∧ G.natAbs < 10 ^ 390 := by
  obtain ⟨c, c0, c1, e⟩ := digit_str h0 h1
  have rp := repS_one (c := c) n0
  have hl : (repS ⟨#[c]⟩ n).length = n.toNat := by
    show (repS ⟨#[c]⟩ n).cps.size = _
    rw [← Array.length_toList, rp, List.length_replicate]
  have ad : NumText.AllDigits (repS ⟨#[c]⟩ n).cps.toList := fun x hx => by
    rw [rp] at hx
    have := List.eq_of_mem_replicate hx
    subst this
    exact ⟨c0, c1⟩
  refine ⟨.str (repS ⟨#[c]⟩ n), ((NumText.digitsVal (repS ⟨#[c]⟩ n).cps.toList : Nat) : Int), ?_, ?_, by omega, ?_⟩
  · rw [e]
    show (if mulS1Ok ⟨#[c]⟩ n = true then some (D.str (repS ⟨#[c]⟩ n)) else none) = _
    rw [if_pos]
    unfold mulS1Ok
    have : (⟨#[c]⟩ : Str).length = 1 := rfl
    rw [this]
    simp
    omega
  · rw [fIntA_str]
    unfold fIntS
    dsimp only
    rw [if_pos (decide_eq_true (by omega)), intText_digits ad (by rw [rp]; intro z; have := congrArg List.length z; simp at this; omega) (by omega)]
    rfl
  · rw [Int.natAbs_natCast]
    refine Nat.lt_of_lt_of_le (dig_bound _ ad 0) ?_
    rw [rp, List.length_replicate, Nat.zero_add, Nat.one_mul]
    exact Nat.pow_le_pow_right (by decide) (by omega)
theorem number_wp {ns : List Int} {a : Addr} {n : Nat} {t : Dk} {Q : D → Dk → Prop} {X : Str → Fds → Dk → Prop} (g : Gd ns a n t) (hc : n < 10000000000) (h : ∀ (p : Int) (t' : Dk), 0 ≤ p → p.natAbs < 10 ^ 390 → Gd ns a (n + 5) t' → Q (.int p) t') :
    oE (m__law_number [.at a] t) Q X := by
  have small : ∀ p : Int, 0 ≤ p → p < 10 ^ 7 → p.natAbs < 10 ^ 390 := fun p p0 p1 => Nat.lt_of_lt_of_le (show p.natAbs < 10 ^ 7 by omega) (Nat.pow_le_pow_right (by decide) (by decide))
  unfold m__law_number b__law_number
  simp
  refine take_wp g (by omega) (many_of (by decide) (by decide)) fun k t1 k0 k1 g1 => ?_
  unfold Nxt
  simp
  refine take_wp g1 (by omega) (many_of (by decide) (by decide)) fun p t2 p0 p1 g2 => ?_
  unfold Nxt
  simp
  have str1 : ∀ d : Int, 0 ≤ d → d < 9 → (1 + d).natAbs.log2 < 1920 := fun d d0 d1 => p10 (Nat.lt_of_lt_of_le (show (1 + d).natAbs < 10 ^ 7 by omega) (Nat.pow_le_pow_right (by decide) (by decide)))
  by_cases q1 : k = 1
  · right
    refine ⟨q1, by decide, ?_⟩
    refine take_wp g2 (by omega) (many_of (by decide) (by decide)) fun p t3 p0 p1 g3 => ?_
    subst q1
    unfold Nxt
    simp
    unfold Nxt
    simp
    unfold Nxt
    simp
    exact h _ _ p0 (small p p0 (by omega)) (g3.le (by omega))
  · left
    refine ⟨q1, ?_⟩
    unfold Nxt
    simp
    by_cases q2 : k = 2
    · right
      subst q2
      refine ⟨rfl, ?_⟩
      refine ⟨str1 p p0 p1, take_wp g2 (by omega) (many_of (by decide) (by decide)) fun r t3 r0 r1 g3 => ?_⟩
      obtain ⟨z, G, e1, e2, e3, e4⟩ := figs (d := 1 + p) (n := 1 + r) (by omega) (by omega) (by omega) (by omega)
      simp [e1, e2]
      unfold Nxt
      simp
      unfold Nxt
      simp
      exact h _ _ e3 e4 (g3.le (by omega))
    · left
      refine ⟨q2, ?_⟩
      unfold Nxt
      simp
      by_cases q3 : k = 3
      · right
        subst q3
        refine ⟨rfl, ?_⟩
        refine take_wp g2 (by omega) (many_of (by decide) (by decide)) fun w t3 w0 w1 g3 => ?_
        simp
        by_cases q4 : w = 0
        · right
          refine ⟨q4, ?_⟩
          refine ⟨str1 p p0 p1, take_wp g3 (by omega) (many_of (by decide) (by decide)) fun r t4 r0 r1 g4 => ?_⟩
          obtain ⟨z, G, e1, e2, e3, e4⟩ := figs (d := 1 + p) (n := 1 + r) (by omega) (by omega) (by omega) (by omega)
          simp [e1, e2]
          unfold Nxt
          simp
          exact h _ _ e3 e4 (g4.le (by omega))
        · left
          refine ⟨q4, ?_⟩
          unfold Nxt
          simp
          exact h _ _ p0 (small p p0 (by omega)) (g3.le (by omega))
      · left
        refine ⟨q3, ?_⟩
        unfold Nxt
        simp
        exact h _ _ p0 (small p p0 (by omega)) (g2.le (by omega))
theorem frOk_of {r : Rat} {n : Nat} (h : Sz n r) (hn : n ≤ 1330) : FrOk (r.num, (r.den : Int)) := by
  have b : (2 : Nat) ^ n ≤ 10 ^ 403 := Nat.le_trans (Nat.pow_le_pow_right (by decide) hn) (by decide +kernel)
  exact ⟨Nat.lt_of_lt_of_le h.nu b, by show ((r.den : Int)).natAbs < _; rw [Int.natAbs_natCast]; exact Nat.lt_of_lt_of_le h.de b⟩
theorem p390 {i : Int} (h : i.natAbs < 10 ^ 390) : i.natAbs < 2 ^ 1296 := Nat.lt_of_lt_of_le h (by decide +kernel)
theorem up2 {i : Int} {n m : Nat} (h : i.natAbs < 2 ^ n) (hm : n ≤ m) : i.natAbs < 2 ^ m := Nat.lt_of_lt_of_le h (Nat.pow_le_pow_right (by decide) hm)
theorem low2 {i : Int} {n : Nat} (h : i.natAbs < 2 ^ 40) (hn : 40 ≤ n) : i.natAbs < 2 ^ n := up2 h hn
theorem part_wp {ns : List Int} {a : Addr} {n : Nat} {t : Dk} {Q : D → Dk → Prop} {X : Str → Fds → Dk → Prop} (g : Gd ns a n t) (hc : n < 1000000000) (h : ∀ (r : Rat) (t' : Dk), Sz 1298 r → Gd ns a (n + 20) t' → Q (R r) t') :
    oE (m__law_part [.at a] t) Q X := by
  unfold m__law_part b__law_part
  simp
  refine take_wp g (by omega) (many_of (by decide) (by decide)) fun k t1 k0 k1 g1 => ?_
  unfold Nxt
  simp
  refine number_wp g1 (by omega) fun p t2 p0 p1 g2 => ?_
  unfold Nxt
  simp
  unfold Nxt
  simp
  have fin : ∀ (b : Int) (t3 : Dk) (m : Nat), 1 ≤ b → b.natAbs < 2 ^ 1297 → m ≤ n + 19 → Gd ns a m t3 → Nxt (sRet (eCall m__law_share [] (aCons (e2 dMulI (eVarW 2) (e2 dSub (eC (.int 1)) (e2 dMulI (eC (.int 2)) (eCallS m__law_take [] (aCons (eVar 0) (aCons (eC (.int 2)) aNil)))))) (aCons (eVar 3) aNil)))) [.val (.at a), .val (.int k), .val (.int p), .val (.int b)] t3
      { nx := fun _ t => Q .non t, rt := Q, ex := fun n fs _ t => X n fs t } := fun b t3 m b1 b2 hm g3 => by
    unfold Nxt
    simp
    refine take_wp g3 (by omega) (many_of (by decide) (by decide)) fun s t4 s0 s1 g4 => ?_
    simp
    have hs : s = 0 ∨ s = 1 := by omega
    have e : (p * (1 - 2 * s)).natAbs < 2 ^ 1297 := by
      rw [Int.natAbs_mul]
      have : (1 - 2 * s).natAbs = 1 := by omega
      rw [this, Nat.mul_one]
      exact up2 (p390 p1) (by decide)
    refine ⟨small_mul (a := 40) (b := 40) (by decide) (by omega) (by decide) (by decide) (by decide), small_mul (a := 1296) (b := 40) (p390 p1) (by omega) (by decide) (by decide) (by decide), ?_⟩
    rw [law_share_R (by omega) (up2 b2 (by decide))]
    exact h _ _ ((divInt_sz (by omega) e b2).le (by decide)) (g4.le (by omega))
  by_cases q0 : k = 0
  · right
    subst q0
    refine ⟨rfl, ?_⟩
    refine take_wp g2 (by omega) (many_of (by decide) (by decide)) fun s t3 s0 s1 g3 => ?_
    simp
    unfold Nxt
    simp
    exact fin _ _ _ (by omega) (low2 (by omega) (by decide)) (by omega) g3
  · left
    refine ⟨q0, ?_⟩
    unfold Nxt
    simp
    by_cases q1 : k = 1
    · right
      subst q1
      refine ⟨rfl, ?_⟩
      refine number_wp g2 (by omega) fun w t3 w0 w1 g3 => ?_
      simp
      refine fin _ _ _ (by omega) ?_ (by omega) g3
      have := p390 w1
      have p2 : (2 : Nat) ^ 1297 = 2 * 2 ^ 1296 := by rw [Nat.pow_succ, Nat.mul_comm]
      rw [p2]
      generalize (2 : Nat) ^ 1296 = B at *
      omega
    · left
      exact ⟨q1, fin _ _ _ (by decide) (low2 (by decide) (by decide)) (by omega) g2⟩
theorem letter71 {k : Int} (h0 : 0 ≤ k) (h1 : k < 26) : ∃ z, dIx (.str "qwertyuiopasdfghjklzxcvbnm") (.int k) = some (.str z) ∧ Nm 1 z := by
  obtain ⟨j, rfl⟩ : ∃ j : Nat, k = (j : Int) := ⟨k.toNat, by omega⟩
  have all : ∀ c ∈ ("qwertyuiopasdfghjklzxcvbnm" : Str).cps.toList, 97 ≤ c ∧ c ≤ 122 := by decide
  have hl : ("qwertyuiopasdfghjklzxcvbnm" : Str).cps.toList.length = 26 := by decide
  have hj : j < ("qwertyuiopasdfghjklzxcvbnm" : Str).cps.toList.length := by omega
  have e : atI ("qwertyuiopasdfghjklzxcvbnm" : Str).cps.toList (j : Int) = some (("qwertyuiopasdfghjklzxcvbnm" : Str).cps.toList[j]) := atI_nat (by rw [List.getElem?_eq_getElem hj])
  refine ⟨⟨#[("qwertyuiopasdfghjklzxcvbnm" : Str).cps.toList[j]]⟩, ?_, fun c hc => ?_, Nat.le_refl _⟩
  · show (if lim2 ("qwertyuiopasdfghjklzxcvbnm" : Str).length = true then (atI ("qwertyuiopasdfghjklzxcvbnm" : Str).cps.toList (j : Int)).map fun c => D.str ⟨#[c]⟩ else none) = _
    rw [if_pos (by decide), e]; rfl
  · simp at hc
    rw [hc]
    exact all _ (List.getElem_mem hj)
theorem names71 {ns : List Int} {a : Addr} {n : Nat} {t : Dk} {m : Int} {Q : D → Dk → Prop} {X : Str → Fds → Dk → Prop} (g : Gd ns a n t) (hc : n < 1000000000) (h0 : 0 ≤ m) (h1 : m ≤ 12) (h : ∀ (xs : List Str) (t' : Dk), xs.Nodup → (∀ x ∈ xs, Nm 12 x) → xs.length ≤ 12 → Gd ns a (n + 1000) t' → Q (.lst (xs.map D.str)) t') :
    oE (m__law_names [.at a, .int m] t) Q X := by
  unfold m__law_names b__law_names
  simp
  unfold Nxt
  simp
  unfold Nxt
  simp
  refine ⟨small_mul (a := 40) (b := 40) (by decide) (by omega) (by decide) (by decide) (by decide), by omega, ?_⟩
  have hlen : (rngD 0 (4 * m).toNat).length = (4 * m).toNat := by simp [rngD]
  obtain ⟨I, hI⟩ : ∃ I : List D → Rho → Dk → Prop, I = fun ds ρ t => ds.length ≤ 48 ∧ ∃ (xs : List Str) (s4 s5 s6 s7 : Slot), ρ = [.val (.at a), .val (.int m), .val (.str "qwertyuiopasdfghjklzxcvbnm"), .own (xs.map D.str), s4, s5, s6, s7] ∧ Slot.nown s7 ∧ xs.Nodup ∧ (∀ x ∈ xs, Nm 12 x) ∧ xs.length ≤ 12 ∧ Gd ns a (n + 20 * (48 - ds.length)) t := ⟨_, rfl⟩
  refine oS_loop I _ _ _ (by rw [hI]; exact ⟨by rw [hlen]; omega, [], _, _, _, _, rfl, rfl, List.nodup_nil, fun x hx => (nomatch hx), by simp, g.le (by omega)⟩) ?_ ?_
  · intro d ds ρ t h2
    rw [hI] at h2
    obtain ⟨hl, xs, s4, s5, s6, s7, rfl, n7, nd, hx, hxl, g5⟩ := h2
    rw [List.length_cons] at hl g5
    refine ⟨_, rfl, ?_⟩
    simp
    refine take_wp g5 (by omega) (many_of (by decide) (by decide)) fun k t1 k0 k1 g1 => ?_
    obtain ⟨z, ez, z0, z1⟩ : ∃ z : Int, atI [D.int 1, D.int 2, D.int 3, D.int 12] k = some (.int z) ∧ 1 ≤ z ∧ z ≤ 12 := by
      have : k = 0 ∨ k = 1 ∨ k = 2 ∨ k = 3 := by omega
      rcases this with rfl | rfl | rfl | rfl
      · exact ⟨1, rfl, by decide, by decide⟩
      · exact ⟨2, rfl, by decide, by decide⟩
      · exact ⟨3, rfl, by decide, by decide⟩
      · exact ⟨12, rfl, by decide, by decide⟩
    simp [ez]
    unfold Nxt
    simp
    have hl2 : (rngD 0 z.toNat).length = z.toNat := by simp [rngD]
    refine ⟨by omega, ⟨by rw [hl2]; omega, n7⟩, comp_wp (p := fun _ y => ∃ x, y = .str x ∧ Nm 1 x) (k := 1) (B := n + 20 * (48 - (ds.length + 1)) + 100) _ (fun d hd m t1 g1 hm => ⟨_, rfl, ?_⟩) _ t1 g1 (by rw [hl2]; omega) fun ys t' hys g' => ?_⟩
    · simp
      refine take_wp g1 (by omega) (many_of (by decide) (by decide)) fun r t2 r0 r1 g2 => ?_
      obtain ⟨x, e, hx⟩ := letter71 r0 r1
      exact ⟨_, e, ⟨x, rfl, hx⟩, g2⟩
    · obtain ⟨zs, rfl, hz, hzl⟩ := pw_nm hys
      rw [hl2] at hzl g'
      have hj := nm_join zs hz
      rw [hzl, Nat.one_mul] at hj
      simp only [join_ok hz (by omega), Option.some.injEq, exists_eq_left']
      generalize Txt.join "" zs = st at *
      replace hj := hj.mono (show z.toNat ≤ 12 by omega)
      have e : dNotIn (.str st) (.lst (xs.map D.str)) = some (.bl (!decide (st ∈ xs))) := by
        unfold dNotIn
        rw [inD_strs hj.ok fun y hy => (hx y hy).ok]; rfl
      unfold Nxt
      simp [e]
      rw [hI]
      have g6 : Gd ns a (n + 20 * (48 - ds.length)) t' := g'.le (by omega)
      have no : ds.length ≤ 48 ∧ ∃ (xs' : List Str) (s4 s5 s6 s7' : Slot), [Slot.val (.at a), .val (.int m), .val (.str "qwertyuiopasdfghjklzxcvbnm"), .own (xs.map D.str), .val d, .val (.int z), .val (.str st), s7] = [.val (.at a), .val (.int m), .val (.str "qwertyuiopasdfghjklzxcvbnm"), .own (xs'.map D.str), s4, s5, s6, s7'] ∧ Slot.nown s7' = true ∧ xs'.Nodup ∧ (∀ x ∈ xs', Nm 12 x) ∧ xs'.length ≤ 12 ∧ Gd ns a (n + 20 * (48 - ds.length)) t' := ⟨by omega, xs, _, _, _, _, rfl, n7, nd, hx, hxl, g6⟩
      by_cases hm : st ∈ xs
      · left
        exact ⟨hm, no⟩
      · right
        refine ⟨hm, ?_⟩
        by_cases hlt : (xs.length : Int) < m
        · right
          refine ⟨hlt, by omega, by omega, xs ++ [st], .val d, .val (.int z), .val (.str st), s7, by simp, n7, ?_, fun y hy => ?_, by simp; omega, g6⟩
          · rw [List.nodup_append]
            exact ⟨nd, by simp, fun y hy z hz => by simp at hz; subst hz; exact fun q => hm (q ▸ hy)⟩
          · rcases List.mem_append.mp hy with q | q
            · exact hx y q
            · rw [List.mem_singleton.mp q]; exact hj
        · left
          exact ⟨by omega, no⟩
  · intro ρ t h2
    rw [hI] at h2
    obtain ⟨hl, xs, s4, s5, s6, s7, rfl, n7, nd, hx, hxl, g5⟩ := h2
    unfold Nxt
    simp
    exact h xs t nd hx hxl (g5.le (by simp))
theorem zk_of {i : Int} (h : i.natAbs < 10 ^ 12) : Zk i := Nat.lt_of_lt_of_le h (Nat.pow_le_pow_right (by decide) (by decide))
theorem frs {i j : Int} (h : i.natAbs < 10 ^ 12) (h2 : j.natAbs < 10 ^ 12) : FrOk (i, j) := ⟨zk_of h, zk_of h2⟩
theorem shape71 {ns : List Int} {a : Addr} {n : Nat} {t : Dk} {Q : D → Dk → Prop} {X : Str → Fds → Dk → Prop} (g : Gd ns a n t) (hc : n < 1000000000) (h : ∀ (sh : List Fr) (t' : Dk), (∀ c ∈ sh, FrOk c) → sh.length ≤ 8 → Gd ns a (n + 10) t' → Q (.tup (sh.map prD)) t') :
    oE (m__law_shape [.at a] t) Q X := by
  unfold m__law_shape b__law_shape
  simp
  refine take_wp g (by omega) (many_of (by decide) (by decide)) fun k t1 k0 k1 g1 => ?_
  obtain ⟨z, ez, z0, z1⟩ : ∃ z : Int, atI [D.int 1, D.int 30, D.int 500000] k = some (.int z) ∧ 1 ≤ z ∧ z ≤ 500000 := by
    have : k = 0 ∨ k = 1 ∨ k = 2 := by omega
    rcases this with rfl | rfl | rfl
    · exact ⟨1, rfl, by decide, by decide⟩
    · exact ⟨30, rfl, by decide, by decide⟩
    · exact ⟨500000, rfl, by decide, by decide⟩
  simp [ez]
  unfold Nxt
  simp
  refine take_wp g1 (by omega) (many_of (by omega) (by omega)) fun wd t2 w0 w1 g2 => ?_
  simp
  unfold Nxt
  simp
  refine take_wp g2 (by omega) (many_of (by omega) (by omega)) fun hg t3 hg0 hg1 g3 => ?_
  simp
  unfold Nxt
  simp
  refine ⟨small_mul (a := 40) (b := 40) (by decide) (by omega) (by decide) (by decide) (by decide), take_wp g3 (by omega) (many_of (by omega) (by omega)) fun lo t4 lo0 lo1 g4 => ?_⟩
  simp
  unfold Nxt
  simp
  refine take_wp g4 (by omega) (many_of (by decide) (by decide)) fun kd t5 kd0 kd1 g5 => ?_
  unfold Nxt
  simp
  by_cases q0 : kd = 0
  · right
    refine ⟨q0, ?_⟩
    exact h [(0, lo - z), (1 + wd, lo - z), (1 + wd, lo - z + (1 + hg)), (0, lo - z + (1 + hg))] t5 (fun c hc => by
      simp at hc
      rcases hc with rfl | rfl | rfl | rfl <;> exact frs (by omega) (by omega)) (by simp) (g5.le (by omega))
  · left
    refine ⟨q0, ?_⟩
    unfold Nxt
    simp
    by_cases q1 : kd = 1
    · right
      refine ⟨q1, ?_⟩
      exact h [(-(1 + wd), lo - z), (0, lo - z - (1 + hg)), (1 + wd, lo - z)] t5 (fun c hc => by
        simp at hc
        rcases hc with rfl | rfl | rfl <;> exact frs (by omega) (by omega)) (by simp) (g5.le (by omega))
    · left
      refine ⟨q1, ?_⟩
      unfold Nxt
      simp
      refine ⟨small_div (b := 4) (by decide) (by decide) (by decide) (by decide), ?_⟩
      have f0 : (1 + wd).fdiv 9 = (1 + wd) / 9 := by rw [Int.fdiv_eq_ediv_of_nonneg _ (by decide)]
      rw [f0]
      obtain ⟨v, hv⟩ : ∃ v, v = (1 + wd) / 9 := ⟨_, rfl⟩
      rw [← hv]
      have v0 : 0 ≤ v := by omega
      have v1 : v ≤ 500001 := by omega
      unfold Nxt
      simp
      have mo : ∀ x : Int, x.natAbs < 2 ^ 10 → mulOk x (1 + v) = true := fun x hx => small_mul (a := 10) (b := 40) hx (by omega) (by decide) (by decide) (by decide)
      refine ⟨mo _ (by decide), mo _ (by decide), mo _ (by decide), mo _ (by decide), ?_⟩
      exact h [(-16 * (1 + v), 0), (-9 * (1 + v), -3), (-4 * (1 + v), -4), (0, -3), (0, 3), (-4 * (1 + v), 4), (-9 * (1 + v), 3)] t5 (fun c hc => by
        simp at hc
        rcases hc with rfl | rfl | rfl | rfl | rfl | rfl | rfl <;> exact frs (by omega) (by omega)) (by simp) (g5.le (by omega))
theorem low_pm {p q e : Int} (hq : 1 ≤ q) (he : e = 1 ∨ e = -1) : (Int.gcd p q : Int) * e ≠ 0 ∧ ((Int.gcd p q : Int) * e).natAbs ≤ q.natAbs ∧ (p.fdiv ((Int.gcd p q : Int) * e)).natAbs ≤ p.natAbs ∧ (q.fdiv ((Int.gcd p q : Int) * e)).natAbs ≤ q.natAbs := by
  obtain ⟨a', b', e1, e2, _, e4⟩ := gcd_parts p q (by omega)
  have hle : (Int.gcd p q : Int).natAbs ≤ q.natAbs := by
    have : Int.gcd p q ≤ q.natAbs := Int.gcd_le_natAbs_right _ (by omega)
    omega
  generalize (Int.gcd p q : Int) = G at *
  have nz : G * e ≠ 0 := by rcases he with rfl | rfl <;> omega
  have ee : e * e = 1 := by rcases he with rfl | rfl <;> rfl
  have na : e.natAbs = 1 := by rcases he with rfl | rfl <;> rfl
  have dv : ∀ x, (G * x).fdiv (G * e) = e * x := fun x => by
    have : G * x = (G * e) * (e * x) := by
      rw [Int.mul_assoc, ← Int.mul_assoc e e x, ee, Int.one_mul]
    rw [this, Int.mul_fdiv_cancel_left _ nz]
  have le : ∀ x, (e * x).natAbs ≤ (G * x).natAbs := fun x => by
    rw [Int.natAbs_mul, Int.natAbs_mul, na, Nat.one_mul]
    exact Nat.le_mul_of_pos_left _ (by omega)
  refine ⟨nz, by rw [Int.natAbs_mul, na, Nat.mul_one]; exact hle, ?_, ?_⟩
  · rw [e1, dv]; exact le _
  · rw [e2, dv]; exact le _
theorem zero_fr : FrOk (0, 1) := frs (by decide) (by decide)
theorem row71 {ns : List Int} {a : Addr} {n : Nat} {t : Dk} {x : Str} {far : Int} {Q : D → Dk → Prop} {X : Str → Fds → Dk → Prop} (hx : Nm 12 x) (f0 : 0 ≤ far) (f1 : far ≤ 100) (g : Gd ns a n t) (hc : n < 100000000) (h : ∀ (r : Rw) (t' : Dk), r.Ok → r.x = x → Gd ns a (n + 120) t' → Q r.row t') :
    oE (m__law_row [.at a, .str x, .int far] t) Q X := by
  unfold m__law_row b__law_row
  simp
  refine take_wp g (by omega) (many_of (by decide) (by decide)) fun k t1 k0 k1 g1 => ?_
  unfold Nxt
  simp
  refine shape71 g1 (by omega) fun sh t2 hsh hsl g2 => ?_
  unfold Nxt
  simp
  refine take_wp g2 (by omega) (many_of (by decide) (by decide)) fun b t3 b0 b1 g3 => ?_
  simp
  refine ⟨small_mul (a := 40) (b := 40) (by omega) (by decide) (by decide) (by decide) (by decide), ?_⟩
  obtain ⟨bn, hbn⟩ : ∃ bn, bn = 1 + b * 6 := ⟨_, rfl⟩
  rw [← hbn]
  have bn0 : 1 ≤ bn := by omega
  have bn1 : bn ≤ 13 := by omega
  unfold Nxt
  simp
  have m1 : (100000000 * far * bn).natAbs < 2 ^ 40 := by
    have e1 : 0 ≤ 100000000 * far := by omega
    have e2 : 100000000 * far * bn ≤ 10000000000 * 13 := Int.mul_le_mul (by omega) bn1 (by omega) (by decide)
    have e3 : 0 ≤ 100000000 * far * bn := Int.mul_nonneg e1 (by omega)
    omega
  refine ⟨by decide, small_mul (a := 40) (b := 40) (by decide) (by omega) (by decide) (by decide) (by decide), small_mul (a := 40) (b := 40) (by omega) (by omega) (by decide) (by decide) (by decide), take_wp g3 (by omega) (many_of (by decide) (by decide)) fun e t4 e0 e1 g4 => ?_⟩
  obtain ⟨pl, hpl⟩ : ∃ pl, pl = 100000000 * far * bn := ⟨_, rfl⟩
  rw [← hpl] at m1 ⊢
  simp
  have sx := divInt_sz (a := pl + e) (b := bn) (n := 50) (by omega) (by omega) (by omega)
  rw [law_share_R (by omega) (low2 (by omega) (by decide))]
  generalize Rat.divInt (pl + e) bn = px at *
  refine part_wp g4 (by omega) fun py t5 sy g5 => ?_
  have opx : FrOk (px.num, (px.den : Int)) := frOk_of sx (by decide)
  have opy : FrOk (py.num, (py.den : Int)) := frOk_of sy (by decide)
  unfold Nxt
  simp
  by_cases q0 : k = 0
  · right
    refine ⟨q0, ?_⟩
    exact h ⟨x, sh, 0, none, (px.num, px.den), (py.num, py.den), (0, 1), (0, 1)⟩ t5 ⟨hx, hsh, hsl, Int.le_refl 0, zk_of (i := 0) (by decide), fun p hp => (nomatch hp), fun _ => rfl, opx, opy, zero_fr, zero_fr⟩ rfl (g5.le (by omega))
  · left
    refine ⟨q0, ?_⟩
    unfold Nxt
    simp
    refine take_wp g5 (by omega) (many_of (by decide) (by decide)) fun w t6 w0 w1 g6 => ?_
    simp
    refine take_wp g6 (by omega) (many_of (by decide) (by decide)) fun i t7 i0 i1 g7 => ?_
    obtain ⟨m, em, m0, m1'⟩ : ∃ m : Int, atI [D.int 1, D.int (1 + w)] i = some (.int m) ∧ 1 ≤ m ∧ m ≤ 1000000 := by
      have : i = 0 ∨ i = 1 := by omega
      rcases this with rfl | rfl
      · exact ⟨1, rfl, by decide, by decide⟩
      · exact ⟨1 + w, rfl, by omega, by omega⟩
    simp [em]
    unfold Nxt
    simp
    refine part_wp g7 (by omega) fun vx t8 svx g8 => ?_
    have ovx : FrOk (vx.num, (vx.den : Int)) := frOk_of svx (by decide)
    unfold Nxt
    simp
    by_cases q1 : k = 1
    · right
      refine ⟨q1, ?_⟩
      refine part_wp g8 (by omega) fun vy t9 svy g9 => ?_
      have ovy : FrOk (vy.num, (vy.den : Int)) := frOk_of svy (by decide)
      exact h ⟨x, sh, m, none, (px.num, px.den), (py.num, py.den), (vx.num, vx.den), (vy.num, vy.den)⟩ t9 ⟨hx, hsh, hsl, by show 0 ≤ m; omega, zk_of (by show m.natAbs < _; omega), fun p hp => (nomatch hp), fun z => by have z : m = 0 := z; omega, opx, opy, ovx, ovy⟩ rfl (g9.le (by omega))
    · left
      refine ⟨q1, ?_⟩
      unfold Nxt
      simp
      refine take_wp g8 (by omega) (many_of (by decide) (by decide)) fun p t9 p0 p1 g9 => ?_
      simp
      unfold Nxt
      simp
      refine take_wp g9 (by omega) (many_of (by decide) (by decide)) fun q t10 q0 q1 g10 => ?_
      simp
      unfold Nxt
      simp [law_gcd_ok]
      refine take_wp g10 (by omega) (many_of (by decide) (by decide)) fun s t11 s0 s1 g11 => ?_
      simp
      have ho : (1 - 2 * s : Int) = 1 ∨ (1 - 2 * s : Int) = -1 := by omega
      obtain ⟨l1, l2, l3, l4⟩ := low_pm (p := p - 1000) (q := 1 + q) (by omega) ho
      have gl : (Int.gcd (p - 1000) (1 + q) : Int).natAbs < 2 ^ 40 := by
        have : Int.gcd (p - 1000) (1 + q) ≤ (1 + q).natAbs := Int.gcd_le_natAbs_right _ (by omega)
        omega
      refine ⟨small_mul (a := 40) (b := 40) (by decide) (by omega) (by decide) (by decide) (by decide), small_mul (a := 40) (b := 40) gl (by omega) (by decide) (by decide) (by decide), ?_⟩
      generalize (Int.gcd (p - 1000) (1 + q) : Int) * (1 - 2 * s) = by_ at *
      unfold Nxt
      simp
      refine ⟨small_div (b := 40) l1 (by omega) (by decide) (by decide), small_div (b := 40) l1 (by omega) (by decide) (by decide), ?_⟩
      generalize (p - 1000).fdiv by_ = u at *
      generalize (1 + q).fdiv by_ = v at *
      unfold Nxt
      simp
      have pr : ∀ u : Int, u.natAbs ≤ 1000001 → (u * vx.num).natAbs < 2 ^ 1320 := fun u hu => by
        rw [Int.natAbs_mul]
        have : u.natAbs * vx.num.natAbs < 2 ^ 21 * 2 ^ 1298 := Nat.mul_lt_mul_of_lt_of_lt (Nat.lt_of_le_of_lt hu (by decide)) svx.nu
        rw [← Nat.pow_add] at this
        exact Nat.lt_of_lt_of_le this (Nat.pow_le_pow_right (by decide) (by decide))
      have mo : ∀ u : Int, u.natAbs ≤ 1000001 → mulOk u vx.num = true := fun u hu => small_mul (a := 40) (b := 1298) (Nat.lt_of_le_of_lt hu (by decide)) svx.nu (by decide) (by decide) (by decide)
      have dn : ((vx.den : Int)) ≠ 0 := by have := vx.den_pos; omega
      have ds : ((vx.den : Int)).natAbs < 2 ^ 1320 := by rw [Int.natAbs_natCast]; exact Nat.lt_of_lt_of_le svx.de (Nat.pow_le_pow_right (by decide) (by decide))
      refine ⟨mo u (by omega), ?_⟩
      rw [law_share_R dn (up2 ds (by decide))]
      have s1 := divInt_sz (a := u * vx.num) (b := (vx.den : Int)) (n := 1320) dn (pr u (by omega)) ds
      generalize Rat.divInt (u * vx.num) (vx.den : Int) = wx at *
      simp
      refine ⟨mo v (by omega), ?_⟩
      rw [law_share_R dn (up2 ds (by decide))]
      have s2 := divInt_sz (a := v * vx.num) (b := (vx.den : Int)) (n := 1320) dn (pr v (by omega)) ds
      generalize Rat.divInt (v * vx.num) (vx.den : Int) = wy at *
      simp
      unfold Nxt
      simp
      exact h ⟨x, sh, m, some (u, v), (px.num, px.den), (py.num, py.den), (wx.num, wx.den), (wy.num, wy.den)⟩ t11 ⟨hx, hsh, hsl, by show 0 ≤ m; omega, zk_of (by show m.natAbs < _; omega), fun p hp => by cases hp; exact frs (by omega) (by omega), fun z => by have z : m = 0 := z; omega, opx, opy, frOk_of s1 (by decide), frOk_of s2 (by decide)⟩ rfl (g11.le (by omega))
theorem join_le (a : Str) : ∀ ys : List Str, (Txt.join a ys).length ≤ (ys.map (·.length)).sum + ys.length * a.length := fun ys => by
  rw [TL.join_eq]
  have key : ∀ ys : List Str, (TL.joinL (TL.tl a) (ys.map TL.tl)).length ≤ (ys.map (·.length)).sum + ys.length * a.length := by
    intro ys
    induction ys with
    | nil => simp [TL.joinL]
    | cons y r ih =>
      cases r with
      | nil =>
        show (TL.tl y).length ≤ _
        have : (TL.tl y).length = y.length := (str_len y).symm
        rw [this]
        simp
      | cons z r =>
        show (TL.tl y ++ (TL.tl a ++ TL.joinL (TL.tl a) ((z :: r).map TL.tl))).length ≤ _
        have e1 : (TL.tl y).length = y.length := (str_len y).symm
        have e2 : (TL.tl a).length = a.length := (str_len a).symm
        rw [List.length_append, List.length_append, e1, e2]
        show _ ≤ (y.length :: (z :: r).map (·.length)).sum + ((z :: r).length + 1) * a.length
        rw [List.sum_cons, Nat.succ_mul]
        generalize (TL.joinL (TL.tl a) ((z :: r).map TL.tl)).length = u at *
        generalize (List.map (·.length) (z :: r)).sum = v at *
        generalize (z :: r).length * a.length = w at *
        omega
  have := key ys
  rw [← TL.tl_join] at this
  rw [str_len]
  exact this
theorem sum_le {B : Nat} : ∀ {ys : List Str}, (∀ y ∈ ys, y.length ≤ B) → (ys.map (·.length)).sum ≤ ys.length * B
  | [], _ => by simp
  | y :: ys, h => by
    have ih := sum_le (ys := ys) fun z hz => h z (List.mem_cons_of_mem _ hz)
    have := h y List.mem_cons_self
    rw [List.map_cons, List.sum_cons, List.length_cons, Nat.succ_mul]
    omega
theorem join_str {a : Str} {ys : List Str} {B N : Nat} (hB : ∀ y ∈ ys, y.length ≤ B) (hn : ys.length ≤ N) (ha : a.length ≤ 1) (h : N * (B + 1) ≤ 16777216) : dJoin a (.lst (ys.map .str)) = some (.str (Txt.join a ys)) ∧ (Txt.join a ys).length ≤ N * (B + 1) := by
  have s := sum_le hB
  have h1 : ys.length * a.length ≤ ys.length * 1 := Nat.mul_le_mul_left _ ha
  have h2 : ys.length * (B + 1) ≤ N * (B + 1) := Nat.mul_le_mul_right _ hn
  rw [Nat.mul_add] at h2
  refine ⟨?_, Nat.le_trans (join_le a ys) (by omega)⟩
  show (strsD (ys.map D.str)).bind _ = _
  rw [strsD_map, Option.bind_some, if_pos (show joinOk a ys = true from decide_eq_true (by omega))]
theorem words_len {r : Rw} (o : r.Ok) : (∀ y ∈ r.words, y.length ≤ 809) ∧ r.words.length ≤ 17 := by
  have t1 : ∀ {p : Fr}, FrOk p → (frT p).length ≤ 809 := fun h => txt_len h.1 h.2
  have c1 : ∀ y ∈ r.sh.map corT, y.length ≤ 809 := fun y hy => by
    obtain ⟨c, hc, rfl⟩ := List.mem_map.mp hy
    exact corT_len (o.sh c hc)
  have x1 : r.x.length ≤ 809 := Nat.le_trans o.x.le (by decide)
  have m1 : (strOf r.m).length ≤ 809 := Nat.le_trans (strOf_len o.m) (by decide)
  have w1 : ("wall" : Str).length ≤ 809 := by decide
  have w2 : ("free" : Str).length ≤ 809 := by decide
  have w3 : ("rail" : Str).length ≤ 809 := by decide
  have hl := o.shl
  unfold Rw.words
  split
  · refine ⟨fun y hy => ?_, by simp; omega⟩
    simp only [List.cons_append, List.nil_append, List.mem_cons] at hy
    rcases hy with rfl | rfl | rfl | rfl | hy <;> first | assumption | exact t1 o.px | exact t1 o.py | exact c1 _ hy
  · split
    · refine ⟨fun y hy => ?_, by simp; omega⟩
      simp only [List.cons_append, List.nil_append, List.mem_cons] at hy
      rcases hy with rfl | rfl | rfl | rfl | rfl | rfl | rfl | hy <;> first | assumption | exact t1 o.px | exact t1 o.py | exact t1 o.vx | exact t1 o.vy | exact c1 _ hy
    · rename_i p hp
      have hq := o.rl p hp
      have p1 : (strOf p.1).length ≤ 809 := Nat.le_trans (strOf_len hq.1) (by decide)
      have p2 : (strOf p.2).length ≤ 809 := Nat.le_trans (strOf_len hq.2) (by decide)
      refine ⟨fun y hy => ?_, by simp; omega⟩
      simp only [List.cons_append, List.nil_append, List.mem_cons] at hy
      rcases hy with rfl | rfl | rfl | rfl | rfl | rfl | rfl | rfl | rfl | hy <;> first | assumption | exact t1 o.px | exact t1 o.py | exact t1 o.vx | exact t1 o.vy | exact c1 _ hy
def Rw.line (r : Rw) : Str := Txt.join " " r.words
theorem line_ok {r : Rw} (o : r.Ok) : dJoin " " (.lst (r.words.map .str)) = some (.str r.line) ∧ r.line.length ≤ 17 * 810 :=
  join_str (words_len o).1 (words_len o).2 (by decide) (by decide)
def Rw.cn (r : Rw) : Str := if r.m = 0 then "Wall" else if r.rl = none then "Free" else "Railed"
def Rw.ob (r : Rw) : D := .obj r.cn ["row", "name", "mass"] [r.row, .str r.x, .int r.m]
theorem body_of_ok (r : Rw) : m_body_of [r.row] () = .ok r.ob () := by
  have i2 : dIx r.row (.int 2) = some (.int r.m) := rfl
  have i3 : dIx r.row (.int 3) = some (rlD r.rl) := rfl
  have nn : dIs .non .non = some (.bl true) := rfl
  have tn : ∀ p : Fr, dIs (prD p) .non = some (.bl false) := fun p => rfl
  have ini : initD "row" "name" "mass" 0 2 [r.row] = some (([("row":Str), "name", "mass"] : List Str), [r.row, .str r.x, .int r.m]) := rfl
  apply oE_eq
  unfold m_body_of b_body_of Rw.ob Rw.cn
  by_cases h0 : r.m = 0
  · simp [i2, h0]
    rw [ini, h0]
  · simp [i2, h0]
    unfold Nxt
    cases hr : r.rl with
    | none =>
      simp [i3, hr, rlD, nn]
      exact ini
    | some p =>
      simp [i3, hr, rlD, tn]
      unfold Nxt
      simp
      exact ini
theorem strs_ok {r : Rw} (o : r.Ok) : m_Wall____str__ [r.ob] () = .ok (.str r.line) () ∧ m_Free____str__ [r.ob] () = .ok (.str r.line) () ∧ m_Railed____str__ [r.ob] () = .ok (.str r.line) () := by
  have f : eFld ["Body", "Wall", "Free", "Railed"] "row" r.ob = some r.row := by
    unfold Rw.ob Rw.cn
    split
    · rfl
    · split <;> rfl
  have hj := (line_ok o).1
  refine ⟨oE_eq ?_, oE_eq ?_, oE_eq ?_⟩
  · unfold m_Wall____str__ b_Wall____str__
    simp [f, body_words_ok o, hj]
  · unfold m_Free____str__ b_Free____str__
    simp [f, body_words_ok o, hj]
  · unfold m_Railed____str__ b_Railed____str__
    simp [f, body_words_ok o, hj]
theorem strO_wp {τ : Type} [Sto τ] {tbl : List (Str × (List D → Unit → Res Unit D))} {mo : ME τ D} {ρ : Rho} {t : τ} {Q : D → τ → Prop} {X : Str → Fds → τ → Prop} {C : Str} {ns : List Str} {vs : List D} {mf : List D → Unit → Res Unit D} {s : Str} {t' : τ}
    (h : mo ρ t = .ok (.obj C ns vs) t') (hl : tbl.lookup C = some mf) (hm : mf [.obj C ns vs] () = .ok (.str s) ()) (q : Q (.str s) t') : oE (eStrO tbl mo ρ t) Q X := by
  unfold eStrO
  rw [h]
  simp only [Res.bind, hl, hm]
  exact q
theorem str_row {ρ : Rho} {t : Dk} {Q : D → Dk → Prop} {X : Str → Fds → Dk → Prop} {r : Rw} (o : r.Ok) (h : ρ[5]? = some (.val r.row)) (q : Q (.str r.line) t) :
    oE (eStrO [("Body", m_Body____str__), ("Wall", m_Wall____str__), ("Free", m_Free____str__), ("Railed", m_Railed____str__)] (eCall m_body_of [] (aCons (eVar 5) aNil)) ρ t) Q X := by
  have e : (eCall m_body_of [] (aCons (eVar 5) aNil) : ME Dk D) ρ t = .ok r.ob t := by
    apply oE_eq
    simp [h, body_of_ok]
  have S := strs_ok o
  unfold Rw.ob at e S
  unfold Rw.cn at e S
  by_cases h0 : r.m = 0
  · rw [if_pos h0] at e S
    exact strO_wp e rfl S.1 q
  · rw [if_neg h0] at e S
    by_cases h1 : r.rl = none
    · rw [if_pos h1] at e S
      exact strO_wp e rfl S.2.1 q
    · rw [if_neg h1] at e S
      exact strO_wp e rfl S.2.2 q
structure Stt where
  dx : Fr
  dy : Fr
  g : Fr
  c : Fr
  rs : List Rw
def Stt.d (s : Stt) : D := .tup [.tup [prD s.dx, prD s.dy], prD s.g, prD s.c, .tup (s.rs.map Rw.row)]
structure Stt.Ok (s : Stt) : Prop where
  dx : FrOk s.dx
  dy : FrOk s.dy
  g : FrOk s.g
  c : FrOk s.c
  rs : ∀ r ∈ s.rs, r.Ok
  len : s.rs.length ≤ 12
def Stt.head (s : Stt) : List Str := [("world" : Str), frT s.dx, frT s.dy, frT s.g, frT s.c]
def Stt.lines (s : Stt) : List Str := Txt.join " " s.head :: s.rs.map Rw.line
def Stt.text (s : Stt) : Str := Txt.join "\n" s.lines
theorem head_ok {s : Stt} (o : s.Ok) : dJoin " " (.lst (s.head.map .str)) = some (.str (Txt.join " " s.head)) ∧ (Txt.join " " s.head).length ≤ 17 * 810 := by
  have t1 : ∀ {p : Fr}, FrOk p → (frT p).length ≤ 809 := fun h => txt_len h.1 h.2
  refine join_str (B := 809) (fun y hy => ?_) (show 5 ≤ 17 by decide) (by decide) (by decide)
  have w1 : ("world" : Str).length ≤ 809 := by decide
  unfold Stt.head at hy
  simp only [List.mem_cons, List.not_mem_nil, or_false] at hy
  rcases hy with rfl | rfl | rfl | rfl | rfl
  · exact w1
  · exact t1 o.dx
  · exact t1 o.dy
  · exact t1 o.g
  · exact t1 o.c
theorem text_join {s : Stt} (o : s.Ok) : dJoin "\n" (.lst (s.lines.map .str)) = some (.str s.text) := by
  refine (join_str (B := 17 * 810) (N := 13) (fun y hy => ?_) ?_ (by decide) (by decide)).1
  · unfold Stt.lines at hy
    rcases List.mem_cons.mp hy with rfl | hy
    · exact (head_ok o).2
    · obtain ⟨r, hr, rfl⟩ := List.mem_map.mp hy
      exact (line_ok (o.rs r hr)).2
  · unfold Stt.lines
    have := o.len
    simp
    omega
theorem each_ok {s : Stt} (o : s.Ok) : ∀ ws ∈ s.head :: s.rs.map Rw.words, dJoin " " (.lst (ws.map .str)) = some (.str (Txt.join " " ws)) := fun ws h => by
  rcases List.mem_cons.mp h with rfl | h
  · exact (head_ok o).1
  · obtain ⟨r, hr, rfl⟩ := List.mem_map.mp h
    exact (line_ok (o.rs r hr)).1
theorem each_map {s : Stt} : (s.head :: s.rs.map Rw.words).map (fun ws => D.str (Txt.join " " ws)) = s.lines.map .str := by
  unfold Stt.lines Rw.line
  simp
theorem each_lst {s : Stt} : D.lst [.str "world", .str (frT s.dx), .str (frT s.dy), .str (frT s.g), .str (frT s.c)] :: s.rs.map (fun r => D.lst (r.words.map .str)) = (s.head :: s.rs.map Rw.words).map fun ws => D.lst (ws.map .str) := by
  simp [Stt.head]
theorem lines_ok {s : Stt} (o : s.Ok) : m__law_lines [s.d] () = .ok (.lst (s.lines.map .str)) () := by
  have hl := o.len
  have i0 : atI [prD s.dx, prD s.dy] 0 = some (prD s.dx) := rfl
  have i1 : atI [prD s.dx, prD s.dy] 1 = some (prD s.dy) := rfl
  apply oE_eq
  unfold m__law_lines b__law_lines
  simp [Stt.d]
  unfold Nxt
  simp [i0, i1]
  refine comp_map (α := Fr) (xs := [s.dx, s.dy, s.g, s.c]) (enc := prD) (f := fun p => .str (frT p)) (fun x hx => ⟨_, rfl, ?_⟩) ?_
  · have : FrOk x := by
      simp only [List.mem_cons, List.not_mem_nil, or_false] at hx
      rcases hx with rfl | rfl | rfl | rfl
      · exact o.dx
      · exact o.dy
      · exact o.g
      · exact o.c
    simp [wipeR, law_word_fr this]
  · simp
    unfold Nxt
    simp
    refine ⟨by omega, comp_map (α := Rw) (enc := Rw.row) (f := fun r => .lst (r.words.map .str)) (fun r hr => ⟨_, rfl, ?_⟩) ?_⟩
    · simp [wipeR, law_words_ok (o.rs r hr)]
    · rw [each_lst]
      refine ⟨by simp; omega, comp_map (α := List Str) (enc := fun ws => D.lst (ws.map .str)) (f := fun ws => .str (Txt.join " " ws)) (fun ws hw => ⟨_, rfl, ?_⟩) each_map⟩
      simp [wipeR, each_ok o ws hw]
theorem state_text_ok {s : Stt} (o : s.Ok) : m_state_text [s.d] () = .ok (.str s.text) () := by
  have hl := o.len
  apply oE_eq
  unfold m_state_text b_state_text
  simp [Stt.d]
  unfold Nxt
  simp [spot_words_ok o.dx o.dy, share_text_fr o.g, share_text_fr o.c]
  unfold Nxt
  simp
  refine ⟨by omega, comp_map (α := Rw) (enc := Rw.row) (f := fun r => .lst (r.words.map .str)) (fun r hr => ⟨_, rfl, ?_⟩) ?_⟩
  · simp [wipeR, body_words_ok (o.rs r hr)]
  · refine ⟨by simp; omega, ?_⟩
    have e := each_lst (s := s)
    unfold Nxt
    simp
    refine ⟨by omega, ?_⟩
    rw [e]
    refine comp_map (α := List Str) (enc := fun ws => D.lst (ws.map .str)) (f := fun ws => .str (Txt.join " " ws)) (fun ws hw => ⟨_, rfl, ?_⟩) ?_
    · simp [wipeR, each_ok o ws hw]
    · rw [each_map, text_join o]
theorem gd_row {r : Rw} (o : r.Ok) : gd 8 r.row = true := by
  have a1 : gd 7 (.str r.x) = true := o.x.ok
  have a2 : gd 7 (.tup (r.sh.map prD)) = true := by
    show (r.sh.map prD).all (gd 6) = true
    rw [List.all_eq_true]
    intro d hd
    obtain ⟨p, _, rfl⟩ := List.mem_map.mp hd
    rfl
  have a3 : gd 7 (rlD r.rl) = true := by cases r.rl <;> rfl
  show (gd 7 (.str r.x) && (gd 7 (.tup (r.sh.map prD)) && (gd 7 (.int r.m) && (gd 7 (rlD r.rl) && (gd 7 (.tup [prD r.px, prD r.py]) && (gd 7 (.tup [prD r.vx, prD r.vy]) && true)))))) = true
  rw [a1, a2, a3]
  rfl
theorem lift_rows {rs : List Rw} : ∀ zs : List D, (∀ z ∈ zs, z ∈ rs.map Rw.row) → ∃ qs : List Rw, zs = qs.map Rw.row ∧ ∀ q ∈ qs, q ∈ rs
  | [], _ => ⟨[], rfl, fun q hq => (nomatch hq)⟩
  | z :: zs, h => by
    obtain ⟨r, hr, e⟩ := List.mem_map.mp (h z List.mem_cons_self)
    obtain ⟨qs, e2, h2⟩ := lift_rows zs fun y hy => h y (List.mem_cons_of_mem _ hy)
    refine ⟨r :: qs, by rw [List.map_cons, e, e2], fun q hq => ?_⟩
    rcases List.mem_cons.mp hq with rfl | hq
    · exact hr
    · exact h2 q hq
theorem sort71 {rs : List Rw} (ok : ∀ r ∈ rs, r.Ok) (nd : (rs.map (·.x)).Nodup) : ∃ qs : List Rw, fSortD [.lst (rs.map Rw.row)] = some (qs.map Rw.row) ∧ (∀ q ∈ qs, q.Ok) ∧ qs.length = rs.length := by
  have inj : ∀ {rs : List Rw}, (rs.map (·.x)).Nodup → ∀ r ∈ rs, ∀ q ∈ rs, r.x = q.x → r = q := by
    intro rs nd
    induction rs with
    | nil => intro r hr; cases hr
    | cons a rs ih =>
      rw [List.map_cons, List.nodup_cons] at nd
      intro r hr q hq e
      rcases List.mem_cons.mp hr with hr1 | hr1
      · subst hr1
        rcases List.mem_cons.mp hq with hq1 | hq1
        · exact hq1.symm
        · exact absurd (by rw [e]; exact List.mem_map_of_mem (f := (·.x)) hq1) nd.1
      · rcases List.mem_cons.mp hq with hq1 | hq1
        · subst hq1
          exact absurd (by rw [← e]; exact List.mem_map_of_mem (f := (·.x)) hr1) nd.1
        · exact ih nd.2 r hr1 q hq1 e
  obtain ⟨zs, e, pm⟩ := sort_rows (ds := rs.map Rw.row) (fun d m => by
      obtain ⟨r, mr, rfl⟩ := List.mem_map.mp m
      exact ⟨gd_row (ok r mr), r.x, _, rfl⟩) (fun d m d' m' x n1 n2 => by
      obtain ⟨r, mr, rfl⟩ := List.mem_map.mp m
      obtain ⟨q, mq, rfl⟩ := List.mem_map.mp m'
      obtain ⟨u, e1⟩ := n1
      obtain ⟨v, e2⟩ := n2
      have h1 : r.x = x := by unfold Rw.row at e1; cases e1; rfl
      have h2 : q.x = x := by unfold Rw.row at e2; cases e2; rfl
      rw [inj nd r mr q mq (h1.trans h2.symm)])
  obtain ⟨qs, rfl, hq⟩ := lift_rows zs fun z hz => pm.mem_iff.mp hz
  refine ⟨qs, e, fun q m => ok q (hq q m), ?_⟩
  have := pm.length_eq
  rw [List.length_map, List.length_map] at this
  exact this
theorem enum_str (xs : List Str) : enumD (xs.map D.str) = (xs.mapIdx fun i x => (i, x)).map fun p : Nat × Str => D.tup [.int (p.1 : Int), .str p.2] := by
  unfold enumD
  apply List.ext_getElem?
  intro i
  simp only [List.getElem?_mapIdx, List.getElem?_map]
  cases xs[i]? <;> rfl
theorem state_wp {ns : List Int} {a : Addr} {n : Nat} {t : Dk} {m : Int} {Q : D → Dk → Prop} {X : Str → Fds → Dk → Prop} (m0 : 0 ≤ m) (m1 : m ≤ 12) (g : Gd ns a n t) (hc : n < 10000000) (h : ∀ (s : Stt) (t' : Dk), s.Ok → Gd ns a (n + 5000) t' → Q s.d t') :
    oE (m__law_state [.at a, .int m] t) Q X := by
  unfold m__law_state b__law_state
  simp
  refine part_wp g (by omega) fun dx t1 sdx g1 => ?_
  refine part_wp g1 (by omega) fun dy t2 sdy g2 => ?_
  unfold Nxt
  simp
  refine take_wp g2 (by omega) (many_of (by decide) (by decide)) fun b t3 b0 b1 g3 => ?_
  simp
  unfold Nxt
  simp
  refine take_wp g3 (by omega) (many_of (by omega) (by omega)) fun w t4 w0 w1 g4 => ?_
  have sg := divInt_sz (a := w) (b := 1 + b) (n := 50) (by omega) (by omega) (by omega)
  rw [law_share_R (by omega) (low2 (by omega) (by decide))]
  generalize Rat.divInt w (1 + b) = gv at *
  simp
  unfold Nxt
  simp
  refine part_wp g4 (by omega) fun c t5 sc g5 => ?_
  unfold Nxt
  simp
  unfold Nxt
  simp
  refine names71 g5 (by omega) m0 m1 fun xs t6 nd hx hxl g6 => ?_
  simp
  rw [enum_str]
  obtain ⟨L, hL⟩ : ∃ L, L = xs.mapIdx fun i x => (i, x) := ⟨_, rfl⟩
  rw [← hL]
  have Lm : L.map (·.2) = xs := by
    rw [hL]
    apply List.ext_getElem?
    intro i
    simp only [List.getElem?_mapIdx, List.getElem?_map]
    cases xs[i]? <;> rfl
  have Ll : L.length = xs.length := by rw [hL, List.length_mapIdx]
  have Le : ∀ p ∈ L, p.1 < 12 ∧ p.2 ∈ xs := fun p hp => by
    rw [hL, List.mem_mapIdx] at hp
    obtain ⟨i, hi, rfl⟩ := hp
    exact ⟨by show i < 12; omega, List.getElem_mem hi⟩
  obtain ⟨I, hI⟩ : ∃ I : List (Nat × Str) → List (Nat × Str) → Rho → Dk → Prop, I = fun dn td ρ t => ∃ (rs : List Rw) (s7 s8 : Slot), ρ = [.val (.at a), .val (.int m), .val (.tup [R dx, R dy]), .val (.int (1 + b)), .val (R gv), .val (R c), .own (rs.map Rw.row), s7, s8] ∧ rs.map (·.x) = dn.map (·.2) ∧ (∀ r ∈ rs, r.Ok) ∧ Gd ns a (n + 1200 + 120 * dn.length) t := ⟨_, rfl⟩
  refine oS_loopE I L (by rw [hI]; exact ⟨[], _, _, rfl, rfl, fun r hr => (nomatch hr), g6.le (by simp only [List.length_nil]; omega)⟩) ?_ ?_
  · intro dn x td ρ t eL h2
    rw [hI] at h2
    obtain ⟨rs, s7, s8, rfl, e1, e2, g7⟩ := h2
    have hxm := Le x (by rw [eL]; simp)
    have dl : dn.length ≤ 12 := by
      have := congrArg List.length eL
      rw [Ll, List.length_append] at this
      omega
    have rl : rs.length = dn.length := by have := congrArg List.length e1; simpa using this
    refine ⟨_, rfl, ?_⟩
    simp
    refine row71 (hx _ hxm.2) (by omega) (by omega) g7 (by omega) fun r t8 or er g8 => ?_
    refine ⟨by omega, ?_⟩
    rw [hI]
    refine ⟨rs ++ [r], .val (.int x.1), .val (.str x.2), by simp, by simp [e1, er], fun q hq => ?_, g8.le (by simp; omega)⟩
    rcases List.mem_append.mp hq with hq | hq
    · exact e2 q hq
    · rw [List.mem_singleton.mp hq]; exact or
  · intro ρ t h2
    rw [hI] at h2
    obtain ⟨rs, s7, s8, rfl, e1, e2, g7⟩ := h2
    rw [Lm] at e1
    obtain ⟨qs, eq, oq, lq⟩ := sort71 e2 (by rw [e1]; exact nd)
    have rl : rs.length = xs.length := by have := congrArg List.length e1; simpa using this
    unfold Nxt
    simp [eq]
    refine h ⟨(dx.num, dx.den), (dy.num, dy.den), (gv.num, gv.den), ((c.num.natAbs : Int), (c.den : Int)), qs⟩ t ⟨frOk_of sdx (by decide), frOk_of sdy (by decide), frOk_of sg (by decide), ?_, oq, by show qs.length ≤ 12; omega⟩ (g7.le (by omega))
    have := frOk_of sc (by decide)
    exact ⟨by show ((c.num.natAbs : Int)).natAbs < _; rw [Int.natAbs_natCast]; exact this.1, this.2⟩

-- opts: dund=__str__ ## kinds=law|str(body_of(_law_row_here))|o;law|zip(_law_state_here[3], _law_lines_here[1:])|w;_law_number|str(1 + _law_number_here) * (1 + _law_take(_law_deck_here, 39))|s1;_law_number|str(1 + _law_number_here) * (1 + _law_take(_law_deck_here, 390))|s1;_law_state|sorted(_law_rows)|d;law|_law_found != _law_line|z;law|_law_found != '\n'.join(_law_lines_here)|z;law|state_text(_law_fewer) == '\n'.join(_law_lines_here[:1] + _law_lines_here[2:])|z;law|state_text(_law_state_here) == _law_found|z ## cut=a
theorem cut_lo71 (xs : List D) (k : Nat) : cutD xs (some (k : Int)) none = xs.drop k := by
  unfold cutD
  rw [HT.sIx_nat, HT.sIx_none]
  by_cases h : k ≤ xs.length
  · rw [Nat.min_eq_left h, List.take_of_length_le (by simp)]
  · rw [Nat.min_eq_right (by omega), List.drop_of_length_le (by omega), List.drop_of_length_le (by omega)]
    simp
theorem cut_hi71 (xs : List D) (k : Nat) : cutD xs none (some (k : Int)) = xs.take k := by
  unfold cutD
  rw [HT.sIx_none, HT.sIx_nat, List.drop_zero, Nat.sub_zero]
  by_cases h : k ≤ xs.length
  · rw [Nat.min_eq_left h]
  · rw [Nat.min_eq_right (by omega), List.take_of_length_le (by omega), List.take_of_length_le (by omega)]
theorem zip71 (rs : List Rw) : zipD (rs.map Rw.row) (rs.map fun r => D.str r.line) = rs.map fun r => D.tup [r.row, .str r.line] := by
  unfold zipD
  induction rs with
  | nil => rfl
  | cons r rs ih => rw [List.map_cons, List.map_cons, List.map_cons, List.zipWith_cons_cons, ih]
theorem law_good (ns : List Int) (hl : ns.length ≤ 63) (hb : ∀ z ∈ ns, Builtin.Int.intBits z ≤ 1048576) : lawIs 9 m__law_deck b_law ns := by
  obtain ⟨big, eb⟩ := deck_ok ns hl
  refine ⟨_, big, eb, fun a b => ?_⟩
  have key : oS (b_law ((Slot.val (.scr ns) :: List.replicate (9 - 1) .no).set 1 (.val (.at a))) ⟨a, b, .scr ns, big, 0, 0⟩) { nx := fun _ _ => False, rt := fun d _ => d = .bl true } := by
    unfold b_law
    simp
    refine take_wp (ns := ns) (a := a) (n := 0) ⟨rfl, rfl, Nat.le_refl _⟩ (by decide) (many_of (by decide) (by decide)) fun x t1 x0 x1 g1 => ?_
    refine take_wp g1 (by decide) (many_of (by decide) (by decide)) fun y t2 y0 y1 g2 => ?_
    refine take_wp g2 (by decide) (many_of (by decide) (by decide)) fun k t3 k0 k1 g3 => ?_
    obtain ⟨m, em, m0, m1⟩ : ∃ m : Int, atI [D.int 0, .int 1, .int 2, .int 12, .int x, .int y] k = some (.int m) ∧ 0 ≤ m ∧ m ≤ 12 := by
      have : k = 0 ∨ k = 1 ∨ k = 2 ∨ k = 3 ∨ k = 4 ∨ k = 5 := by omega
      rcases this with rfl | rfl | rfl | rfl | rfl | rfl
      · exact ⟨0, rfl, by decide, by decide⟩
      · exact ⟨1, rfl, by decide, by decide⟩
      · exact ⟨2, rfl, by decide, by decide⟩
      · exact ⟨12, rfl, by decide, by decide⟩
      · exact ⟨x, rfl, by omega, by omega⟩
      · exact ⟨y, rfl, by omega, by omega⟩
    simp [em]
    unfold Nxt
    simp
    refine state_wp m0 m1 g3 (by decide) fun s t4 os g4 => ?_
    unfold Nxt
    simp [lines_ok os]
    have lk : ∀ (A B : Str), A = B → dNeSS (.str A) (.str B) = some (.bl false) := fun A B e => by subst e; show some (D.bl (A.cps.toList != A.cps.toList)) = _; simp
    have le : ∀ (A B : Str), A = B → dEqSS (.str A) (.str B) = some (.bl true) := fun A B e => by subst e; show some (D.bl (A.cps.toList == A.cps.toList)) = _; simp
    have isS : ∀ A : Str, fIsi [.str A, .ty "str"] = some (.bl true) := fun A => rfl
    have e3 : dIx s.d (.int 3) = some (.tup (s.rs.map Rw.row)) := rfl
    have ec : cutD (s.lines.map D.str) (some 1) none = s.rs.map fun r => D.str r.line := by
      rw [show (1 : Int) = ((1 : Nat) : Int) from rfl, cut_lo71]
      unfold Stt.lines
      simp [Function.comp_def]
    unfold Nxt
    simp [e3, ec, zip71]
    obtain ⟨I, hI⟩ : ∃ I : List Rw → List Rw → Rho → Dk → Prop, I = fun dn td ρ t => ∃ (s5 s6 s7 : Slot), ρ = [.val (.scr ns), .val (.at a), .val (.int m), .val s.d, .val (.lst (s.lines.map D.str)), s5, s6, s7, .no] := ⟨_, rfl⟩
    refine oS_loopE I s.rs (by rw [hI]; exact ⟨_, _, _, rfl⟩) ?_ ?_
    · intro dn r td ρ t eL h2
      rw [hI] at h2
      obtain ⟨s5, s6, s7, rfl⟩ := h2
      have or : r.Ok := os.rs r (by rw [eL]; simp)
      refine ⟨_, rfl, ?_⟩
      simp
      refine str_row or rfl ?_
      unfold Nxt
      simp [isS, lk r.line r.line rfl]
      rw [hI]
      exact ⟨_, _, _, rfl⟩
    · intro ρ t h2
      rw [hI] at h2
      obtain ⟨s5, s6, s7, rfl⟩ := h2
      have oq : (⟨s.dx, s.dy, s.g, s.c, s.rs.drop 1⟩ : Stt).Ok := ⟨os.dx, os.dy, os.g, os.c, fun r hr => os.rs r (List.mem_of_mem_drop hr), by have := os.len; show (s.rs.drop 1).length ≤ 12; rw [List.length_drop]; omega⟩
      have c1 : cutD (s.rs.map Rw.row) (some 1) none = (s.rs.drop 1).map Rw.row := by
        rw [show (1 : Int) = ((1 : Nat) : Int) from rfl, cut_lo71, List.map_drop]
      have c2 : dCutA s.d none (some 3) = some (.tup [.tup [prD s.dx, prD s.dy], prD s.g, prD s.c]) := by
        show some (D.tup (cutD _ none (some ((3 : Nat) : Int)))) = _
        rw [cut_hi71]
        rfl
      have c3 : cutD (s.lines.map D.str) none (some 1) = [.str (Txt.join " " s.head)] := by
        rw [show (1 : Int) = ((1 : Nat) : Int) from rfl, cut_hi71]
        rfl
      have c4 : cutD (s.lines.map D.str) (some 2) none = (s.rs.drop 1).map fun r => D.str r.line := by
        rw [show (2 : Int) = ((2 : Nat) : Int) from rfl, cut_lo71]
        unfold Stt.lines
        simp [Function.comp_def]
      unfold Nxt
      simp [state_text_ok os]
      unfold Nxt
      simp [isS, text_join os, lk s.text s.text rfl]
      unfold Nxt
      simp [c2, e3, c1]
      have e8 : D.tup [.tup [prD s.dx, prD s.dy], prD s.g, prD s.c, .tup (s.rs.map Rw.row).tail] = (⟨s.dx, s.dy, s.g, s.c, s.rs.drop 1⟩ : Stt).d := by
        unfold Stt.d
        simp
      rw [e8]
      have tj := text_join oq
      have sl : (s.rs.drop 1).length ≤ 12 := oq.len
      have ej : D.str (Txt.join " " s.head) :: (s.rs.drop 1).map (fun r => D.str r.line) = (⟨s.dx, s.dy, s.g, s.c, s.rs.drop 1⟩ : Stt).lines.map D.str := by
        unfold Stt.lines
        simp [Function.comp_def, Stt.head]
      unfold Nxt
      generalize hs' : (⟨s.dx, s.dy, s.g, s.c, s.rs.drop 1⟩ : Stt) = s' at *
      have ad : dAdd (.lst [.str (Txt.join " " s.head)]) (.lst ((s.rs.drop 1).map fun r => D.str r.line)) = some (.lst (s'.lines.map D.str)) := by
        rw [addL (by simp only [List.length_cons, List.length_nil, List.length_map]; omega), ← ej]
        rfl
      have et : (s.rs.map fun r => D.str r.line).tail = (s.rs.drop 1).map fun r => D.str r.line := by simp
      simp [state_text_ok oq, state_text_ok os, c3, c4, ad, tj, le s.text s.text rfl, le s'.text s'.text rfl]
      rw [et, ej]
      refine ⟨by have := os.len; omega, _, tj, _, le s'.text s'.text rfl, rfl⟩
  obtain ⟨d, t, e, rfl⟩ := oS_rtEx key
  exact ⟨t, e⟩

end MM

noncomputable section
namespace MM
open PySem PySem.Spec PyProof.Rows L2
structure Fx (K : Fg) (mg : Str → Option Value) : Prop where
  f__wall : ∃ fd, FunD K "_wall" "_wall" (defArgs (top 0)) (defBody (top 0)) (defScope (top 0)) [] [] (He.ga K "_wall") fd
  g__wall : mg "_wall" = some (.ref (He.ga K "_wall"))
  z_str : mg "str" = none
  f_share_text : ∃ fd, FunD K "share_text" "share_text" (defArgs (top 2)) (defBody (top 2)) (defScope (top 2)) [] [] (He.ga K "share_text") fd
  g_share_text : mg "share_text" = some (.ref (He.ga K "share_text"))
  f_spot_words : ∃ fd, FunD K "spot_words" "spot_words" (defArgs (top 4)) (defBody (top 4)) (defScope (top 4)) [] [] (He.ga K "spot_words") fd
  g_spot_words : mg "spot_words" = some (.ref (He.ga K "spot_words"))
  f_body_words : ∃ fd, FunD K "body_words" "body_words" (defArgs (top 5)) (defBody (top 5)) (defScope (top 5)) [] [] (He.ga K "body_words") fd
  g_body_words : mg "body_words" = some (.ref (He.ga K "body_words"))
  f_body_of : ∃ fd, FunD K "body_of" "body_of" (defArgs (top 10)) (defBody (top 10)) (defScope (top 10)) [] [] (He.ga K "body_of") fd
  g_body_of : mg "body_of" = some (.ref (He.ga K "body_of"))
  f_state_text : ∃ fd, FunD K "state_text" "state_text" (defArgs (top 12)) (defBody (top 12)) (defScope (top 12)) [] [] (He.ga K "state_text") fd
  g_state_text : mg "state_text" = some (.ref (He.ga K "state_text"))
  z_len : mg "len" = none
  z_abs : mg "abs" = none
  f__law_cell : ∃ fd, FunD K "_law_cell" "_law_cell" (defArgs (top 14)) (defBody (top 14)) (defScope (top 14)) [] [] (He.ga K "_law_cell") fd
  g__law_cell : mg "_law_cell" = some (.ref (He.ga K "_law_cell"))
  f__law_mixed : ∃ fd, FunD K "_law_mixed" "_law_mixed" (defArgs (top 15)) (defBody (top 15)) (defScope (top 15)) [] [] (He.ga K "_law_mixed") fd
  g__law_mixed : mg "_law_mixed" = some (.ref (He.ga K "_law_mixed"))
  f__law_deck : ∃ fd, FunD K "_law_deck" "_law_deck" (defArgs (top 16)) (defBody (top 16)) (defScope (top 16)) [] [] (He.ga K "_law_deck") fd
  g__law_deck : mg "_law_deck" = some (.ref (He.ga K "_law_deck"))
  f__law_take : ∃ fd, FunD K "_law_take" "_law_take" (defArgs (top 17)) (defBody (top 17)) (defScope (top 17)) [] [] (He.ga K "_law_take") fd
  g__law_take : mg "_law_take" = some (.ref (He.ga K "_law_take"))
  f__law_gcd : ∃ fd, FunD K "_law_gcd" "_law_gcd" (defArgs (top 18)) (defBody (top 18)) (defScope (top 18)) [] [] (He.ga K "_law_gcd") fd
  g__law_gcd : mg "_law_gcd" = some (.ref (He.ga K "_law_gcd"))
  f__law_share : ∃ fd, FunD K "_law_share" "_law_share" (defArgs (top 19)) (defBody (top 19)) (defScope (top 19)) [] [] (He.ga K "_law_share") fd
  g__law_share : mg "_law_share" = some (.ref (He.ga K "_law_share"))
  lim : NoLim K
  z_int : mg "int" = none
  f__law_number : ∃ fd, FunD K "_law_number" "_law_number" (defArgs (top 20)) (defBody (top 20)) (defScope (top 20)) [] [] (He.ga K "_law_number") fd
  g__law_number : mg "_law_number" = some (.ref (He.ga K "_law_number"))
  f__law_part : ∃ fd, FunD K "_law_part" "_law_part" (defArgs (top 21)) (defBody (top 21)) (defScope (top 21)) [] [] (He.ga K "_law_part") fd
  g__law_part : mg "_law_part" = some (.ref (He.ga K "_law_part"))
  z_range : mg "range" = none
  f__law_names : ∃ fd, FunD K "_law_names" "_law_names" (defArgs (top 22)) (defBody (top 22)) (defScope (top 22)) [] [] (He.ga K "_law_names") fd
  g__law_names : mg "_law_names" = some (.ref (He.ga K "_law_names"))
  f__law_shape : ∃ fd, FunD K "_law_shape" "_law_shape" (defArgs (top 23)) (defBody (top 23)) (defScope (top 23)) [] [] (He.ga K "_law_shape") fd
  g__law_shape : mg "_law_shape" = some (.ref (He.ga K "_law_shape"))
  f__law_row : ∃ fd, FunD K "_law_row" "_law_row" (defArgs (top 24)) (defBody (top 24)) (defScope (top 24)) [] [] (He.ga K "_law_row") fd
  g__law_row : mg "_law_row" = some (.ref (He.ga K "_law_row"))
  z_enumerate : mg "enumerate" = none
  z_sorted : mg "sorted" = none
  z_tuple : mg "tuple" = none
  f__law_state : ∃ fd, FunD K "_law_state" "_law_state" (defArgs (top 25)) (defBody (top 25)) (defScope (top 25)) [] [] (He.ga K "_law_state") fd
  g__law_state : mg "_law_state" = some (.ref (He.ga K "_law_state"))
  f__law_word : ∃ fd, FunD K "_law_word" "_law_word" (defArgs (top 26)) (defBody (top 26)) (defScope (top 26)) [] [] (He.ga K "_law_word") fd
  g__law_word : mg "_law_word" = some (.ref (He.ga K "_law_word"))
  f__law_words : ∃ fd, FunD K "_law_words" "_law_words" (defArgs (top 27)) (defBody (top 27)) (defScope (top 27)) [] [] (He.ga K "_law_words") fd
  g__law_words : mg "_law_words" = some (.ref (He.ga K "_law_words"))
  f__law_lines : ∃ fd, FunD K "_law_lines" "_law_lines" (defArgs (top 28)) (defBody (top 28)) (defScope (top 28)) [] [] (He.ga K "_law_lines") fd
  g__law_lines : mg "_law_lines" = some (.ref (He.ga K "_law_lines"))
  cl_Railed : ClsF K "Railed"
  n_Railed_row : NoAttr K (He.ga K "Railed") "row"
  cl_Free : ClsF K "Free"
  n_Free_row : NoAttr K (He.ga K "Free") "row"
  cl_Wall : ClsF K "Wall"
  n_Wall_row : NoAttr K (He.ga K "Wall") "row"
  cl_Body : ClsF K "Body"
  n_Body_row : NoAttr K (He.ga K "Body") "row"
  f_Body____str__ : ∃ fd, FunD K "__str__" "Body.__str__" (defArgs (mth 6 5)) (defBody (mth 6 5)) (defScope (mth 6 5)) [] [] (He.ma K (He.ga K "Body") "__str__") fd
  mt_Body___str__ : Meth K (He.ga K "Body") "__str__" (He.ma K (He.ga K "Body") "__str__")
  f_Wall____str__ : ∃ fd, FunD K "__str__" "Body.__str__" (defArgs (mth 6 5)) (defBody (mth 6 5)) (defScope (mth 6 5)) [] [] (He.ma K (He.ga K "Wall") "__str__") fd
  mt_Wall___str__ : Meth K (He.ga K "Wall") "__str__" (He.ma K (He.ga K "Wall") "__str__")
  f_Free____str__ : ∃ fd, FunD K "__str__" "Body.__str__" (defArgs (mth 6 5)) (defBody (mth 6 5)) (defScope (mth 6 5)) [] [] (He.ma K (He.ga K "Free") "__str__") fd
  mt_Free___str__ : Meth K (He.ga K "Free") "__str__" (He.ma K (He.ga K "Free") "__str__")
  f_Railed____str__ : ∃ fd, FunD K "__str__" "Body.__str__" (defArgs (mth 6 5)) (defBody (mth 6 5)) (defScope (mth 6 5)) [] [] (He.ma K (He.ga K "Railed") "__str__") fd
  mt_Railed___str__ : Meth K (He.ga K "Railed") "__str__" (He.ma K (He.ga K "Railed") "__str__")
  z_zip : mg "zip" = none
  z_isinstance : mg "isinstance" = none
  f_law : ∃ fd, FunD K "law" "law" (defArgs (top 29)) (defBody (top 29)) (defScope (top 29)) [] [] (He.ga K "law") fd
  g_law : mg "law" = some (.ref (He.ga K "law"))
  f_Body__answer : ∃ fd, FunD K "answer" "Body.answer" (defArgs (mth 6 1)) (defBody (mth 6 1)) (defScope (mth 6 1)) [] [] (He.ma K (He.ga K "Body") "answer") fd
  mt_Body_answer : Meth K (He.ga K "Body") "answer" (He.ma K (He.ga K "Body") "answer")
  f_Body__kick : ∃ fd, FunD K "kick" "Body.kick" (defArgs (mth 6 2)) (defBody (mth 6 2)) (defScope (mth 6 2)) [] [] (He.ma K (He.ga K "Body") "kick") fd
  mt_Body_kick : Meth K (He.ga K "Body") "kick" (He.ma K (He.ga K "Body") "kick")
  f_Body__may : ∃ fd, FunD K "may" "Body.may" (defArgs (mth 6 3)) (defBody (mth 6 3)) (defScope (mth 6 3)) [] [] (He.ma K (He.ga K "Body") "may") fd
  mt_Body_may : Meth K (He.ga K "Body") "may" (He.ma K (He.ga K "Body") "may")
  f_Wall__answer : ∃ fd, FunD K "answer" "Wall.answer" (defArgs (mth 7 0)) (defBody (mth 7 0)) (defScope (mth 7 0)) [] [] (He.ma K (He.ga K "Wall") "answer") fd
  mt_Wall_answer : Meth K (He.ga K "Wall") "answer" (He.ma K (He.ga K "Wall") "answer")
  f_Wall__kick : ∃ fd, FunD K "kick" "Wall.kick" (defArgs (mth 7 1)) (defBody (mth 7 1)) (defScope (mth 7 1)) [] [] (He.ma K (He.ga K "Wall") "kick") fd
  mt_Wall_kick : Meth K (He.ga K "Wall") "kick" (He.ma K (He.ga K "Wall") "kick")
  f_Wall__may : ∃ fd, FunD K "may" "Body.may" (defArgs (mth 6 3)) (defBody (mth 6 3)) (defScope (mth 6 3)) [] [] (He.ma K (He.ga K "Wall") "may") fd
  mt_Wall_may : Meth K (He.ga K "Wall") "may" (He.ma K (He.ga K "Wall") "may")
  f_Free__answer : ∃ fd, FunD K "answer" "Body.answer" (defArgs (mth 6 1)) (defBody (mth 6 1)) (defScope (mth 6 1)) [] [] (He.ma K (He.ga K "Free") "answer") fd
  mt_Free_answer : Meth K (He.ga K "Free") "answer" (He.ma K (He.ga K "Free") "answer")
  f_Free__kick : ∃ fd, FunD K "kick" "Body.kick" (defArgs (mth 6 2)) (defBody (mth 6 2)) (defScope (mth 6 2)) [] [] (He.ma K (He.ga K "Free") "kick") fd
  mt_Free_kick : Meth K (He.ga K "Free") "kick" (He.ma K (He.ga K "Free") "kick")
  f_Free__may : ∃ fd, FunD K "may" "Body.may" (defArgs (mth 6 3)) (defBody (mth 6 3)) (defScope (mth 6 3)) [] [] (He.ma K (He.ga K "Free") "may") fd
  mt_Free_may : Meth K (He.ga K "Free") "may" (He.ma K (He.ga K "Free") "may")
  f_Railed__kick : ∃ fd, FunD K "kick" "Railed.kick" (defArgs (mth 9 0)) (defBody (mth 9 0)) (defScope (mth 9 0)) [] [] (He.ma K (He.ga K "Railed") "kick") fd
  mt_Railed_kick : Meth K (He.ga K "Railed") "kick" (He.ma K (He.ga K "Railed") "kick")
  f_Railed__answer : ∃ fd, FunD K "answer" "Body.answer" (defArgs (mth 6 1)) (defBody (mth 6 1)) (defScope (mth 6 1)) [] [] (He.ma K (He.ga K "Railed") "answer") fd
  mt_Railed_answer : Meth K (He.ga K "Railed") "answer" (He.ma K (He.ga K "Railed") "answer")
  f_Railed__may : ∃ fd, FunD K "may" "Body.may" (defArgs (mth 6 3)) (defBody (mth 6 3)) (defScope (mth 6 3)) [] [] (He.ma K (He.ga K "Railed") "may") fd
  mt_Railed_may : Meth K (He.ga K "Railed") "may" (He.ma K (He.ga K "Railed") "may")
  f_Wall__init : ∃ fd, FunD K "__init__" "Body.__init__" (defArgs (mth 6 0)) (defBody (mth 6 0)) (defScope (mth 6 0)) [] [] (He.ma K (He.ga K "Wall") "__init__") fd
  mk_Wall : Mk K (He.ga K "Wall") (He.ma K (He.ga K "Wall") "__init__")
  g_Wall : mg "Wall" = some (.ref (He.ga K "Wall"))
  n_Wall_name : NoAttr K (He.ga K "Wall") "name"
  n_Wall_mass : NoAttr K (He.ga K "Wall") "mass"
  f_Free__init : ∃ fd, FunD K "__init__" "Body.__init__" (defArgs (mth 6 0)) (defBody (mth 6 0)) (defScope (mth 6 0)) [] [] (He.ma K (He.ga K "Free") "__init__") fd
  mk_Free : Mk K (He.ga K "Free") (He.ma K (He.ga K "Free") "__init__")
  g_Free : mg "Free" = some (.ref (He.ga K "Free"))
  n_Free_name : NoAttr K (He.ga K "Free") "name"
  n_Free_mass : NoAttr K (He.ga K "Free") "mass"
  f_Railed__init : ∃ fd, FunD K "__init__" "Body.__init__" (defArgs (mth 6 0)) (defBody (mth 6 0)) (defScope (mth 6 0)) [] [] (He.ma K (He.ga K "Railed") "__init__") fd
  mk_Railed : Mk K (He.ga K "Railed") (He.ma K (He.ga K "Railed") "__init__")
  g_Railed : mg "Railed" = some (.ref (He.ga K "Railed"))
  n_Railed_name : NoAttr K (He.ga K "Railed") "name"
  n_Railed_mass : NoAttr K (He.ga K "Railed") "mass"
section
variable {P : Program} {w : World} {K : Fg} {mg : Str → Option Value} {base : Heap}
theorem sc_Wall__init : FnScope ["self", "row"] ["self", "row"] (defScope (mth 6 0)) := ⟨rfl, rfl, rfl, by decide +kernel, rfl, by decide +kernel, by decide +kernel⟩
theorem mk_Wall (T : Fx K mg) : MakeE P w K mg base "Wall" "row" "name" "mass" 0 2 := by
  obtain ⟨fd, F⟩ := T.f_Wall__init
  exact ⟨⟨fd, ["self", "row"], init_fn rfl F sc_Wall__init rfl rfl rfl, F.bindsN (fun _ _ _ _ _ _ us hl => match us, hl with | [_, _], _ => rfl), T.cl_Wall, T.mk_Wall, T.g_Wall⟩, T.n_Wall_row, T.n_Wall_name, T.n_Wall_mass⟩
theorem sc_Free__init : FnScope ["self", "row"] ["self", "row"] (defScope (mth 6 0)) := ⟨rfl, rfl, rfl, by decide +kernel, rfl, by decide +kernel, by decide +kernel⟩
theorem mk_Free (T : Fx K mg) : MakeE P w K mg base "Free" "row" "name" "mass" 0 2 := by
  obtain ⟨fd, F⟩ := T.f_Free__init
  exact ⟨⟨fd, ["self", "row"], init_fn rfl F sc_Free__init rfl rfl rfl, F.bindsN (fun _ _ _ _ _ _ us hl => match us, hl with | [_, _], _ => rfl), T.cl_Free, T.mk_Free, T.g_Free⟩, T.n_Free_row, T.n_Free_name, T.n_Free_mass⟩
theorem sc_Railed__init : FnScope ["self", "row"] ["self", "row"] (defScope (mth 6 0)) := ⟨rfl, rfl, rfl, by decide +kernel, rfl, by decide +kernel, by decide +kernel⟩
theorem mk_Railed (T : Fx K mg) : MakeE P w K mg base "Railed" "row" "name" "mass" 0 2 := by
  obtain ⟨fd, F⟩ := T.f_Railed__init
  exact ⟨⟨fd, ["self", "row"], init_fn rfl F sc_Railed__init rfl rfl rfl, F.bindsN (fun _ _ _ _ _ _ us hl => match us, hl with | [_, _], _ => rfl), T.cl_Railed, T.mk_Railed, T.g_Railed⟩, T.n_Railed_row, T.n_Railed_name, T.n_Railed_mass⟩
abbrev N_share_text : List Str := ["one"]
theorem sc_share_text : FnScope N_share_text ["one"] (defScope (top 2)) := ⟨rfl, rfl, rfl, by decide +kernel, rfl, by decide +kernel, by decide +kernel⟩
theorem w_share_text (T : Fx K mg) (fd : FuncData) (cdv : Value) (A : Around) (outer : List Env) (s : Shared) (H : Hp) (E : XK) (hr : Room 0 (A.deeper (envOfC "share_text" (defScope (top 2)) s.heap.objs.size (He.ga K "share_text") cdv))) :
    PSs (cxOf (L2.CX P w) P w K mg base N_share_text "share_text" (defScope (top 2)) (He.ga K "share_text") cdv A outer s H E) (defBody (top 2)) (tS K (fun cls d _ H => E cls d H) b_share_text) := by
  have tk := tk_cx (P := P) (w := w) (K := K) (mg := mg) (base := base) (N := N_share_text) (qual := "share_text") (scope := defScope (top 2)) (f := He.ga K "share_text") (cd := cdv) (A := A) (outer := outer) (s := s) (H := H) (E := E)
  exact (mss_cons (ms_if (mt_cmp2 (op_eqD hr.units) o_eq (weak (me_ix ix_seq o_ix (me_varW (pv 0)) (weak me_int) (fun _ _ => rfl))) (weak me_int) (nomark _)) (mss_one (ms_ret (me_callTy call_str_int c_strI (by rfl) T.z_str (by decide +kernel) (maw_cons (weak (me_ix ix_seq o_ix (me_varW (pv 0)) (weak me_int) (fun _ _ => rfl))) maw_nil)))) mss_nil)
  (mss_one (ms_ret (me_joined (.cons (me_fmt (me_ix ix_seq o_ix (me_varW (pv 0)) (weak me_int) (fun _ _ => rfl))) (.cons me_str (.cons (me_fmt (me_ix ix_seq o_ix (me_varW (pv 0)) (weak me_int) (fun _ _ => rfl))) .nil)))))))
theorem d_share_text (T : Fx K mg) : Def P w K mg base 1 "share_text" 1 [] m_share_text := by
  obtain ⟨fd, F⟩ := T.f_share_text
  exact Def.mk' (ps := ["one"]) (N := N_share_text) (k := 0) F T.g_share_text sc_share_text b_share_text ⟨[], [], .nil, F.bindsN (fun _ _ _ _ _ _ us hl => match us, hl with | [_], _ => rfl), fun _ _ => .nil⟩ (fun cdv A outer s H E hr => w_share_text T fd cdv A outer s H E hr)
abbrev N_spot_words : List Str := ["spot", "one"]
theorem sc_spot_words : FnScope N_spot_words ["spot"] (defScope (top 4)) := ⟨rfl, rfl, rfl, by decide +kernel, rfl, by decide +kernel, by decide +kernel⟩
theorem w_spot_words (T : Fx K mg) (fd : FuncData) (cdv : Value) (A : Around) (outer : List Env) (s : Shared) (H : Hp) (E : XK) (hr : Room 1 (A.deeper (envOfC "spot_words" (defScope (top 4)) s.heap.objs.size (He.ga K "spot_words") cdv))) :
    PSs (cxOf (L2.CX P w) P w K mg base N_spot_words "spot_words" (defScope (top 4)) (He.ga K "spot_words") cdv A outer s H E) (defBody (top 4)) (tS K (fun cls d _ H => E cls d H) b_spot_words) := by
  have tk := tk_cx (P := P) (w := w) (K := K) (mg := mg) (base := base) (N := N_spot_words) (qual := "spot_words") (scope := defScope (top 4)) (f := He.ga K "spot_words") (cd := cdv) (A := A) (outer := outer) (s := s) (H := H) (E := E)
  exact (mss_one (ms_ret (me_new (mf_lc (own := [("one", 1)]) (ws := [1]) rfl sc_spot_words.nd (toO (mi_seq (me_var (pv 0)))) (blkOk_by (N := N_spot_words) (sc := defScope (top 4)) (by decide +kernel)) (by decide) (fun _ _ _ _ _ => (mg_name (pg_name (i := 1) sc_spot_words.nd rfl (Or.inl rfl)))) (fun _ _ _ _ _ => mts_nil) (fun _ _ _ _ _ => (me_call ((d_share_text T).mono (by decide)) hr takes0 (by rfl) (alen_cons alen_nil) (ma_cons (me_var (pv 1)) ma_nil)))))))
theorem d_spot_words (T : Fx K mg) : Def P w K mg base 2 "spot_words" 1 [] m_spot_words := by
  obtain ⟨fd, F⟩ := T.f_spot_words
  exact Def.mk' (ps := ["spot"]) (N := N_spot_words) (k := 1) F T.g_spot_words sc_spot_words b_spot_words ⟨[], [], .nil, F.bindsN (fun _ _ _ _ _ _ us hl => match us, hl with | [_], _ => rfl), fun _ _ => .nil⟩ (fun cdv A outer s H E hr => w_spot_words T fd cdv A outer s H E hr)
abbrev N_body_words : List Str := ["row", "name", "shape", "mass", "rail", "place", "speed", "corners", "going", "x", "y", "number"]
theorem sc_body_words : FnScope N_body_words ["row"] (defScope (top 5)) := ⟨rfl, rfl, rfl, by decide +kernel, rfl, by decide +kernel, by decide +kernel⟩
theorem w_body_words (T : Fx K mg) (fd : FuncData) (cdv : Value) (A : Around) (outer : List Env) (s : Shared) (H : Hp) (E : XK) (hr : Room 2 (A.deeper (envOfC "body_words" (defScope (top 5)) s.heap.objs.size (He.ga K "body_words") cdv))) :
    PSs (cxOf (L2.CX P w) P w K mg base N_body_words "body_words" (defScope (top 5)) (He.ga K "body_words") cdv A outer s H E) (defBody (top 5)) (tS K (fun cls d _ H => E cls d H) b_body_words) := by
  have tk := tk_cx (P := P) (w := w) (K := K) (mg := mg) (base := base) (N := N_body_words) (qual := "body_words") (scope := defScope (top 5)) (f := He.ga K "body_words") (cd := cdv) (A := A) (outer := outer) (s := s) (H := H) (E := E)
  exact (mss_cons (ms_asg (me_var (pv 0)) (mg_tup rfl (glen_cons (glen_cons (glen_cons (glen_cons (glen_cons (glen_cons glen_nil)))))) (mgs_cons (mg_name (pg_name (i := 1) sc_body_words.nd rfl (Or.inl rfl))) (mgs_cons (mg_name (pg_name (i := 2) sc_body_words.nd rfl (Or.inl rfl))) (mgs_cons (mg_name (pg_name (i := 3) sc_body_words.nd rfl (Or.inl rfl))) (mgs_cons (mg_name (pg_name (i := 4) sc_body_words.nd rfl (Or.inl rfl))) (mgs_cons (mg_name (pg_name (i := 5) sc_body_words.nd rfl (Or.inl rfl))) (mgs_cons (mg_name (pg_name (i := 6) sc_body_words.nd rfl (Or.inl rfl))) mgs_nil))))))))
  (mss_cons (ms_lc (by decide) (ps_setLc (i := 7) (own := [("x", 9), ("y", 10)]) rfl sc_body_words.nd rfl rfl (sw_true rfl rfl rfl (by decide +kernel)) (toO (mi_seq (me_var (pv 2)))) (blkOk_by (N := N_body_words) (sc := defScope (top 5)) (by decide +kernel)) (fun _ _ _ _ _ => (mg_tup rfl (glen_cons (glen_cons glen_nil)) (mgs_cons (mg_name (pg_name (i := 9) sc_body_words.nd rfl (Or.inl rfl))) (mgs_cons (mg_name (pg_name (i := 10) sc_body_words.nd rfl (Or.inl rfl))) mgs_nil)))) (fun _ _ _ _ _ => mts_nil) (fun _ _ _ _ _ => (me_joined (.cons (me_fmt (me_var (pv 9))) (.cons me_str (.cons (me_fmt (me_var (pv 10))) .nil)))))))
  (mss_cons (ms_if (mt_cmp2 (op_eqD hr.units) o_eq (me_varW (pv 3)) (weak me_int) (nomark _)) (mss_one (ms_ret (me_op2 op_add4 o_add (weak (me_op2 op_add4 o_add (weak (me_new (mf_lst (ma_cons me_str (ma_cons (me_var (pv 1)) ma_nil))))) (weak (me_call ((d_spot_words T).mono (by decide)) hr tk (by rfl) (alen_cons alen_nil) (ma_cons (me_var (pv 5)) ma_nil))))) (me_varW (pv 7))))) mss_nil)
  (mss_cons (ms_set (ps_set (i := 8) sc_body_words.nd rfl (Or.inl rfl) (me_op2 op_add4 o_add (weak (me_op2 op_add4 o_add (weak (me_call ((d_spot_words T).mono (by decide)) hr tk (by rfl) (alen_cons alen_nil) (ma_cons (me_var (pv 5)) ma_nil))) (weak (me_call ((d_spot_words T).mono (by decide)) hr tk (by rfl) (alen_cons alen_nil) (ma_cons (me_var (pv 6)) ma_nil))))) (me_varW (pv 7)))))
  (mss_cons (ms_if (mt_cmp2 op_isN o_is (me_varW (pv 4)) (weak me_non) (nomark _)) (mss_one (ms_ret (me_op2 op_add4 o_add (weak (me_new (mf_lst (ma_cons me_str (ma_cons (me_var (pv 1)) (ma_cons (me_callTy call_str_int c_strI (by rfl) T.z_str (by decide +kernel) (maw_cons (me_varW (pv 3)) maw_nil)) ma_nil)))))) (me_varW (pv 8))))) mss_nil)
  (mss_one (ms_ret (me_op2 op_add4 o_add (weak (me_op2 op_add4 o_add (weak (me_new (mf_lst (ma_cons me_str (ma_cons (me_var (pv 1)) (ma_cons (me_callTy call_str_int c_strI (by rfl) T.z_str (by decide +kernel) (maw_cons (me_varW (pv 3)) maw_nil)) ma_nil)))))) (weak (me_new (mf_lc (own := [("number", 11)]) (ws := [11]) rfl sc_body_words.nd (toO (mi_seq (me_var (pv 4)))) (blkOk_by (N := N_body_words) (sc := defScope (top 5)) (by decide +kernel)) (by decide) (fun _ _ _ _ _ => (mg_name (pg_name (i := 11) sc_body_words.nd rfl (Or.inl rfl)))) (fun _ _ _ _ _ => mts_nil) (fun _ _ _ _ _ => (me_callTy call_str_int c_strI (by rfl) T.z_str (by decide +kernel) (maw_cons (me_varW (pv 11)) maw_nil)))))))) (me_varW (pv 8))))))))))
theorem d_body_words (T : Fx K mg) : Def P w K mg base 3 "body_words" 1 [] m_body_words := by
  obtain ⟨fd, F⟩ := T.f_body_words
  exact Def.mk' (ps := ["row"]) (N := N_body_words) (k := 2) F T.g_body_words sc_body_words b_body_words ⟨[], [], .nil, F.bindsN (fun _ _ _ _ _ _ us hl => match us, hl with | [_], _ => rfl), fun _ _ => .nil⟩ (fun cdv A outer s H E hr => w_body_words T fd cdv A outer s H E hr)
abbrev N_body_of : List Str := ["row"]
theorem sc_body_of : FnScope N_body_of ["row"] (defScope (top 10)) := ⟨rfl, rfl, rfl, by decide +kernel, rfl, by decide +kernel, by decide +kernel⟩
theorem w_body_of (T : Fx K mg) (fd : FuncData) (cdv : Value) (A : Around) (outer : List Env) (s : Shared) (H : Hp) (E : XK) (hr : Room 2 (A.deeper (envOfC "body_of" (defScope (top 10)) s.heap.objs.size (He.ga K "body_of") cdv))) :
    PSs (cxOf (L2.CX P w) P w K mg base N_body_of "body_of" (defScope (top 10)) (He.ga K "body_of") cdv A outer s H E) (defBody (top 10)) (tS K (fun cls d _ H => E cls d H) b_body_of) := by
  have tk := tk_cx (P := P) (w := w) (K := K) (mg := mg) (base := base) (N := N_body_of) (qual := "body_of") (scope := defScope (top 10)) (f := He.ga K "body_of") (cd := cdv) (A := A) (outer := outer) (s := s) (H := H) (E := E)
  exact (mss_cons (ms_if (mt_cmp2 (op_eqD hr.units) o_eq (weak (me_ix ix_seq o_ix (me_varW (pv 0)) (weak me_int) (fun _ _ => rfl))) (weak me_int) (nomark _)) (mss_one (ms_ret (me_make (mk_Wall T) (hr.mono (by decide)) (by rfl) (ma_cons (me_var (pv 0)) ma_nil)))) mss_nil)
  (mss_cons (ms_if (mt_cmp2 op_isN o_is (weak (me_ix ix_seq o_ix (me_varW (pv 0)) (weak me_int) (fun _ _ => rfl))) (weak me_non) (nomark _)) (mss_one (ms_ret (me_make (mk_Free T) (hr.mono (by decide)) (by rfl) (ma_cons (me_var (pv 0)) ma_nil)))) mss_nil)
  (mss_one (ms_ret (me_make (mk_Railed T) (hr.mono (by decide)) (by rfl) (ma_cons (me_var (pv 0)) ma_nil))))))
theorem d_body_of (T : Fx K mg) : Def P w K mg base 3 "body_of" 1 [] m_body_of := by
  obtain ⟨fd, F⟩ := T.f_body_of
  exact Def.mk' (ps := ["row"]) (N := N_body_of) (k := 2) F T.g_body_of sc_body_of b_body_of ⟨[], [], .nil, F.bindsN (fun _ _ _ _ _ _ us hl => match us, hl with | [_], _ => rfl), fun _ _ => .nil⟩ (fun cdv A outer s H E hr => w_body_of T fd cdv A outer s H E hr)
abbrev N_state_text : List Str := ["state", "drift", "give", "clock", "rows", "lines", "row", "words"]
theorem sc_state_text : FnScope N_state_text ["state"] (defScope (top 12)) := ⟨rfl, rfl, rfl, by decide +kernel, rfl, by decide +kernel, by decide +kernel⟩
theorem w_state_text (T : Fx K mg) (fd : FuncData) (cdv : Value) (A : Around) (outer : List Env) (s : Shared) (H : Hp) (E : XK) (hr : Room 3 (A.deeper (envOfC "state_text" (defScope (top 12)) s.heap.objs.size (He.ga K "state_text") cdv))) :
    PSs (cxOf (L2.CX P w) P w K mg base N_state_text "state_text" (defScope (top 12)) (He.ga K "state_text") cdv A outer s H E) (defBody (top 12)) (tS K (fun cls d _ H => E cls d H) b_state_text) := by
  have tk := tk_cx (P := P) (w := w) (K := K) (mg := mg) (base := base) (N := N_state_text) (qual := "state_text") (scope := defScope (top 12)) (f := He.ga K "state_text") (cd := cdv) (A := A) (outer := outer) (s := s) (H := H) (E := E)
  exact (mss_cons (ms_asg (me_var (pv 0)) (mg_tup rfl (glen_cons (glen_cons (glen_cons (glen_cons glen_nil)))) (mgs_cons (mg_name (pg_name (i := 1) sc_state_text.nd rfl (Or.inl rfl))) (mgs_cons (mg_name (pg_name (i := 2) sc_state_text.nd rfl (Or.inl rfl))) (mgs_cons (mg_name (pg_name (i := 3) sc_state_text.nd rfl (Or.inl rfl))) (mgs_cons (mg_name (pg_name (i := 4) sc_state_text.nd rfl (Or.inl rfl))) mgs_nil))))))
  (mss_cons (ms_setOwn (ps_set (i := 5) sc_state_text.nd rfl (Or.inl rfl) (mf_lst (ma_cons (me_op2 op_add4 o_add (weak (me_op2 op_add4 o_add (weak (me_new (mf_lst (ma_cons me_str ma_nil)))) (weak (me_call ((d_spot_words T).mono (by decide)) hr tk (by rfl) (alen_cons alen_nil) (ma_cons (me_var (pv 1)) ma_nil))))) (weak (me_new (mf_lst (ma_cons (me_call ((d_share_text T).mono (by decide)) hr tk (by rfl) (alen_cons alen_nil) (ma_cons (me_var (pv 2)) ma_nil)) (ma_cons (me_call ((d_share_text T).mono (by decide)) hr tk (by rfl) (alen_cons alen_nil) (ma_cons (me_var (pv 3)) ma_nil)) ma_nil)))))) ma_nil))))
  (mss_cons (ms_ext (ps_aug (i := 5) sc_state_text.nd rfl (Or.inl rfl) (mf_lc (own := [("row", 6)]) (ws := [6]) rfl sc_state_text.nd (toO (mi_seq (me_var (pv 4)))) (blkOk_by (N := N_state_text) (sc := defScope (top 12)) (by decide +kernel)) (by decide) (fun _ _ _ _ _ => (mg_name (pg_name (i := 6) sc_state_text.nd rfl (Or.inl rfl)))) (fun _ _ _ _ _ => mts_nil) (fun _ _ _ _ _ => (me_call ((d_body_words T).mono (by decide)) hr takes0 (by rfl) (alen_cons alen_nil) (ma_cons (me_var (pv 6)) ma_nil)))) iop_ext))
  (mss_frz (mss_one (ms_ret (me_join (weak (me_new (mf_lc (own := [("words", 7)]) (ws := [7]) rfl sc_state_text.nd (toO (mi_seq (me_var (pv 5)))) (blkOk_by (N := N_state_text) (sc := defScope (top 12)) (by decide +kernel)) (by decide) (fun _ _ _ _ _ => (mg_name (pg_name (i := 7) sc_state_text.nd rfl (Or.inl rfl)))) (fun _ _ _ _ _ => mts_nil) (fun _ _ _ _ _ => (me_join (me_varW (pv 7))))))))))))))
theorem d_state_text (T : Fx K mg) : Def P w K mg base 4 "state_text" 1 [] m_state_text := by
  obtain ⟨fd, F⟩ := T.f_state_text
  exact Def.mk' (ps := ["state"]) (N := N_state_text) (k := 3) F T.g_state_text sc_state_text b_state_text ⟨[], [], .nil, F.bindsN (fun _ _ _ _ _ _ us hl => match us, hl with | [_], _ => rfl), fun _ _ => .nil⟩ (fun cdv A outer s H E hr => w_state_text T fd cdv A outer s H E hr)
abbrev N__law_cell : List Str := ["_law_script", "_law_k"]
theorem sc__law_cell : FnScope N__law_cell ["_law_script", "_law_k"] (defScope (top 14)) := ⟨rfl, rfl, rfl, by decide +kernel, rfl, by decide +kernel, by decide +kernel⟩
theorem w__law_cell (T : Fx K mg) (fd : FuncData) (cdv : Value) (A : Around) (outer : List Env) (s : Shared) (H : Hp) (E : XK) (hr : Room 0 (A.deeper (envOfC "_law_cell" (defScope (top 14)) s.heap.objs.size (He.ga K "_law_cell") cdv))) :
    PSs (cxOf (L2.CX P w) P w K mg base N__law_cell "_law_cell" (defScope (top 14)) (He.ga K "_law_cell") cdv A outer s H E) (defBody (top 14)) (tS K (fun cls d _ H => E cls d H) b__law_cell) := by
  have tk := tk_cx (P := P) (w := w) (K := K) (mg := mg) (base := base) (N := N__law_cell) (qual := "_law_cell") (scope := defScope (top 14)) (f := He.ga K "_law_cell") (cd := cdv) (A := A) (outer := outer) (s := s) (H := H) (E := E)
  exact (mss_cons (ms_if (mt_cmp2 (op_eqD hr.units) o_eq (weak (me_callB call_len3 c_len (by rfl) T.z_len (by decide +kernel) (maw_cons (me_varW (pv 0)) maw_nil))) (weak me_int) (nomark _)) (mss_one (ms_ret (me_op2 op_add4 o_add (weak (me_op2 op_mulW o_mul (weak me_int) (me_varW (pv 1)))) (weak me_int)))) mss_nil)
  (mss_one (ms_ret (me_callB call_abs c_abs (by rfl) T.z_abs (by decide +kernel) (maw_cons (weak (me_ix ix_seq o_ix (me_varW (pv 0)) (weak (me_op2 op_modN o_mod (me_varW (pv 1)) (weak (me_callB call_len3 c_len (by rfl) T.z_len (by decide +kernel) (maw_cons (me_varW (pv 0)) maw_nil))))) (fun _ _ => rfl))) maw_nil)))))
theorem d__law_cell (T : Fx K mg) : Def P w K mg base 1 "_law_cell" 2 [] m__law_cell := by
  obtain ⟨fd, F⟩ := T.f__law_cell
  exact Def.mk' (ps := ["_law_script", "_law_k"]) (N := N__law_cell) (k := 0) F T.g__law_cell sc__law_cell b__law_cell ⟨[], [], .nil, F.bindsN (fun _ _ _ _ _ _ us hl => match us, hl with | [_, _], _ => rfl), fun _ _ => .nil⟩ (fun cdv A outer s H E hr => w__law_cell T fd cdv A outer s H E hr)
abbrev N__law_mixed : List Str := ["_law_script", "_law_k", "_law_many", "_law_number_here"]
theorem sc__law_mixed : FnScope N__law_mixed ["_law_script", "_law_k", "_law_many"] (defScope (top 15)) := ⟨rfl, rfl, rfl, by decide +kernel, rfl, by decide +kernel, by decide +kernel⟩
theorem w__law_mixed (T : Fx K mg) (fd : FuncData) (cdv : Value) (A : Around) (outer : List Env) (s : Shared) (H : Hp) (E : XK) (hr : Room 1 (A.deeper (envOfC "_law_mixed" (defScope (top 15)) s.heap.objs.size (He.ga K "_law_mixed") cdv))) :
    PSs (cxOf (L2.CX P w) P w K mg base N__law_mixed "_law_mixed" (defScope (top 15)) (He.ga K "_law_mixed") cdv A outer s H E) (defBody (top 15)) (tS K (fun cls d _ H => E cls d H) b__law_mixed) := by
  have tk := tk_cx (P := P) (w := w) (K := K) (mg := mg) (base := base) (N := N__law_mixed) (qual := "_law_mixed") (scope := defScope (top 15)) (f := He.ga K "_law_mixed") (cd := cdv) (A := A) (outer := outer) (s := s) (H := H) (E := E)
  exact (mss_cons (ms_set (ps_set (i := 3) sc__law_mixed.nd rfl (Or.inl rfl) (me_op2 op_modN o_mod (weak (me_op2 op_pow o_pow (weak (me_op2 op_add4 o_add (weak (me_op2 op_mulW o_mul (weak (me_op2 op_add4 o_add (weak (me_op2 op_modN o_mod (weak (me_call ((d__law_cell T).mono (by decide)) hr tk (by rfl) (alen_cons (alen_cons alen_nil)) (ma_cons (me_var (pv 0)) (ma_cons (me_var (pv 1)) ma_nil)))) (weak me_int))) (weak me_int))) (weak (me_op2 op_add4 o_add (me_varW (pv 1)) (weak me_int))))) (weak (me_op2 op_mulW o_mul (weak me_int) (me_varW (pv 1)))))) (weak me_int))) (weak me_int))))
  (mss_one (ms_ret (me_op2 op_modN o_mod (weak (me_op2 op_fdivB o_div (me_varW (pv 3)) (weak me_int))) (me_varW (pv 2))))))
theorem d__law_mixed (T : Fx K mg) : Def P w K mg base 2 "_law_mixed" 3 [] m__law_mixed := by
  obtain ⟨fd, F⟩ := T.f__law_mixed
  exact Def.mk' (ps := ["_law_script", "_law_k", "_law_many"]) (N := N__law_mixed) (k := 1) F T.g__law_mixed sc__law_mixed b__law_mixed ⟨[], [], .nil, F.bindsN (fun _ _ _ _ _ _ us hl => match us, hl with | [_, _, _], _ => rfl), fun _ _ => .nil⟩ (fun cdv A outer s H E hr => w__law_mixed T fd cdv A outer s H E hr)
abbrev N__law_deck : List Str := ["_law_script", "_law_cell_here"]
theorem sc__law_deck : FnScope N__law_deck ["_law_script"] (defScope (top 16)) := ⟨rfl, rfl, rfl, by decide +kernel, rfl, by decide +kernel, by decide +kernel⟩
theorem w__law_deck (T : Fx K mg) (fd : FuncData) (cdv : Value) (A : Around) (outer : List Env) (s : Shared) (H : Hp) (E : XK) (hr : Room 0 (A.deeper (envOfC "_law_deck" (defScope (top 16)) s.heap.objs.size (He.ga K "_law_deck") cdv))) :
    PSs (cxOf (L2.CX P w) P w K mg base N__law_deck "_law_deck" (defScope (top 16)) (He.ga K "_law_deck") cdv A outer s H E) (defBody (top 16)) (tSd K b__law_deck) := by
  have tk := tk_cx (P := P) (w := w) (K := K) (mg := mg) (base := base) (N := N__law_deck) (qual := "_law_deck") (scope := defScope (top 16)) (f := He.ga K "_law_deck") (cd := cdv) (A := A) (outer := outer) (s := s) (H := H) (E := E)
  exact (mss_oneD (ms_retDk (W := fun cls d _ H => E cls d H) (pv 0) (mf_lc (own := [("_law_cell_here", 1)]) (ws := [1]) rfl sc__law_deck.nd (toO (mi_seq (me_var (pv 0)))) (blkOk_by (N := N__law_deck) (sc := defScope (top 16)) (by decide +kernel)) (by decide) (fun _ _ _ _ _ => (mg_name (pg_name (i := 1) sc__law_deck.nd rfl (Or.inl rfl)))) (fun _ _ _ _ _ => (mts_one (mt_cmp2 op_ge o_ge (weak (me_callB call_abs c_abs (by rfl) T.z_abs (by decide +kernel) (maw_cons (me_varW (pv 1)) maw_nil))) (weak (me_op2 op_pow o_pow (weak me_int) (weak me_int))) (nomark _)))) (fun _ _ _ _ _ => (me_callB call_abs c_abs (by rfl) T.z_abs (by decide +kernel) (maw_cons (me_varW (pv 1)) maw_nil))))))
theorem d__law_deck (T : Fx K mg) : DefD P w K mg base 1 "_law_deck" 1 m__law_deck := by
  obtain ⟨fd, F⟩ := T.f__law_deck
  exact DefD.mk' (ps := ["_law_script"]) (N := N__law_deck) (k := 0) F T.g__law_deck sc__law_deck b__law_deck ⟨[], .nil, F.bindsN (fun _ _ _ _ _ _ us hl => match us, hl with | [_], _ => rfl)⟩ (fun cdv A outer s H E hr => w__law_deck T fd cdv A outer s H E hr)
abbrev N__law_take : List Str := ["_law_deck_here", "_law_many", "_law_cell_here"]
theorem sc__law_take : FnScope N__law_take ["_law_deck_here", "_law_many"] (defScope (top 17)) := ⟨rfl, rfl, rfl, by decide +kernel, rfl, by decide +kernel, by decide +kernel⟩
theorem w__law_take (T : Fx K mg) (fd : FuncData) (cdv : Value) (A : Around) (outer : List Env) (s : Shared) (H : Hp) (E : XK) (hr : Room 2 (A.deeper (envOfC "_law_take" (defScope (top 17)) s.heap.objs.size (He.ga K "_law_take") cdv))) :
    PSs (cxOf (L2.CX P w) P w K mg base N__law_take "_law_take" (defScope (top 17)) (He.ga K "_law_take") cdv A outer s H E) (defBody (top 17)) (tS K (fun cls d _ H => E cls d H) b__law_take) := by
  have tk := tk_cx (P := P) (w := w) (K := K) (mg := mg) (base := base) (N := N__law_take) (qual := "_law_take") (scope := defScope (top 17)) (f := He.ga K "_law_take") (cd := cdv) (A := A) (outer := outer) (s := s) (H := H) (E := E)
  exact (mss_cons (ms_while po_cx (mt_cmp2 op_lt o_lt (weak (me_dk (j := 2) (pe_ix ix_list (pv 0) pe_int (fun _ _ => rfl)))) (weak (me_dkLen (pe_callB call_len3 (by rfl) T.z_len (by decide +kernel) (pa_cons (pe_ix ix_list (pv 0) pe_int (fun _ _ => rfl)) pa_nil)))) (nomark _)) (mss_cons (ms_set (ps_set (i := 2) sc__law_take.nd rfl (Or.inl rfl) (me_dkAt (pe_ix ix_list (pe_ix ix_list (pv 0) pe_int (fun _ _ => rfl)) (pe_ix ix_list (pv 0) pe_int (fun _ _ => rfl)) (fun _ _ => rfl)))))
  (mss_cons (ms_if (mt_cmp2 op_gt o_gt (me_varW (pv 2)) (weak me_int) (nomark _)) (mss_cons (ms_dkBig (ps_asg (me_op2 op_fdivB o_div (me_varW (pv 2)) (me_varW (pv 1))) (pg_sub (pe_ix ix_list (pv 0) pe_int (fun _ _ => rfl)) (pe_ix ix_list (pv 0) pe_int (fun _ _ => rfl)) set_list)))
  (mss_one (ms_ret (me_op2 op_modN o_mod (me_varW (pv 2)) (me_varW (pv 1)))))) mss_nil)
  (mss_one (ms_dkSet (j := 2) (ps_asg (me_op2 op_add4 o_add (weak (me_dk (j := 2) (pe_ix ix_list (pv 0) pe_int (fun _ _ => rfl)))) (weak me_int)) (pg_sub (pv 0) pe_int set_list)))))))
  (mss_cons (ms_dkSet (j := 3) (ps_asg (me_op2 op_add4 o_add (weak (me_dk (j := 3) (pe_ix ix_list (pv 0) pe_int (fun _ _ => rfl)))) (weak me_int)) (pg_sub (pv 0) pe_int set_list)))
  (mss_one (ms_ret (me_call ((d__law_mixed T).mono (by decide)) hr tk (by rfl) (alen_cons (alen_cons (alen_cons alen_nil))) (ma_cons (me_dk (j := 0) (pe_ix ix_list (pv 0) pe_int (fun _ _ => rfl))) (ma_cons (me_dk (j := 3) (pe_ix ix_list (pv 0) pe_int (fun _ _ => rfl))) (ma_cons (me_var (pv 1)) ma_nil))))))))
theorem d__law_take (T : Fx K mg) : Def P w K mg base 3 "_law_take" 2 [] m__law_take := by
  obtain ⟨fd, F⟩ := T.f__law_take
  exact Def.mk' (ps := ["_law_deck_here", "_law_many"]) (N := N__law_take) (k := 2) F T.g__law_take sc__law_take b__law_take ⟨[], [], .nil, F.bindsN (fun _ _ _ _ _ _ us hl => match us, hl with | [_, _], _ => rfl), fun _ _ => .nil⟩ (fun cdv A outer s H E hr => w__law_take T fd cdv A outer s H E hr)
abbrev N__law_gcd : List Str := ["_law_one", "_law_other", "_law_rest"]
theorem sc__law_gcd : FnScope N__law_gcd ["_law_one", "_law_other"] (defScope (top 18)) := ⟨rfl, rfl, rfl, by decide +kernel, rfl, by decide +kernel, by decide +kernel⟩
theorem w__law_gcd (T : Fx K mg) (fd : FuncData) (cdv : Value) (A : Around) (outer : List Env) (s : Shared) (H : Hp) (E : XK) (hr : Room 0 (A.deeper (envOfC "_law_gcd" (defScope (top 18)) s.heap.objs.size (He.ga K "_law_gcd") cdv))) :
    PSs (cxOf (L2.CX P w) P w K mg base N__law_gcd "_law_gcd" (defScope (top 18)) (He.ga K "_law_gcd") cdv A outer s H E) (defBody (top 18)) (tS K (fun cls d _ H => E cls d H) b__law_gcd) := by
  have tk := tk_cx (P := P) (w := w) (K := K) (mg := mg) (base := base) (N := N__law_gcd) (qual := "_law_gcd") (scope := defScope (top 18)) (f := He.ga K "_law_gcd") (cd := cdv) (A := A) (outer := outer) (s := s) (H := H) (E := E)
  exact (mss_cons (ms_set (ps_set (i := 0) sc__law_gcd.nd rfl (Or.inl rfl) (me_callB call_abs c_abs (by rfl) T.z_abs (by decide +kernel) (maw_cons (me_varW (pv 0)) maw_nil))))
  (mss_cons (ms_set (ps_set (i := 1) sc__law_gcd.nd rfl (Or.inl rfl) (me_callB call_abs c_abs (by rfl) T.z_abs (by decide +kernel) (maw_cons (me_varW (pv 1)) maw_nil))))
  (mss_cons (ms_while po_cx (mt_cmp2 op_gt o_gt (me_varW (pv 1)) (weak me_int) (nomark _)) (mss_cons (ms_set (ps_set (i := 2) sc__law_gcd.nd rfl (Or.inl rfl) (me_op2 op_modN o_mod (me_varW (pv 0)) (me_varW (pv 1)))))
  (mss_cons (ms_set (ps_set (i := 0) sc__law_gcd.nd rfl (Or.inl rfl) (me_var (pv 1))))
  (mss_one (ms_set (ps_set (i := 1) sc__law_gcd.nd rfl (Or.inl rfl) (me_var (pv 2))))))))
  (mss_one (ms_ret (me_var (pv 0)))))))
theorem d__law_gcd (T : Fx K mg) : Def P w K mg base 1 "_law_gcd" 2 [] m__law_gcd := by
  obtain ⟨fd, F⟩ := T.f__law_gcd
  exact Def.mk' (ps := ["_law_one", "_law_other"]) (N := N__law_gcd) (k := 0) F T.g__law_gcd sc__law_gcd b__law_gcd ⟨[], [], .nil, F.bindsN (fun _ _ _ _ _ _ us hl => match us, hl with | [_, _], _ => rfl), fun _ _ => .nil⟩ (fun cdv A outer s H E hr => w__law_gcd T fd cdv A outer s H E hr)
abbrev N__law_share : List Str := ["_law_top", "_law_bottom", "_law_found"]
theorem sc__law_share : FnScope N__law_share ["_law_top", "_law_bottom"] (defScope (top 19)) := ⟨rfl, rfl, rfl, by decide +kernel, rfl, by decide +kernel, by decide +kernel⟩
theorem w__law_share (T : Fx K mg) (fd : FuncData) (cdv : Value) (A : Around) (outer : List Env) (s : Shared) (H : Hp) (E : XK) (hr : Room 1 (A.deeper (envOfC "_law_share" (defScope (top 19)) s.heap.objs.size (He.ga K "_law_share") cdv))) :
    PSs (cxOf (L2.CX P w) P w K mg base N__law_share "_law_share" (defScope (top 19)) (He.ga K "_law_share") cdv A outer s H E) (defBody (top 19)) (tS K (fun cls d _ H => E cls d H) b__law_share) := by
  have tk := tk_cx (P := P) (w := w) (K := K) (mg := mg) (base := base) (N := N__law_share) (qual := "_law_share") (scope := defScope (top 19)) (f := He.ga K "_law_share") (cd := cdv) (A := A) (outer := outer) (s := s) (H := H) (E := E)
  exact (mss_cons (ms_if (mt_cmp2 op_lt o_lt (me_varW (pv 1)) (weak me_int) (nomark _)) (mss_cons (ms_set (ps_set (i := 0) sc__law_share.nd rfl (Or.inl rfl) (me_un un_neg o_neg (me_varW (pv 0)))))
  (mss_one (ms_set (ps_set (i := 1) sc__law_share.nd rfl (Or.inl rfl) (me_un un_neg o_neg (me_varW (pv 1))))))) mss_nil)
  (mss_cons (ms_set (ps_set (i := 2) sc__law_share.nd rfl (Or.inl rfl) (me_call ((d__law_gcd T).mono (by decide)) hr tk (by rfl) (alen_cons (alen_cons alen_nil)) (ma_cons (me_var (pv 0)) (ma_cons (me_var (pv 1)) ma_nil)))))
  (mss_one (ms_ret (me_tup (ma_cons (me_op2 op_fdivB o_div (me_varW (pv 0)) (me_varW (pv 2))) (ma_cons (me_op2 op_fdivB o_div (me_varW (pv 1)) (me_varW (pv 2))) ma_nil)))))))
theorem d__law_share (T : Fx K mg) : Def P w K mg base 2 "_law_share" 2 [] m__law_share := by
  obtain ⟨fd, F⟩ := T.f__law_share
  exact Def.mk' (ps := ["_law_top", "_law_bottom"]) (N := N__law_share) (k := 1) F T.g__law_share sc__law_share b__law_share ⟨[], [], .nil, F.bindsN (fun _ _ _ _ _ _ us hl => match us, hl with | [_, _], _ => rfl), fun _ _ => .nil⟩ (fun cdv A outer s H E hr => w__law_share T fd cdv A outer s H E hr)
abbrev N__law_number : List Str := ["_law_deck_here", "_law_kind", "_law_number_here"]
theorem sc__law_number : FnScope N__law_number ["_law_deck_here"] (defScope (top 20)) := ⟨rfl, rfl, rfl, by decide +kernel, rfl, by decide +kernel, by decide +kernel⟩
theorem w__law_number (T : Fx K mg) (fd : FuncData) (cdv : Value) (A : Around) (outer : List Env) (s : Shared) (H : Hp) (E : XK) (hr : Room 3 (A.deeper (envOfC "_law_number" (defScope (top 20)) s.heap.objs.size (He.ga K "_law_number") cdv))) :
    PSs (cxOf (L2.CX P w) P w K mg base N__law_number "_law_number" (defScope (top 20)) (He.ga K "_law_number") cdv A outer s H E) (defBody (top 20)) (tS K (fun cls d _ H => E cls d H) b__law_number) := by
  have tk := tk_cx (P := P) (w := w) (K := K) (mg := mg) (base := base) (N := N__law_number) (qual := "_law_number") (scope := defScope (top 20)) (f := He.ga K "_law_number") (cd := cdv) (A := A) (outer := outer) (s := s) (H := H) (E := E)
  exact (mss_cons (ms_set (ps_set (i := 1) sc__law_number.nd rfl (Or.inl rfl) (me_callS ((d__law_take T).mono (by decide)) hr tk (by rfl) (alen_cons (alen_cons alen_nil)) (ma_cons (me_var (pv 0)) (ma_cons me_int ma_nil)))))
  (mss_cons (ms_set (ps_set (i := 2) sc__law_number.nd rfl (Or.inl rfl) (me_callS ((d__law_take T).mono (by decide)) hr tk (by rfl) (alen_cons (alen_cons alen_nil)) (ma_cons (me_var (pv 0)) (ma_cons me_int ma_nil)))))
  (mss_cons (ms_if (mt_cmp2 (op_eqD hr.units) o_eq (me_varW (pv 1)) (weak me_int) (nomark _)) (mss_one (ms_set (ps_set (i := 2) sc__law_number.nd rfl (Or.inl rfl) (me_callS ((d__law_take T).mono (by decide)) hr tk (by rfl) (alen_cons (alen_cons alen_nil)) (ma_cons (me_var (pv 0)) (ma_cons (me_op2 op_pow o_pow (weak me_int) (weak me_int)) ma_nil)))))) mss_nil)
  (mss_cons (ms_if (mt_cmp2 (op_eqD hr.units) o_eq (me_varW (pv 1)) (weak me_int) (nomark _)) (mss_one (ms_set (ps_set (i := 2) sc__law_number.nd rfl (Or.inl rfl) (me_callTy (call_intA T.lim) c_intA (by rfl) T.z_int (by decide +kernel) (maw_cons (weak (me_op2 op_mulS1 o_mulS1 (weak (me_callTy call_str_int c_strI (by rfl) T.z_str (by decide +kernel) (maw_cons (weak (me_op2 op_add4 o_add (weak me_int) (me_varW (pv 2)))) maw_nil))) (weak (me_op2 op_add4 o_add (weak me_int) (weak (me_callS ((d__law_take T).mono (by decide)) hr tk (by rfl) (alen_cons (alen_cons alen_nil)) (ma_cons (me_var (pv 0)) (ma_cons me_int ma_nil)))))))) maw_nil))))) mss_nil)
  (mss_cons (ms_if (PW.pt (mw_and (mt_cmp2 (op_eqD hr.units) o_eq (me_varW (pv 1)) (weak me_int) (nomark _)) (mw_and1 (mt_cmp2 (op_eqD hr.units) o_eq (weak (me_callS ((d__law_take T).mono (by decide)) hr tk (by rfl) (alen_cons (alen_cons alen_nil)) (ma_cons (me_var (pv 0)) (ma_cons me_int ma_nil)))) (weak me_int) (nomark _))))) (mss_one (ms_set (ps_set (i := 2) sc__law_number.nd rfl (Or.inl rfl) (me_callTy (call_intA T.lim) c_intA (by rfl) T.z_int (by decide +kernel) (maw_cons (weak (me_op2 op_mulS1 o_mulS1 (weak (me_callTy call_str_int c_strI (by rfl) T.z_str (by decide +kernel) (maw_cons (weak (me_op2 op_add4 o_add (weak me_int) (me_varW (pv 2)))) maw_nil))) (weak (me_op2 op_add4 o_add (weak me_int) (weak (me_callS ((d__law_take T).mono (by decide)) hr tk (by rfl) (alen_cons (alen_cons alen_nil)) (ma_cons (me_var (pv 0)) (ma_cons me_int ma_nil)))))))) maw_nil))))) mss_nil)
  (mss_one (ms_ret (me_var (pv 2)))))))))
theorem d__law_number (T : Fx K mg) : Def P w K mg base 4 "_law_number" 1 [] m__law_number := by
  obtain ⟨fd, F⟩ := T.f__law_number
  exact Def.mk' (ps := ["_law_deck_here"]) (N := N__law_number) (k := 3) F T.g__law_number sc__law_number b__law_number ⟨[], [], .nil, F.bindsN (fun _ _ _ _ _ _ us hl => match us, hl with | [_], _ => rfl), fun _ _ => .nil⟩ (fun cdv A outer s H E hr => w__law_number T fd cdv A outer s H E hr)
abbrev N__law_part : List Str := ["_law_deck_here", "_law_kind", "_law_number_here", "_law_beneath"]
theorem sc__law_part : FnScope N__law_part ["_law_deck_here"] (defScope (top 21)) := ⟨rfl, rfl, rfl, by decide +kernel, rfl, by decide +kernel, by decide +kernel⟩
theorem w__law_part (T : Fx K mg) (fd : FuncData) (cdv : Value) (A : Around) (outer : List Env) (s : Shared) (H : Hp) (E : XK) (hr : Room 4 (A.deeper (envOfC "_law_part" (defScope (top 21)) s.heap.objs.size (He.ga K "_law_part") cdv))) :
    PSs (cxOf (L2.CX P w) P w K mg base N__law_part "_law_part" (defScope (top 21)) (He.ga K "_law_part") cdv A outer s H E) (defBody (top 21)) (tS K (fun cls d _ H => E cls d H) b__law_part) := by
  have tk := tk_cx (P := P) (w := w) (K := K) (mg := mg) (base := base) (N := N__law_part) (qual := "_law_part") (scope := defScope (top 21)) (f := He.ga K "_law_part") (cd := cdv) (A := A) (outer := outer) (s := s) (H := H) (E := E)
  exact (mss_cons (ms_set (ps_set (i := 1) sc__law_part.nd rfl (Or.inl rfl) (me_callS ((d__law_take T).mono (by decide)) hr tk (by rfl) (alen_cons (alen_cons alen_nil)) (ma_cons (me_var (pv 0)) (ma_cons me_int ma_nil)))))
  (mss_cons (ms_set (ps_set (i := 2) sc__law_part.nd rfl (Or.inl rfl) (me_callS ((d__law_number T).mono (by decide)) hr tk (by rfl) (alen_cons alen_nil) (ma_cons (me_var (pv 0)) ma_nil))))
  (mss_cons (ms_set (ps_set (i := 3) sc__law_part.nd rfl (Or.inl rfl) me_int))
  (mss_cons (ms_if (mt_cmp2 (op_eqD hr.units) o_eq (me_varW (pv 1)) (weak me_int) (nomark _)) (mss_one (ms_set (ps_set (i := 3) sc__law_part.nd rfl (Or.inl rfl) (me_op2 op_add4 o_add (weak me_int) (weak (me_callS ((d__law_take T).mono (by decide)) hr tk (by rfl) (alen_cons (alen_cons alen_nil)) (ma_cons (me_var (pv 0)) (ma_cons me_int ma_nil)))))))) mss_nil)
  (mss_cons (ms_if (mt_cmp2 (op_eqD hr.units) o_eq (me_varW (pv 1)) (weak me_int) (nomark _)) (mss_one (ms_set (ps_set (i := 3) sc__law_part.nd rfl (Or.inl rfl) (me_op2 op_add4 o_add (weak me_int) (weak (me_callS ((d__law_number T).mono (by decide)) hr tk (by rfl) (alen_cons alen_nil) (ma_cons (me_var (pv 0)) ma_nil))))))) mss_nil)
  (mss_one (ms_ret (me_call ((d__law_share T).mono (by decide)) hr tk (by rfl) (alen_cons (alen_cons alen_nil)) (ma_cons (me_op2 op_mulW o_mul (me_varW (pv 2)) (weak (me_op2 op_sub o_sub (weak me_int) (weak (me_op2 op_mulW o_mul (weak me_int) (weak (me_callS ((d__law_take T).mono (by decide)) hr tk (by rfl) (alen_cons (alen_cons alen_nil)) (ma_cons (me_var (pv 0)) (ma_cons me_int ma_nil))))))))) (ma_cons (me_var (pv 3)) ma_nil))))))))))
theorem d__law_part (T : Fx K mg) : Def P w K mg base 5 "_law_part" 1 [] m__law_part := by
  obtain ⟨fd, F⟩ := T.f__law_part
  exact Def.mk' (ps := ["_law_deck_here"]) (N := N__law_part) (k := 4) F T.g__law_part sc__law_part b__law_part ⟨[], [], .nil, F.bindsN (fun _ _ _ _ _ _ us hl => match us, hl with | [_], _ => rfl), fun _ _ => .nil⟩ (fun cdv A outer s H E hr => w__law_part T fd cdv A outer s H E hr)
abbrev N__law_names : List Str := ["_law_deck_here", "_law_many", "_law_letters", "_law_found", "_law_turn", "_law_size", "_law_name", "_law_k"]
theorem sc__law_names : FnScope N__law_names ["_law_deck_here", "_law_many"] (defScope (top 22)) := ⟨rfl, rfl, rfl, by decide +kernel, rfl, by decide +kernel, by decide +kernel⟩
theorem w__law_names (T : Fx K mg) (fd : FuncData) (cdv : Value) (A : Around) (outer : List Env) (s : Shared) (H : Hp) (E : XK) (hr : Room 3 (A.deeper (envOfC "_law_names" (defScope (top 22)) s.heap.objs.size (He.ga K "_law_names") cdv))) :
    PSs (cxOf (L2.CX P w) P w K mg base N__law_names "_law_names" (defScope (top 22)) (He.ga K "_law_names") cdv A outer s H E) (defBody (top 22)) (tS K (fun cls d _ H => E cls d H) b__law_names) := by
  have tk := tk_cx (P := P) (w := w) (K := K) (mg := mg) (base := base) (N := N__law_names) (qual := "_law_names") (scope := defScope (top 22)) (f := He.ga K "_law_names") (cd := cdv) (A := A) (outer := outer) (s := s) (H := H) (E := E)
  exact (mss_cons (ms_set (ps_set (i := 2) sc__law_names.nd rfl (Or.inr rfl) me_str))
  (mss_cons (ms_setOwn (ps_set (i := 3) sc__law_names.nd rfl (Or.inl rfl) (mf_lst ma_nil)))
  (mss_cons (ms_for po_cx rfl (mi_range1 (by rfl) T.z_range (maw_cons (weak (me_op2 op_mulW o_mul (weak me_int) (me_varW (pv 1)))) maw_nil)) (mg_name (pg_name (i := 4) sc__law_names.nd rfl (Or.inl rfl))) (mss_cons (ms_set (ps_set (i := 5) sc__law_names.nd rfl (Or.inl rfl) (me_ix ix_seq o_ix (weak (me_new (mf_lst (ma_cons me_int (ma_cons me_int (ma_cons me_int (ma_cons me_int ma_nil))))))) (weak (me_callS ((d__law_take T).mono (by decide)) hr tk (by rfl) (alen_cons (alen_cons alen_nil)) (ma_cons (me_var (pv 0)) (ma_cons me_int ma_nil)))) (fun _ _ => rfl))))
  (mss_cons (ms_set (ps_set (i := 6) sc__law_names.nd rfl (Or.inl rfl) (me_join (weak (me_new (mf_lc (own := [("_law_k", 7)]) (ws := [7]) rfl sc__law_names.nd (toO (mi_range1 (by rfl) T.z_range (maw_cons (me_varW (pv 5)) maw_nil))) (blkOk_by (N := N__law_names) (sc := defScope (top 22)) (by decide +kernel)) (by decide) (fun _ _ _ _ _ => (mg_name (pg_name (i := 7) sc__law_names.nd rfl (Or.inl rfl)))) (fun _ _ _ _ _ => mts_nil) (fun _ _ _ _ _ => (me_ix ix_seq o_ix (me_varW (pv 2)) (weak (me_callS ((d__law_take T).mono (by decide)) hr takes0 (by rfl) (alen_cons (alen_cons alen_nil)) (ma_cons (me_var (pv 0)) (ma_cons me_int ma_nil)))) (fun _ _ => rfl)))))))))
  (mss_one (ms_if (PW.pt (mw_and (mt_cmp2 (op_notInD (room65 hr)) o_notin (me_varW (pv 6)) (me_varW (pv 3)) (by rfl)) (mw_and1 (mt_cmp2 op_lt o_lt (weak (me_callB call_len3 c_len (by rfl) T.z_len (by decide +kernel) (maw_cons (me_varW (pv 3)) maw_nil))) (me_varW (pv 1)) (nomark _))))) (mss_one (ms_app (ps_expr (pe_bm PySem.F.plainAttrs_list PySem.F.slot_list_append PySem.F.type_list_append mt_append (pv 3) (pa_cons (me_var (pv 6)) pa_nil))))) mss_nil)))))
  (mss_frz (mss_one (ms_ret (me_var (pv 3))))))))
theorem d__law_names (T : Fx K mg) : Def P w K mg base 4 "_law_names" 2 [] m__law_names := by
  obtain ⟨fd, F⟩ := T.f__law_names
  exact Def.mk' (ps := ["_law_deck_here", "_law_many"]) (N := N__law_names) (k := 3) F T.g__law_names sc__law_names b__law_names ⟨[], [], .nil, F.bindsN (fun _ _ _ _ _ _ us hl => match us, hl with | [_, _], _ => rfl), fun _ _ => .nil⟩ (fun cdv A outer s H E hr => w__law_names T fd cdv A outer s H E hr)
abbrev N__law_shape : List Str := ["_law_deck_here", "_law_span", "_law_wide", "_law_high", "_law_low", "_law_kind"]
theorem sc__law_shape : FnScope N__law_shape ["_law_deck_here"] (defScope (top 23)) := ⟨rfl, rfl, rfl, by decide +kernel, rfl, by decide +kernel, by decide +kernel⟩
theorem w__law_shape (T : Fx K mg) (fd : FuncData) (cdv : Value) (A : Around) (outer : List Env) (s : Shared) (H : Hp) (E : XK) (hr : Room 3 (A.deeper (envOfC "_law_shape" (defScope (top 23)) s.heap.objs.size (He.ga K "_law_shape") cdv))) :
    PSs (cxOf (L2.CX P w) P w K mg base N__law_shape "_law_shape" (defScope (top 23)) (He.ga K "_law_shape") cdv A outer s H E) (defBody (top 23)) (tS K (fun cls d _ H => E cls d H) b__law_shape) := by
  have tk := tk_cx (P := P) (w := w) (K := K) (mg := mg) (base := base) (N := N__law_shape) (qual := "_law_shape") (scope := defScope (top 23)) (f := He.ga K "_law_shape") (cd := cdv) (A := A) (outer := outer) (s := s) (H := H) (E := E)
  exact (mss_cons (ms_set (ps_set (i := 1) sc__law_shape.nd rfl (Or.inl rfl) (me_ix ix_seq o_ix (weak (me_new (mf_lst (ma_cons me_int (ma_cons me_int (ma_cons me_int ma_nil)))))) (weak (me_callS ((d__law_take T).mono (by decide)) hr tk (by rfl) (alen_cons (alen_cons alen_nil)) (ma_cons (me_var (pv 0)) (ma_cons me_int ma_nil)))) (fun _ _ => rfl))))
  (mss_cons (ms_set (ps_set (i := 2) sc__law_shape.nd rfl (Or.inl rfl) (me_op2 op_add4 o_add (weak me_int) (weak (me_callS ((d__law_take T).mono (by decide)) hr tk (by rfl) (alen_cons (alen_cons alen_nil)) (ma_cons (me_var (pv 0)) (ma_cons (me_var (pv 1)) ma_nil)))))))
  (mss_cons (ms_set (ps_set (i := 3) sc__law_shape.nd rfl (Or.inl rfl) (me_op2 op_add4 o_add (weak me_int) (weak (me_callS ((d__law_take T).mono (by decide)) hr tk (by rfl) (alen_cons (alen_cons alen_nil)) (ma_cons (me_var (pv 0)) (ma_cons (me_var (pv 1)) ma_nil)))))))
  (mss_cons (ms_set (ps_set (i := 4) sc__law_shape.nd rfl (Or.inl rfl) (me_op2 op_sub o_sub (weak (me_callS ((d__law_take T).mono (by decide)) hr tk (by rfl) (alen_cons (alen_cons alen_nil)) (ma_cons (me_var (pv 0)) (ma_cons (me_op2 op_mulW o_mul (weak me_int) (me_varW (pv 1))) ma_nil)))) (me_varW (pv 1)))))
  (mss_cons (ms_set (ps_set (i := 5) sc__law_shape.nd rfl (Or.inl rfl) (me_callS ((d__law_take T).mono (by decide)) hr tk (by rfl) (alen_cons (alen_cons alen_nil)) (ma_cons (me_var (pv 0)) (ma_cons me_int ma_nil)))))
  (mss_cons (ms_if (mt_cmp2 (op_eqD hr.units) o_eq (me_varW (pv 5)) (weak me_int) (nomark _)) (mss_one (ms_ret (me_tup (ma_cons (me_tup (ma_cons me_int (ma_cons (me_var (pv 4)) ma_nil))) (ma_cons (me_tup (ma_cons (me_var (pv 2)) (ma_cons (me_var (pv 4)) ma_nil))) (ma_cons (me_tup (ma_cons (me_var (pv 2)) (ma_cons (me_op2 op_add4 o_add (me_varW (pv 4)) (me_varW (pv 3))) ma_nil))) (ma_cons (me_tup (ma_cons me_int (ma_cons (me_op2 op_add4 o_add (me_varW (pv 4)) (me_varW (pv 3))) ma_nil))) ma_nil))))))) mss_nil)
  (mss_cons (ms_if (mt_cmp2 (op_eqD hr.units) o_eq (me_varW (pv 5)) (weak me_int) (nomark _)) (mss_one (ms_ret (me_tup (ma_cons (me_tup (ma_cons (me_un un_neg o_neg (me_varW (pv 2))) (ma_cons (me_var (pv 4)) ma_nil))) (ma_cons (me_tup (ma_cons me_int (ma_cons (me_op2 op_sub o_sub (me_varW (pv 4)) (me_varW (pv 3))) ma_nil))) (ma_cons (me_tup (ma_cons (me_var (pv 2)) (ma_cons (me_var (pv 4)) ma_nil))) ma_nil)))))) mss_nil)
  (mss_cons (ms_set (ps_set (i := 2) sc__law_shape.nd rfl (Or.inl rfl) (me_op2 op_add4 o_add (weak me_int) (weak (me_op2 op_fdivB o_div (me_varW (pv 2)) (weak me_int))))))
  (mss_one (ms_ret (me_tup (ma_cons (me_tup (ma_cons (me_op2 op_mulW o_mul (weak (me_un un_neg o_neg (weak me_int))) (me_varW (pv 2))) (ma_cons me_int ma_nil))) (ma_cons (me_tup (ma_cons (me_op2 op_mulW o_mul (weak (me_un un_neg o_neg (weak me_int))) (me_varW (pv 2))) (ma_cons (me_un un_neg o_neg (weak me_int)) ma_nil))) (ma_cons (me_tup (ma_cons (me_op2 op_mulW o_mul (weak (me_un un_neg o_neg (weak me_int))) (me_varW (pv 2))) (ma_cons (me_un un_neg o_neg (weak me_int)) ma_nil))) (ma_cons (me_tup (ma_cons me_int (ma_cons (me_un un_neg o_neg (weak me_int)) ma_nil))) (ma_cons (me_tup (ma_cons me_int (ma_cons me_int ma_nil))) (ma_cons (me_tup (ma_cons (me_op2 op_mulW o_mul (weak (me_un un_neg o_neg (weak me_int))) (me_varW (pv 2))) (ma_cons me_int ma_nil))) (ma_cons (me_tup (ma_cons (me_op2 op_mulW o_mul (weak (me_un un_neg o_neg (weak me_int))) (me_varW (pv 2))) (ma_cons me_int ma_nil))) ma_nil))))))))))))))))))
theorem d__law_shape (T : Fx K mg) : Def P w K mg base 4 "_law_shape" 1 [] m__law_shape := by
  obtain ⟨fd, F⟩ := T.f__law_shape
  exact Def.mk' (ps := ["_law_deck_here"]) (N := N__law_shape) (k := 3) F T.g__law_shape sc__law_shape b__law_shape ⟨[], [], .nil, F.bindsN (fun _ _ _ _ _ _ us hl => match us, hl with | [_], _ => rfl), fun _ _ => .nil⟩ (fun cdv A outer s H E hr => w__law_shape T fd cdv A outer s H E hr)
abbrev N__law_row : List Str := ["_law_deck_here", "_law_name", "_law_far", "_law_kind", "_law_shape_here", "_law_beneath", "_law_place", "_law_weight", "_law_fast", "_law_p", "_law_q", "_law_part_here", "_law_way"]
theorem sc__law_row : FnScope N__law_row ["_law_deck_here", "_law_name", "_law_far"] (defScope (top 24)) := ⟨rfl, rfl, rfl, by decide +kernel, rfl, by decide +kernel, by decide +kernel⟩
theorem w__law_row (T : Fx K mg) (fd : FuncData) (cdv : Value) (A : Around) (outer : List Env) (s : Shared) (H : Hp) (E : XK) (hr : Room 5 (A.deeper (envOfC "_law_row" (defScope (top 24)) s.heap.objs.size (He.ga K "_law_row") cdv))) :
    PSs (cxOf (L2.CX P w) P w K mg base N__law_row "_law_row" (defScope (top 24)) (He.ga K "_law_row") cdv A outer s H E) (defBody (top 24)) (tS K (fun cls d _ H => E cls d H) b__law_row) := by
  have tk := tk_cx (P := P) (w := w) (K := K) (mg := mg) (base := base) (N := N__law_row) (qual := "_law_row") (scope := defScope (top 24)) (f := He.ga K "_law_row") (cd := cdv) (A := A) (outer := outer) (s := s) (H := H) (E := E)
  exact (mss_cons (ms_set (ps_set (i := 3) sc__law_row.nd rfl (Or.inl rfl) (me_callS ((d__law_take T).mono (by decide)) hr tk (by rfl) (alen_cons (alen_cons alen_nil)) (ma_cons (me_var (pv 0)) (ma_cons me_int ma_nil)))))
  (mss_cons (ms_set (ps_set (i := 4) sc__law_row.nd rfl (Or.inl rfl) (me_callS ((d__law_shape T).mono (by decide)) hr tk (by rfl) (alen_cons alen_nil) (ma_cons (me_var (pv 0)) ma_nil))))
  (mss_cons (ms_set (ps_set (i := 5) sc__law_row.nd rfl (Or.inl rfl) (me_op2 op_add4 o_add (weak me_int) (weak (me_op2 op_mulW o_mul (weak (me_callS ((d__law_take T).mono (by decide)) hr tk (by rfl) (alen_cons (alen_cons alen_nil)) (ma_cons (me_var (pv 0)) (ma_cons me_int ma_nil)))) (weak me_int))))))
  (mss_cons (ms_set (ps_set (i := 6) sc__law_row.nd rfl (Or.inl rfl) (me_tup (ma_cons (me_call ((d__law_share T).mono (by decide)) hr tk (by rfl) (alen_cons (alen_cons alen_nil)) (ma_cons (me_op2 op_add4 o_add (weak (me_op2 op_mulW o_mul (weak (me_op2 op_mulW o_mul (weak (me_op2 op_pow o_pow (weak me_int) (weak me_int))) (me_varW (pv 2)))) (me_varW (pv 5)))) (weak (me_callS ((d__law_take T).mono (by decide)) hr tk (by rfl) (alen_cons (alen_cons alen_nil)) (ma_cons (me_var (pv 0)) (ma_cons me_int ma_nil))))) (ma_cons (me_var (pv 5)) ma_nil))) (ma_cons (me_callS ((d__law_part T).mono (by decide)) hr tk (by rfl) (alen_cons alen_nil) (ma_cons (me_var (pv 0)) ma_nil)) ma_nil)))))
  (mss_cons (ms_if (mt_cmp2 (op_eqD hr.units) o_eq (me_varW (pv 3)) (weak me_int) (nomark _)) (mss_one (ms_ret (me_tup (ma_cons (me_var (pv 1)) (ma_cons (me_var (pv 4)) (ma_cons me_int (ma_cons me_non (ma_cons (me_var (pv 6)) (ma_cons (me_tup (ma_cons (me_tup (ma_cons me_int (ma_cons me_int ma_nil))) (ma_cons (me_tup (ma_cons me_int (ma_cons me_int ma_nil))) ma_nil))) ma_nil))))))))) mss_nil)
  (mss_cons (ms_set (ps_set (i := 7) sc__law_row.nd rfl (Or.inl rfl) (me_ix ix_seq o_ix (weak (me_new (mf_lst (ma_cons me_int (ma_cons (me_op2 op_add4 o_add (weak me_int) (weak (me_callS ((d__law_take T).mono (by decide)) hr tk (by rfl) (alen_cons (alen_cons alen_nil)) (ma_cons (me_var (pv 0)) (ma_cons me_int ma_nil))))) ma_nil))))) (weak (me_callS ((d__law_take T).mono (by decide)) hr tk (by rfl) (alen_cons (alen_cons alen_nil)) (ma_cons (me_var (pv 0)) (ma_cons me_int ma_nil)))) (fun _ _ => rfl))))
  (mss_cons (ms_set (ps_set (i := 8) sc__law_row.nd rfl (Or.inl rfl) (me_callS ((d__law_part T).mono (by decide)) hr tk (by rfl) (alen_cons alen_nil) (ma_cons (me_var (pv 0)) ma_nil))))
  (mss_cons (ms_if (mt_cmp2 (op_eqD hr.units) o_eq (me_varW (pv 3)) (weak me_int) (nomark _)) (mss_one (ms_ret (me_tup (ma_cons (me_var (pv 1)) (ma_cons (me_var (pv 4)) (ma_cons (me_var (pv 7)) (ma_cons me_non (ma_cons (me_var (pv 6)) (ma_cons (me_tup (ma_cons (me_var (pv 8)) (ma_cons (me_callS ((d__law_part T).mono (by decide)) hr tk (by rfl) (alen_cons alen_nil) (ma_cons (me_var (pv 0)) ma_nil)) ma_nil))) ma_nil))))))))) mss_nil)
  (mss_cons (ms_set (ps_set (i := 9) sc__law_row.nd rfl (Or.inl rfl) (me_op2 op_sub o_sub (weak (me_callS ((d__law_take T).mono (by decide)) hr tk (by rfl) (alen_cons (alen_cons alen_nil)) (ma_cons (me_var (pv 0)) (ma_cons me_int ma_nil)))) (weak me_int))))
  (mss_cons (ms_set (ps_set (i := 10) sc__law_row.nd rfl (Or.inl rfl) (me_op2 op_add4 o_add (weak me_int) (weak (me_callS ((d__law_take T).mono (by decide)) hr tk (by rfl) (alen_cons (alen_cons alen_nil)) (ma_cons (me_var (pv 0)) (ma_cons me_int ma_nil)))))))
  (mss_cons (ms_set (ps_set (i := 11) sc__law_row.nd rfl (Or.inl rfl) (me_op2 op_mulW o_mul (weak (me_call ((d__law_gcd T).mono (by decide)) hr tk (by rfl) (alen_cons (alen_cons alen_nil)) (ma_cons (me_var (pv 9)) (ma_cons (me_var (pv 10)) ma_nil)))) (weak (me_op2 op_sub o_sub (weak me_int) (weak (me_op2 op_mulW o_mul (weak me_int) (weak (me_callS ((d__law_take T).mono (by decide)) hr tk (by rfl) (alen_cons (alen_cons alen_nil)) (ma_cons (me_var (pv 0)) (ma_cons me_int ma_nil)))))))))))
  (mss_cons (ms_par (ps_par (i := 9) (j := 10) rfl sc__law_row.nd rfl rfl (by decide) rfl rfl (ma_cons (me_op2 op_fdivB o_div (me_varW (pv 9)) (me_varW (pv 11))) (ma_cons (me_op2 op_fdivB o_div (me_varW (pv 10)) (me_varW (pv 11))) ma_nil)) (by rfl)))
  (mss_cons (ms_set (ps_set (i := 12) sc__law_row.nd rfl (Or.inl rfl) (me_tup (ma_cons (me_call ((d__law_share T).mono (by decide)) hr tk (by rfl) (alen_cons (alen_cons alen_nil)) (ma_cons (me_op2 op_mulW o_mul (me_varW (pv 9)) (weak (me_ix ix_seq o_ix (me_varW (pv 8)) (weak me_int) (fun _ _ => rfl)))) (ma_cons (me_ix ix_seq o_ix (me_varW (pv 8)) (weak me_int) (fun _ _ => rfl)) ma_nil))) (ma_cons (me_call ((d__law_share T).mono (by decide)) hr tk (by rfl) (alen_cons (alen_cons alen_nil)) (ma_cons (me_op2 op_mulW o_mul (me_varW (pv 10)) (weak (me_ix ix_seq o_ix (me_varW (pv 8)) (weak me_int) (fun _ _ => rfl)))) (ma_cons (me_ix ix_seq o_ix (me_varW (pv 8)) (weak me_int) (fun _ _ => rfl)) ma_nil))) ma_nil)))))
  (mss_one (ms_ret (me_tup (ma_cons (me_var (pv 1)) (ma_cons (me_var (pv 4)) (ma_cons (me_var (pv 7)) (ma_cons (me_tup (ma_cons (me_var (pv 9)) (ma_cons (me_var (pv 10)) ma_nil))) (ma_cons (me_var (pv 6)) (ma_cons (me_var (pv 12)) ma_nil))))))))))))))))))))))
theorem d__law_row (T : Fx K mg) : Def P w K mg base 6 "_law_row" 3 [] m__law_row := by
  obtain ⟨fd, F⟩ := T.f__law_row
  exact Def.mk' (ps := ["_law_deck_here", "_law_name", "_law_far"]) (N := N__law_row) (k := 5) F T.g__law_row sc__law_row b__law_row ⟨[], [], .nil, F.bindsN (fun _ _ _ _ _ _ us hl => match us, hl with | [_, _, _], _ => rfl), fun _ _ => .nil⟩ (fun cdv A outer s H E hr => w__law_row T fd cdv A outer s H E hr)
abbrev N__law_state : List Str := ["_law_deck_here", "_law_many", "_law_drift", "_law_beneath", "_law_bounce", "_law_clock", "_law_rows", "_law_far", "_law_name"]
theorem sc__law_state : FnScope N__law_state ["_law_deck_here", "_law_many"] (defScope (top 25)) := ⟨rfl, rfl, rfl, by decide +kernel, rfl, by decide +kernel, by decide +kernel⟩
theorem w__law_state (T : Fx K mg) (fd : FuncData) (cdv : Value) (A : Around) (outer : List Env) (s : Shared) (H : Hp) (E : XK) (hr : Room 6 (A.deeper (envOfC "_law_state" (defScope (top 25)) s.heap.objs.size (He.ga K "_law_state") cdv))) :
    PSs (cxOf (L2.CX P w) P w K mg base N__law_state "_law_state" (defScope (top 25)) (He.ga K "_law_state") cdv A outer s H E) (defBody (top 25)) (tS K (fun cls d _ H => E cls d H) b__law_state) := by
  have tk := tk_cx (P := P) (w := w) (K := K) (mg := mg) (base := base) (N := N__law_state) (qual := "_law_state") (scope := defScope (top 25)) (f := He.ga K "_law_state") (cd := cdv) (A := A) (outer := outer) (s := s) (H := H) (E := E)
  exact (mss_cons (ms_set (ps_set (i := 2) sc__law_state.nd rfl (Or.inl rfl) (me_tup (ma_cons (me_callS ((d__law_part T).mono (by decide)) hr tk (by rfl) (alen_cons alen_nil) (ma_cons (me_var (pv 0)) ma_nil)) (ma_cons (me_callS ((d__law_part T).mono (by decide)) hr tk (by rfl) (alen_cons alen_nil) (ma_cons (me_var (pv 0)) ma_nil)) ma_nil)))))
  (mss_cons (ms_set (ps_set (i := 3) sc__law_state.nd rfl (Or.inl rfl) (me_op2 op_add4 o_add (weak me_int) (weak (me_callS ((d__law_take T).mono (by decide)) hr tk (by rfl) (alen_cons (alen_cons alen_nil)) (ma_cons (me_var (pv 0)) (ma_cons me_int ma_nil)))))))
  (mss_cons (ms_set (ps_set (i := 4) sc__law_state.nd rfl (Or.inl rfl) (me_call ((d__law_share T).mono (by decide)) hr tk (by rfl) (alen_cons (alen_cons alen_nil)) (ma_cons (me_callS ((d__law_take T).mono (by decide)) hr tk (by rfl) (alen_cons (alen_cons alen_nil)) (ma_cons (me_var (pv 0)) (ma_cons (me_op2 op_add4 o_add (me_varW (pv 3)) (weak me_int)) ma_nil))) (ma_cons (me_var (pv 3)) ma_nil)))))
  (mss_cons (ms_set (ps_set (i := 5) sc__law_state.nd rfl (Or.inl rfl) (me_callS ((d__law_part T).mono (by decide)) hr tk (by rfl) (alen_cons alen_nil) (ma_cons (me_var (pv 0)) ma_nil))))
  (mss_cons (ms_setOwn (ps_set (i := 6) sc__law_state.nd rfl (Or.inl rfl) (mf_lst ma_nil)))
  (mss_cons (ms_for po_cx rfl (mi_enum2 (by rfl) T.z_enumerate (ma_cons (me_callS ((d__law_names T).mono (by decide)) hr tk (by rfl) (alen_cons (alen_cons alen_nil)) (ma_cons (me_var (pv 0)) (ma_cons (me_var (pv 1)) ma_nil))) ma_nil)) (mg_tup rfl (glen_cons (glen_cons glen_nil)) (mgs_cons (mg_name (pg_name (i := 7) sc__law_state.nd rfl (Or.inl rfl))) (mgs_cons (mg_name (pg_name (i := 8) sc__law_state.nd rfl (Or.inl rfl))) mgs_nil))) (mss_one (ms_app (ps_expr (pe_bm PySem.F.plainAttrs_list PySem.F.slot_list_append PySem.F.type_list_append mt_append (pv 6) (pa_cons (me_callS ((d__law_row T).mono (by decide)) hr tk (by rfl) (alen_cons (alen_cons (alen_cons alen_nil))) (ma_cons (me_var (pv 0)) (ma_cons (me_var (pv 8)) (ma_cons (me_var (pv 7)) ma_nil)))) pa_nil))))))
  (mss_frz (mss_one (ms_ret (me_tup (ma_cons (me_var (pv 2)) (ma_cons (me_var (pv 4)) (ma_cons (me_tup (ma_cons (me_callB call_abs c_abs (by rfl) T.z_abs (by decide +kernel) (maw_cons (weak (me_ix ix_seq o_ix (me_varW (pv 5)) (weak me_int) (fun _ _ => rfl))) maw_nil)) (ma_cons (me_ix ix_seq o_ix (me_varW (pv 5)) (weak me_int) (fun _ _ => rfl)) ma_nil))) (ma_cons (me_callTy call_tuple_of c_tup (by rfl) T.z_tuple (by decide +kernel) (maw_cons (weak (me_new (mf_sortD hr.units (by rfl) T.z_sorted (maw_cons (me_varW (pv 6)) maw_nil)))) maw_nil)) ma_nil))))))))))))))
theorem d__law_state (T : Fx K mg) : Def P w K mg base 7 "_law_state" 2 [] m__law_state := by
  obtain ⟨fd, F⟩ := T.f__law_state
  exact Def.mk' (ps := ["_law_deck_here", "_law_many"]) (N := N__law_state) (k := 6) F T.g__law_state sc__law_state b__law_state ⟨[], [], .nil, F.bindsN (fun _ _ _ _ _ _ us hl => match us, hl with | [_, _], _ => rfl), fun _ _ => .nil⟩ (fun cdv A outer s H E hr => w__law_state T fd cdv A outer s H E hr)
abbrev N__law_word : List Str := ["_law_part_here"]
theorem sc__law_word : FnScope N__law_word ["_law_part_here"] (defScope (top 26)) := ⟨rfl, rfl, rfl, by decide +kernel, rfl, by decide +kernel, by decide +kernel⟩
theorem w__law_word (T : Fx K mg) (fd : FuncData) (cdv : Value) (A : Around) (outer : List Env) (s : Shared) (H : Hp) (E : XK) (hr : Room 0 (A.deeper (envOfC "_law_word" (defScope (top 26)) s.heap.objs.size (He.ga K "_law_word") cdv))) :
    PSs (cxOf (L2.CX P w) P w K mg base N__law_word "_law_word" (defScope (top 26)) (He.ga K "_law_word") cdv A outer s H E) (defBody (top 26)) (tS K (fun cls d _ H => E cls d H) b__law_word) := by
  have tk := tk_cx (P := P) (w := w) (K := K) (mg := mg) (base := base) (N := N__law_word) (qual := "_law_word") (scope := defScope (top 26)) (f := He.ga K "_law_word") (cd := cdv) (A := A) (outer := outer) (s := s) (H := H) (E := E)
  exact (mss_cons (ms_if (mt_cmp2 (op_eqD hr.units) o_eq (weak (me_ix ix_seq o_ix (me_varW (pv 0)) (weak me_int) (fun _ _ => rfl))) (weak me_int) (nomark _)) (mss_one (ms_ret (me_callTy call_str_int c_strI (by rfl) T.z_str (by decide +kernel) (maw_cons (weak (me_ix ix_seq o_ix (me_varW (pv 0)) (weak me_int) (fun _ _ => rfl))) maw_nil)))) mss_nil)
  (mss_one (ms_ret (me_op2 op_add4 o_add (weak (me_op2 op_add4 o_add (weak (me_callTy call_str_int c_strI (by rfl) T.z_str (by decide +kernel) (maw_cons (weak (me_ix ix_seq o_ix (me_varW (pv 0)) (weak me_int) (fun _ _ => rfl))) maw_nil))) (weak me_str))) (weak (me_callTy call_str_int c_strI (by rfl) T.z_str (by decide +kernel) (maw_cons (weak (me_ix ix_seq o_ix (me_varW (pv 0)) (weak me_int) (fun _ _ => rfl))) maw_nil)))))))
theorem d__law_word (T : Fx K mg) : Def P w K mg base 1 "_law_word" 1 [] m__law_word := by
  obtain ⟨fd, F⟩ := T.f__law_word
  exact Def.mk' (ps := ["_law_part_here"]) (N := N__law_word) (k := 0) F T.g__law_word sc__law_word b__law_word ⟨[], [], .nil, F.bindsN (fun _ _ _ _ _ _ us hl => match us, hl with | [_], _ => rfl), fun _ _ => .nil⟩ (fun cdv A outer s H E hr => w__law_word T fd cdv A outer s H E hr)
abbrev N__law_words : List Str := ["_law_row_here", "_law_name", "_law_shape_here", "_law_weight", "_law_way", "_law_place", "_law_fast", "_law_head", "_law_going", "_law_part_here", "_law_x", "_law_y"]
theorem sc__law_words : FnScope N__law_words ["_law_row_here"] (defScope (top 27)) := ⟨rfl, rfl, rfl, by decide +kernel, rfl, by decide +kernel, by decide +kernel⟩
theorem w__law_words (T : Fx K mg) (fd : FuncData) (cdv : Value) (A : Around) (outer : List Env) (s : Shared) (H : Hp) (E : XK) (hr : Room 1 (A.deeper (envOfC "_law_words" (defScope (top 27)) s.heap.objs.size (He.ga K "_law_words") cdv))) :
    PSs (cxOf (L2.CX P w) P w K mg base N__law_words "_law_words" (defScope (top 27)) (He.ga K "_law_words") cdv A outer s H E) (defBody (top 27)) (tS K (fun cls d _ H => E cls d H) b__law_words) := by
  have tk := tk_cx (P := P) (w := w) (K := K) (mg := mg) (base := base) (N := N__law_words) (qual := "_law_words") (scope := defScope (top 27)) (f := He.ga K "_law_words") (cd := cdv) (A := A) (outer := outer) (s := s) (H := H) (E := E)
  exact (mss_cons (ms_asg (me_var (pv 0)) (mg_tup rfl (glen_cons (glen_cons (glen_cons (glen_cons (glen_cons (glen_cons glen_nil)))))) (mgs_cons (mg_name (pg_name (i := 1) sc__law_words.nd rfl (Or.inl rfl))) (mgs_cons (mg_name (pg_name (i := 2) sc__law_words.nd rfl (Or.inl rfl))) (mgs_cons (mg_name (pg_name (i := 3) sc__law_words.nd rfl (Or.inl rfl))) (mgs_cons (mg_name (pg_name (i := 4) sc__law_words.nd rfl (Or.inl rfl))) (mgs_cons (mg_name (pg_name (i := 5) sc__law_words.nd rfl (Or.inl rfl))) (mgs_cons (mg_name (pg_name (i := 6) sc__law_words.nd rfl (Or.inl rfl))) mgs_nil))))))))
  (mss_cons (ms_set (ps_set (i := 7) sc__law_words.nd rfl (Or.inl rfl) (me_new (mf_lst (ma_cons me_str (ma_cons (me_var (pv 1)) ma_nil))))))
  (mss_cons (ms_lc (by decide) (ps_setLc (i := 8) (own := [("_law_part_here", 9)]) rfl sc__law_words.nd rfl rfl (sw_true rfl rfl rfl (by decide +kernel)) (toO (mi_seq (me_var (pv 5)))) (blkOk_by (N := N__law_words) (sc := defScope (top 27)) (by decide +kernel)) (fun _ _ _ _ _ => (mg_name (pg_name (i := 9) sc__law_words.nd rfl (Or.inl rfl)))) (fun _ _ _ _ _ => mts_nil) (fun _ _ _ _ _ => (me_call ((d__law_word T).mono (by decide)) hr takes0 (by rfl) (alen_cons alen_nil) (ma_cons (me_var (pv 9)) ma_nil)))))
  (mss_cons (ms_if (mt_cmp2 op_gt o_gt (me_varW (pv 3)) (weak me_int) (nomark _)) (mss_cons (ms_set (ps_set (i := 7) sc__law_words.nd rfl (Or.inl rfl) (me_new (mf_lst (ma_cons me_str (ma_cons (me_var (pv 1)) (ma_cons (me_callTy call_str_int c_strI (by rfl) T.z_str (by decide +kernel) (maw_cons (me_varW (pv 3)) maw_nil)) ma_nil)))))))
  (mss_one (ms_set (ps_set (i := 8) sc__law_words.nd rfl (Or.inl rfl) (me_op2 op_add4 o_add (me_varW (pv 8)) (weak (me_new (mf_lc (own := [("_law_part_here", 9)]) (ws := [9]) rfl sc__law_words.nd (toO (mi_seq (me_var (pv 6)))) (blkOk_by (N := N__law_words) (sc := defScope (top 27)) (by decide +kernel)) (by decide) (fun _ _ _ _ _ => (mg_name (pg_name (i := 9) sc__law_words.nd rfl (Or.inl rfl)))) (fun _ _ _ _ _ => mts_nil) (fun _ _ _ _ _ => (me_call ((d__law_word T).mono (by decide)) hr takes0 (by rfl) (alen_cons alen_nil) (ma_cons (me_var (pv 9)) ma_nil))))))))))) mss_nil)
  (mss_cons (ms_if (mt_cmp2 op_notN o_isnt (me_varW (pv 4)) (weak me_non) (nomark _)) (mss_one (ms_set (ps_set (i := 7) sc__law_words.nd rfl (Or.inl rfl) (me_new (mf_lst (ma_cons me_str (ma_cons (me_var (pv 1)) (ma_cons (me_callTy call_str_int c_strI (by rfl) T.z_str (by decide +kernel) (maw_cons (me_varW (pv 3)) maw_nil)) (ma_cons (me_callTy call_str_int c_strI (by rfl) T.z_str (by decide +kernel) (maw_cons (weak (me_ix ix_seq o_ix (me_varW (pv 4)) (weak me_int) (fun _ _ => rfl))) maw_nil)) (ma_cons (me_callTy call_str_int c_strI (by rfl) T.z_str (by decide +kernel) (maw_cons (weak (me_ix ix_seq o_ix (me_varW (pv 4)) (weak me_int) (fun _ _ => rfl))) maw_nil)) ma_nil)))))))))) mss_nil)
  (mss_one (ms_ret (me_op2 op_add4 o_add (weak (me_op2 op_add4 o_add (me_varW (pv 7)) (me_varW (pv 8)))) (weak (me_new (mf_lc (own := [("_law_x", 10), ("_law_y", 11)]) (ws := [10, 11]) rfl sc__law_words.nd (toO (mi_seq (me_var (pv 2)))) (blkOk_by (N := N__law_words) (sc := defScope (top 27)) (by decide +kernel)) (by decide) (fun _ _ _ _ _ => (mg_tup rfl (glen_cons (glen_cons glen_nil)) (mgs_cons (mg_name (pg_name (i := 10) sc__law_words.nd rfl (Or.inl rfl))) (mgs_cons (mg_name (pg_name (i := 11) sc__law_words.nd rfl (Or.inl rfl))) mgs_nil)))) (fun _ _ _ _ _ => mts_nil) (fun _ _ _ _ _ => (me_op2 op_add4 o_add (weak (me_op2 op_add4 o_add (weak (me_callTy call_str_int c_strI (by rfl) T.z_str (by decide +kernel) (maw_cons (me_varW (pv 10)) maw_nil))) (weak me_str))) (weak (me_callTy call_str_int c_strI (by rfl) T.z_str (by decide +kernel) (maw_cons (me_varW (pv 11)) maw_nil))))))))))))))))
theorem d__law_words (T : Fx K mg) : Def P w K mg base 2 "_law_words" 1 [] m__law_words := by
  obtain ⟨fd, F⟩ := T.f__law_words
  exact Def.mk' (ps := ["_law_row_here"]) (N := N__law_words) (k := 1) F T.g__law_words sc__law_words b__law_words ⟨[], [], .nil, F.bindsN (fun _ _ _ _ _ _ us hl => match us, hl with | [_], _ => rfl), fun _ _ => .nil⟩ (fun cdv A outer s H E hr => w__law_words T fd cdv A outer s H E hr)
abbrev N__law_lines : List Str := ["_law_state_here", "_law_drift", "_law_bounce", "_law_clock", "_law_rows", "_law_head", "_law_part_here", "_law_words_here", "_law_row_here"]
theorem sc__law_lines : FnScope N__law_lines ["_law_state_here"] (defScope (top 28)) := ⟨rfl, rfl, rfl, by decide +kernel, rfl, by decide +kernel, by decide +kernel⟩
theorem w__law_lines (T : Fx K mg) (fd : FuncData) (cdv : Value) (A : Around) (outer : List Env) (s : Shared) (H : Hp) (E : XK) (hr : Room 2 (A.deeper (envOfC "_law_lines" (defScope (top 28)) s.heap.objs.size (He.ga K "_law_lines") cdv))) :
    PSs (cxOf (L2.CX P w) P w K mg base N__law_lines "_law_lines" (defScope (top 28)) (He.ga K "_law_lines") cdv A outer s H E) (defBody (top 28)) (tS K (fun cls d _ H => E cls d H) b__law_lines) := by
  have tk := tk_cx (P := P) (w := w) (K := K) (mg := mg) (base := base) (N := N__law_lines) (qual := "_law_lines") (scope := defScope (top 28)) (f := He.ga K "_law_lines") (cd := cdv) (A := A) (outer := outer) (s := s) (H := H) (E := E)
  exact (mss_cons (ms_asg (me_var (pv 0)) (mg_tup rfl (glen_cons (glen_cons (glen_cons (glen_cons glen_nil)))) (mgs_cons (mg_name (pg_name (i := 1) sc__law_lines.nd rfl (Or.inl rfl))) (mgs_cons (mg_name (pg_name (i := 2) sc__law_lines.nd rfl (Or.inl rfl))) (mgs_cons (mg_name (pg_name (i := 3) sc__law_lines.nd rfl (Or.inl rfl))) (mgs_cons (mg_name (pg_name (i := 4) sc__law_lines.nd rfl (Or.inl rfl))) mgs_nil))))))
  (mss_cons (ms_set (ps_set (i := 5) sc__law_lines.nd rfl (Or.inl rfl) (me_op2 op_add4 o_add (weak (me_new (mf_lst (ma_cons me_str ma_nil)))) (weak (me_new (mf_lc (own := [("_law_part_here", 6)]) (ws := [6]) rfl sc__law_lines.nd (toO (mi_seq (me_new (mf_lst (ma_cons (me_ix ix_seq o_ix (me_varW (pv 1)) (weak me_int) (fun _ _ => rfl)) (ma_cons (me_ix ix_seq o_ix (me_varW (pv 1)) (weak me_int) (fun _ _ => rfl)) (ma_cons (me_var (pv 2)) (ma_cons (me_var (pv 3)) ma_nil)))))))) (blkOk_by (N := N__law_lines) (sc := defScope (top 28)) (by decide +kernel)) (by decide) (fun _ _ _ _ _ => (mg_name (pg_name (i := 6) sc__law_lines.nd rfl (Or.inl rfl)))) (fun _ _ _ _ _ => mts_nil) (fun _ _ _ _ _ => (me_call ((d__law_word T).mono (by decide)) hr takes0 (by rfl) (alen_cons alen_nil) (ma_cons (me_var (pv 6)) ma_nil)))))))))
  (mss_one (ms_ret (me_new (mf_lc (own := [("_law_words_here", 7)]) (ws := [7]) rfl sc__law_lines.nd (toO (mi_seq (me_op2 op_add4 o_add (weak (me_new (mf_lst (ma_cons (me_var (pv 5)) ma_nil)))) (weak (me_new (mf_lc (own := [("_law_row_here", 8)]) (ws := [8]) rfl sc__law_lines.nd (toO (mi_seq (me_var (pv 4)))) (blkOk_by (N := N__law_lines) (sc := defScope (top 28)) (by decide +kernel)) (by decide) (fun _ _ _ _ _ => (mg_name (pg_name (i := 8) sc__law_lines.nd rfl (Or.inl rfl)))) (fun _ _ _ _ _ => mts_nil) (fun _ _ _ _ _ => (me_call ((d__law_words T).mono (by decide)) hr takes0 (by rfl) (alen_cons alen_nil) (ma_cons (me_var (pv 8)) ma_nil))))))))) (blkOk_by (N := N__law_lines) (sc := defScope (top 28)) (by decide +kernel)) (by decide) (fun _ _ _ _ _ => (mg_name (pg_name (i := 7) sc__law_lines.nd rfl (Or.inl rfl)))) (fun _ _ _ _ _ => mts_nil) (fun _ _ _ _ _ => (me_join (me_varW (pv 7))))))))))
theorem d__law_lines (T : Fx K mg) : Def P w K mg base 3 "_law_lines" 1 [] m__law_lines := by
  obtain ⟨fd, F⟩ := T.f__law_lines
  exact Def.mk' (ps := ["_law_state_here"]) (N := N__law_lines) (k := 2) F T.g__law_lines sc__law_lines b__law_lines ⟨[], [], .nil, F.bindsN (fun _ _ _ _ _ _ us hl => match us, hl with | [_], _ => rfl), fun _ _ => .nil⟩ (fun cdv A outer s H E hr => w__law_lines T fd cdv A outer s H E hr)
abbrev N_Body____str__ : List Str := ["self"]
theorem sc_Body____str__ : FnScope N_Body____str__ ["self"] (defScope (mth 6 5)) := ⟨rfl, rfl, rfl, by decide +kernel, rfl, by decide +kernel, by decide +kernel⟩
theorem w_Body____str__ (T : Fx K mg) (cdv : Value) (A : Around) (outer : List Env) (s : Shared) (H : Hp) (E : XK) (hr : Room 3 (A.deeper (envOfC "Body.__str__" (defScope (mth 6 5)) s.heap.objs.size (He.ma K (He.ga K "Body") "__str__") cdv))) :
    PSs (cxOf (L2.CX P w) P w K mg base N_Body____str__ "Body.__str__" (defScope (mth 6 5)) (He.ma K (He.ga K "Body") "__str__") cdv A outer s H E) (defBody (mth 6 5)) (tS K (fun cls d _ H => E cls d H) b_Body____str__) := by
  have tk := tk_cx (P := P) (w := w) (K := K) (mg := mg) (base := base) (N := N_Body____str__) (qual := "Body.__str__") (scope := defScope (mth 6 5)) (f := (He.ma K (He.ga K "Body") "__str__")) (cd := cdv) (A := A) (outer := outer) (s := s) (H := H) (E := E)
  exact (mss_one (ms_ret (me_join (weak (me_call ((d_body_words T).mono (by decide)) hr tk (by rfl) (alen_cons alen_nil) (ma_cons (me_fld (me_varW (pv 0)) (fm_cons ⟨T.cl_Body, T.n_Body_row⟩ (fm_cons ⟨T.cl_Wall, T.n_Wall_row⟩ (fm_cons ⟨T.cl_Free, T.n_Free_row⟩ (fm_cons ⟨T.cl_Railed, T.n_Railed_row⟩ fm_nil))))) ma_nil))))))
theorem d_Body____str__ (T : Fx K mg) : MethE P w K mg base 4 "Body" "__str__" 1 m_Body____str__ := by
  obtain ⟨fd, F⟩ := T.f_Body____str__
  exact ⟨fd, ["self"], fn_mk (N := N_Body____str__) (ps := ["self"]) (k := 3) F sc_Body____str__ b_Body____str__ (fun cdv A outer s H E hr => w_Body____str__ T cdv A outer s H E hr), F.bindsN (fun _ _ _ _ _ _ us hl => match us, hl with | [_], _ => rfl), T.cl_Body, T.mt_Body___str__⟩
abbrev N_Wall____str__ : List Str := ["self"]
theorem sc_Wall____str__ : FnScope N_Wall____str__ ["self"] (defScope (mth 6 5)) := ⟨rfl, rfl, rfl, by decide +kernel, rfl, by decide +kernel, by decide +kernel⟩
theorem w_Wall____str__ (T : Fx K mg) (cdv : Value) (A : Around) (outer : List Env) (s : Shared) (H : Hp) (E : XK) (hr : Room 3 (A.deeper (envOfC "Body.__str__" (defScope (mth 6 5)) s.heap.objs.size (He.ma K (He.ga K "Wall") "__str__") cdv))) :
    PSs (cxOf (L2.CX P w) P w K mg base N_Wall____str__ "Body.__str__" (defScope (mth 6 5)) (He.ma K (He.ga K "Wall") "__str__") cdv A outer s H E) (defBody (mth 6 5)) (tS K (fun cls d _ H => E cls d H) b_Wall____str__) := by
  have tk := tk_cx (P := P) (w := w) (K := K) (mg := mg) (base := base) (N := N_Wall____str__) (qual := "Body.__str__") (scope := defScope (mth 6 5)) (f := (He.ma K (He.ga K "Wall") "__str__")) (cd := cdv) (A := A) (outer := outer) (s := s) (H := H) (E := E)
  exact (mss_one (ms_ret (me_join (weak (me_call ((d_body_words T).mono (by decide)) hr tk (by rfl) (alen_cons alen_nil) (ma_cons (me_fld (me_varW (pv 0)) (fm_cons ⟨T.cl_Body, T.n_Body_row⟩ (fm_cons ⟨T.cl_Wall, T.n_Wall_row⟩ (fm_cons ⟨T.cl_Free, T.n_Free_row⟩ (fm_cons ⟨T.cl_Railed, T.n_Railed_row⟩ fm_nil))))) ma_nil))))))
theorem d_Wall____str__ (T : Fx K mg) : MethE P w K mg base 4 "Wall" "__str__" 1 m_Wall____str__ := by
  obtain ⟨fd, F⟩ := T.f_Wall____str__
  exact ⟨fd, ["self"], fn_mk (N := N_Wall____str__) (ps := ["self"]) (k := 3) F sc_Wall____str__ b_Wall____str__ (fun cdv A outer s H E hr => w_Wall____str__ T cdv A outer s H E hr), F.bindsN (fun _ _ _ _ _ _ us hl => match us, hl with | [_], _ => rfl), T.cl_Wall, T.mt_Wall___str__⟩
abbrev N_Free____str__ : List Str := ["self"]
theorem sc_Free____str__ : FnScope N_Free____str__ ["self"] (defScope (mth 6 5)) := ⟨rfl, rfl, rfl, by decide +kernel, rfl, by decide +kernel, by decide +kernel⟩
theorem w_Free____str__ (T : Fx K mg) (cdv : Value) (A : Around) (outer : List Env) (s : Shared) (H : Hp) (E : XK) (hr : Room 3 (A.deeper (envOfC "Body.__str__" (defScope (mth 6 5)) s.heap.objs.size (He.ma K (He.ga K "Free") "__str__") cdv))) :
    PSs (cxOf (L2.CX P w) P w K mg base N_Free____str__ "Body.__str__" (defScope (mth 6 5)) (He.ma K (He.ga K "Free") "__str__") cdv A outer s H E) (defBody (mth 6 5)) (tS K (fun cls d _ H => E cls d H) b_Free____str__) := by
  have tk := tk_cx (P := P) (w := w) (K := K) (mg := mg) (base := base) (N := N_Free____str__) (qual := "Body.__str__") (scope := defScope (mth 6 5)) (f := (He.ma K (He.ga K "Free") "__str__")) (cd := cdv) (A := A) (outer := outer) (s := s) (H := H) (E := E)
  exact (mss_one (ms_ret (me_join (weak (me_call ((d_body_words T).mono (by decide)) hr tk (by rfl) (alen_cons alen_nil) (ma_cons (me_fld (me_varW (pv 0)) (fm_cons ⟨T.cl_Body, T.n_Body_row⟩ (fm_cons ⟨T.cl_Wall, T.n_Wall_row⟩ (fm_cons ⟨T.cl_Free, T.n_Free_row⟩ (fm_cons ⟨T.cl_Railed, T.n_Railed_row⟩ fm_nil))))) ma_nil))))))
theorem d_Free____str__ (T : Fx K mg) : MethE P w K mg base 4 "Free" "__str__" 1 m_Free____str__ := by
  obtain ⟨fd, F⟩ := T.f_Free____str__
  exact ⟨fd, ["self"], fn_mk (N := N_Free____str__) (ps := ["self"]) (k := 3) F sc_Free____str__ b_Free____str__ (fun cdv A outer s H E hr => w_Free____str__ T cdv A outer s H E hr), F.bindsN (fun _ _ _ _ _ _ us hl => match us, hl with | [_], _ => rfl), T.cl_Free, T.mt_Free___str__⟩
abbrev N_Railed____str__ : List Str := ["self"]
theorem sc_Railed____str__ : FnScope N_Railed____str__ ["self"] (defScope (mth 6 5)) := ⟨rfl, rfl, rfl, by decide +kernel, rfl, by decide +kernel, by decide +kernel⟩
theorem w_Railed____str__ (T : Fx K mg) (cdv : Value) (A : Around) (outer : List Env) (s : Shared) (H : Hp) (E : XK) (hr : Room 3 (A.deeper (envOfC "Body.__str__" (defScope (mth 6 5)) s.heap.objs.size (He.ma K (He.ga K "Railed") "__str__") cdv))) :
    PSs (cxOf (L2.CX P w) P w K mg base N_Railed____str__ "Body.__str__" (defScope (mth 6 5)) (He.ma K (He.ga K "Railed") "__str__") cdv A outer s H E) (defBody (mth 6 5)) (tS K (fun cls d _ H => E cls d H) b_Railed____str__) := by
  have tk := tk_cx (P := P) (w := w) (K := K) (mg := mg) (base := base) (N := N_Railed____str__) (qual := "Body.__str__") (scope := defScope (mth 6 5)) (f := (He.ma K (He.ga K "Railed") "__str__")) (cd := cdv) (A := A) (outer := outer) (s := s) (H := H) (E := E)
  exact (mss_one (ms_ret (me_join (weak (me_call ((d_body_words T).mono (by decide)) hr tk (by rfl) (alen_cons alen_nil) (ma_cons (me_fld (me_varW (pv 0)) (fm_cons ⟨T.cl_Body, T.n_Body_row⟩ (fm_cons ⟨T.cl_Wall, T.n_Wall_row⟩ (fm_cons ⟨T.cl_Free, T.n_Free_row⟩ (fm_cons ⟨T.cl_Railed, T.n_Railed_row⟩ fm_nil))))) ma_nil))))))
theorem d_Railed____str__ (T : Fx K mg) : MethE P w K mg base 4 "Railed" "__str__" 1 m_Railed____str__ := by
  obtain ⟨fd, F⟩ := T.f_Railed____str__
  exact ⟨fd, ["self"], fn_mk (N := N_Railed____str__) (ps := ["self"]) (k := 3) F sc_Railed____str__ b_Railed____str__ (fun cdv A outer s H E hr => w_Railed____str__ T cdv A outer s H E hr), F.bindsN (fun _ _ _ _ _ _ us hl => match us, hl with | [_], _ => rfl), T.cl_Railed, T.mt_Railed___str__⟩
abbrev N_law : List Str := ["_law_script", "_law_deck_here", "_law_many", "_law_state_here", "_law_lines_here", "_law_row_here", "_law_line", "_law_found", "_law_fewer"]
theorem sc_law : FnScope N_law ["_law_script"] (defScope (top 29)) := ⟨rfl, rfl, rfl, by decide +kernel, rfl, by decide +kernel, by decide +kernel⟩
def law0 : Stmt := (defBody (top 29)).headD (.Pass ⟨0, 0, 0, 0⟩)
def lawr : List Stmt := (defBody (top 29)).tail
theorem law_body : defBody (top 29) = law0 :: lawr := by rfl
theorem w_law0 (T : Fx K mg) (cdv : Value) (A : Around) (outer : List Env) (s : Shared) (H : Hp) (E : XK) (hr : Room 7 (A.deeper (envOfC "law" (defScope (top 29)) s.heap.objs.size (He.ga K "law") cdv))) :
    PS (cxOf (L2.CX P w) P w K mg base N_law "law" (defScope (top 29)) (He.ga K "law") cdv A outer s H E) law0 (tAsg (tCallSD (spDk 1 K m__law_deck) [] (WE fun cls d _ H => E cls d H) (tCons (tVar 0) tNil)) (gName 1)) := by
  have tk := tk_cx (P := P) (w := w) (K := K) (mg := mg) (base := base) (N := N_law) (qual := "law") (scope := defScope (top 29)) (f := He.ga K "law") (cd := cdv) (A := A) (outer := outer) (s := s) (H := H) (E := E)
  exact (ps_set (i := 1) sc_law.nd rfl (Or.inl rfl) (pe_deck ((d__law_deck T).mono (by decide)) hr tk (by rfl) (pa_cons (pv 0) pa_nil)))
theorem w_law (T : Fx K mg) (cdv : Value) (A : Around) (outer : List Env) (s : Shared) (H : Hp) (E : XK) (hr : Room 7 (A.deeper (envOfC "law" (defScope (top 29)) s.heap.objs.size (He.ga K "law") cdv))) :
    PSs (cxOf (L2.CX P w) P w K mg base N_law "law" (defScope (top 29)) (He.ga K "law") cdv A outer s H E) lawr (tS K (fun cls d _ H => E cls d H) b_law) := by
  have tk := tk_cx (P := P) (w := w) (K := K) (mg := mg) (base := base) (N := N_law) (qual := "law") (scope := defScope (top 29)) (f := He.ga K "law") (cd := cdv) (A := A) (outer := outer) (s := s) (H := H) (E := E)
  exact (mss_cons (ms_set (ps_set (i := 2) sc_law.nd rfl (Or.inl rfl) (me_ix ix_seq o_ix (weak (me_new (mf_lst (ma_cons me_int (ma_cons me_int (ma_cons me_int (ma_cons me_int (ma_cons (me_callS ((d__law_take T).mono (by decide)) hr tk (by rfl) (alen_cons (alen_cons alen_nil)) (ma_cons (me_var (pv 1)) (ma_cons me_int ma_nil))) (ma_cons (me_callS ((d__law_take T).mono (by decide)) hr tk (by rfl) (alen_cons (alen_cons alen_nil)) (ma_cons (me_var (pv 1)) (ma_cons me_int ma_nil))) ma_nil))))))))) (weak (me_callS ((d__law_take T).mono (by decide)) hr tk (by rfl) (alen_cons (alen_cons alen_nil)) (ma_cons (me_var (pv 1)) (ma_cons me_int ma_nil)))) (fun _ _ => rfl))))
  (mss_cons (ms_set (ps_set (i := 3) sc_law.nd rfl (Or.inl rfl) (me_callS ((d__law_state T).mono (by decide)) hr tk (by rfl) (alen_cons (alen_cons alen_nil)) (ma_cons (me_var (pv 1)) (ma_cons (me_var (pv 2)) ma_nil)))))
  (mss_cons (ms_set (ps_set (i := 4) sc_law.nd rfl (Or.inl rfl) (me_call ((d__law_lines T).mono (by decide)) hr tk (by rfl) (alen_cons alen_nil) (ma_cons (me_var (pv 3)) ma_nil))))
  (mss_cons (ms_for po_cx rfl (mi_zipW (by rfl) T.z_zip (ma_cons (me_ix ix_seq o_ix (me_varW (pv 3)) (weak me_int) (fun _ _ => rfl)) (ma_cons (me_cutA (me_varW (pv 4)) (mo_some me_int) mo_none) ma_nil))) (mg_tup rfl (glen_cons (glen_cons glen_nil)) (mgs_cons (mg_name (pg_name (i := 5) sc_law.nd rfl (Or.inl rfl))) (mgs_cons (mg_name (pg_name (i := 6) sc_law.nd rfl (Or.inl rfl))) mgs_nil))) (mss_cons (ms_set (ps_set (i := 7) sc_law.nd rfl (Or.inl rfl) (me_strO (k := 4) (fm_cons ((d_Body____str__ T).mono (by decide)) (fm_cons ((d_Wall____str__ T).mono (by decide)) (fm_cons ((d_Free____str__ T).mono (by decide)) (fm_cons ((d_Railed____str__ T).mono (by decide)) fm_nil)))) (hr.mono (by decide)) (me_call ((d_body_of T).mono (by decide)) hr tk (by rfl) (alen_cons alen_nil) (ma_cons (me_var (pv 5)) ma_nil)) (by rfl) T.z_str)))
  (mss_one (ms_if (PW.pt (mw_or (mt_not (mt_truth (weak (me_callB call_isi c_isi (by rfl) T.z_isinstance (by decide +kernel) (maw_cons (me_varW (pv 7)) (maw_cons (weak (me_type (by rfl) T.z_str (by decide +kernel))) maw_nil)))))) (mw_or1 (mt_cmp2 op_ne_ss o_neSS (me_varW (pv 7)) (me_varW (pv 6)) (nomark _))))) (mss_one (ms_ret me_bl)) mss_nil))))
  (mss_cons (ms_set (ps_set (i := 7) sc_law.nd rfl (Or.inl rfl) (me_call ((d_state_text T).mono (by decide)) hr tk (by rfl) (alen_cons alen_nil) (ma_cons (me_var (pv 3)) ma_nil))))
  (mss_cons (ms_if (PW.pt (mw_or (mt_not (mt_truth (weak (me_callB call_isi c_isi (by rfl) T.z_isinstance (by decide +kernel) (maw_cons (me_varW (pv 7)) (maw_cons (weak (me_type (by rfl) T.z_str (by decide +kernel))) maw_nil)))))) (mw_or1 (mt_cmp2 op_ne_ss o_neSS (me_varW (pv 7)) (weak (me_join (me_varW (pv 4)))) (nomark _))))) (mss_one (ms_ret me_bl)) mss_nil)
  (mss_cons (ms_set (ps_set (i := 8) sc_law.nd rfl (Or.inl rfl) (me_op2 op_add4 o_add (weak (me_cutA (me_varW (pv 3)) mo_none (mo_some me_int))) (weak (me_tup (ma_cons (me_cutA (weak (me_ix ix_seq o_ix (me_varW (pv 3)) (weak me_int) (fun _ _ => rfl))) (mo_some me_int) mo_none) ma_nil))))))
  (mss_one (ms_ret (me_and (me_cmp2 op_eq_ss o_eqSS (weak (me_call ((d_state_text T).mono (by decide)) hr tk (by rfl) (alen_cons alen_nil) (ma_cons (me_var (pv 8)) ma_nil))) (weak (me_join (weak (me_op2 op_add4 o_add (weak (me_cutA (me_varW (pv 4)) mo_none (mo_some me_int))) (weak (me_cutA (me_varW (pv 4)) (mo_some me_int) mo_none)))))) (nomark _)) (me_one (me_cmp2 op_eq_ss o_eqSS (weak (me_call ((d_state_text T).mono (by decide)) hr tk (by rfl) (alen_cons alen_nil) (ma_cons (me_var (pv 3)) ma_nil))) (me_varW (pv 7)) (nomark _)))))))))))))
theorem d_law (T : Fx K mg) : ∃ fd : FuncData, (∀ (s : Shared) (u : Value), BindsTo s fd ⟨[u], []⟩ [("_law_script", u)]) ∧ ∀ base : Heap, FnOk P w K mg base (L2.CX P w) 8 (He.ga K "law") fd ["_law_script"] (spLaw K 9 m__law_deck b_law) := by
  obtain ⟨fd, F⟩ := T.f_law
  refine ⟨fd, fun s u => F.bindsA (ps := ["_law_script"]) (fun _ _ _ _ _ _ us hl => match us, hl with | [_], _ => rfl) s [u] rfl, fun base => ?_⟩
  rw [law_body] at F
  exact law_fn (N := N_law) F sc_law (by decide) ((d__law_deck T).mono (by decide)) (fun cdv A outer s H E hr => w_law0 T cdv A outer s H E hr) (fun cdv A outer s H E hr => w_law T cdv A outer s H E hr)
end
end MM
end
namespace MM
open PySem PySem.Spec PyProof.Rows L2
theorem lawFx {K : Fg} {h : Heap} {mg : Str → Option Value} (X : K.In h) (G : h.Ns mainGlobals mg) (c : SaysM lawChk lawFn K) : Fx K mg where
  f__wall := c.def_ 0
  g__wall := cGlo_ok X G (c.fact 0)
  z_str := cFree_ok X G (c.fact 1)
  f_share_text := c.def_ 1
  g_share_text := cGlo_ok X G (c.fact 2)
  f_spot_words := c.def_ 2
  g_spot_words := cGlo_ok X G (c.fact 3)
  f_body_words := c.def_ 3
  g_body_words := cGlo_ok X G (c.fact 4)
  f_body_of := c.def_ 4
  g_body_of := cGlo_ok X G (c.fact 5)
  f_state_text := c.def_ 5
  g_state_text := cGlo_ok X G (c.fact 6)
  z_len := cFree_ok X G (c.fact 7)
  z_abs := cFree_ok X G (c.fact 8)
  f__law_cell := c.def_ 6
  g__law_cell := cGlo_ok X G (c.fact 9)
  f__law_mixed := c.def_ 7
  g__law_mixed := cGlo_ok X G (c.fact 10)
  f__law_deck := c.def_ 8
  g__law_deck := cGlo_ok X G (c.fact 11)
  f__law_take := c.def_ 9
  g__law_take := cGlo_ok X G (c.fact 12)
  f__law_gcd := c.def_ 10
  g__law_gcd := cGlo_ok X G (c.fact 13)
  f__law_share := c.def_ 11
  g__law_share := cGlo_ok X G (c.fact 14)
  lim := cLim_ok (c.fact 15)
  z_int := cFree_ok X G (c.fact 16)
  f__law_number := c.def_ 12
  g__law_number := cGlo_ok X G (c.fact 17)
  f__law_part := c.def_ 13
  g__law_part := cGlo_ok X G (c.fact 18)
  z_range := cFree_ok X G (c.fact 19)
  f__law_names := c.def_ 14
  g__law_names := cGlo_ok X G (c.fact 20)
  f__law_shape := c.def_ 15
  g__law_shape := cGlo_ok X G (c.fact 21)
  f__law_row := c.def_ 16
  g__law_row := cGlo_ok X G (c.fact 22)
  z_enumerate := cFree_ok X G (c.fact 23)
  z_sorted := cFree_ok X G (c.fact 24)
  z_tuple := cFree_ok X G (c.fact 25)
  f__law_state := c.def_ 17
  g__law_state := cGlo_ok X G (c.fact 26)
  f__law_word := c.def_ 18
  g__law_word := cGlo_ok X G (c.fact 27)
  f__law_words := c.def_ 19
  g__law_words := cGlo_ok X G (c.fact 28)
  f__law_lines := c.def_ 20
  g__law_lines := cGlo_ok X G (c.fact 29)
  cl_Railed := cClsF_ok (c.fact 30)
  n_Railed_row := cNoat_ok (c.fact 31)
  cl_Free := cClsF_ok (c.fact 32)
  n_Free_row := cNoat_ok (c.fact 33)
  cl_Wall := cClsF_ok (c.fact 34)
  n_Wall_row := cNoat_ok (c.fact 35)
  cl_Body := cClsF_ok (c.fact 36)
  n_Body_row := cNoat_ok (c.fact 37)
  f_Body____str__ := c.def_ 22
  mt_Body___str__ := cMeth_ok (c.fact 38)
  f_Wall____str__ := c.def_ 23
  mt_Wall___str__ := cMeth_ok (c.fact 39)
  f_Free____str__ := c.def_ 24
  mt_Free___str__ := cMeth_ok (c.fact 40)
  f_Railed____str__ := c.def_ 25
  mt_Railed___str__ := cMeth_ok (c.fact 41)
  z_zip := cFree_ok X G (c.fact 42)
  z_isinstance := cFree_ok X G (c.fact 43)
  f_law := c.def_ 21
  g_law := cGlo_ok X G (c.fact 44)
  f_Body__answer := c.def_ 26
  mt_Body_answer := cMeth_ok (c.fact 45)
  f_Body__kick := c.def_ 27
  mt_Body_kick := cMeth_ok (c.fact 46)
  f_Body__may := c.def_ 28
  mt_Body_may := cMeth_ok (c.fact 47)
  f_Wall__answer := c.def_ 29
  mt_Wall_answer := cMeth_ok (c.fact 48)
  f_Wall__kick := c.def_ 30
  mt_Wall_kick := cMeth_ok (c.fact 49)
  f_Wall__may := c.def_ 31
  mt_Wall_may := cMeth_ok (c.fact 50)
  f_Free__answer := c.def_ 32
  mt_Free_answer := cMeth_ok (c.fact 51)
  f_Free__kick := c.def_ 33
  mt_Free_kick := cMeth_ok (c.fact 52)
  f_Free__may := c.def_ 34
  mt_Free_may := cMeth_ok (c.fact 53)
  f_Railed__kick := c.def_ 35
  mt_Railed_kick := cMeth_ok (c.fact 54)
  f_Railed__answer := c.def_ 36
  mt_Railed_answer := cMeth_ok (c.fact 55)
  f_Railed__may := c.def_ 37
  mt_Railed_may := cMeth_ok (c.fact 56)
  f_Wall__init := c.def_ 38
  mk_Wall := cMkr_ok (c.fact 57)
  g_Wall := cGlo_ok X G (c.fact 58)
  n_Wall_name := cNoat_ok (c.fact 59)
  n_Wall_mass := cNoat_ok (c.fact 60)
  f_Free__init := c.def_ 39
  mk_Free := cMkr_ok (c.fact 61)
  g_Free := cGlo_ok X G (c.fact 62)
  n_Free_name := cNoat_ok (c.fact 63)
  n_Free_mass := cNoat_ok (c.fact 64)
  f_Railed__init := c.def_ 40
  mk_Railed := cMkr_ok (c.fact 65)
  g_Railed := cGlo_ok X G (c.fact 66)
  n_Railed_name := cNoat_ok (c.fact 67)
  n_Railed_mass := cNoat_ok (c.fact 68)
end MM
open PySem PySem.W PySem.Calls PyProof.Rows
theorem PySem.Challenge.cw_restbodies_k71_states_written_holds : PySem.Challenge.rw_restbodies_k71_states_written.Holds := by
  w_on; o_law
  refine MM.head_anyL (r := OpenLaw.row PySem.Challenge.rw_restbodies_k71_states_written) (q := view (OpenLaw.row PySem.Challenge.rw_restbodies_k71_states_written).prog [29]) (H := MM.lawHook) (ob := MM.lawOb) (M := 20000) (loose := MM.lawLoose) (d := HandSHeadRun.topDef (OpenLaw.row PySem.Challenge.rw_restbodies_k71_states_written).prog 29) (kwd := []) MM.lawOb_eq
    (by kernel_rfl) (fun s => by kernel_rfl) MM.lawRun (fun _ => ⟨rfl, rfl, rfl⟩) (by kernel_rfl) (by kernel_rfl) (by kernel_rfl) (by rfl) (by first | assumption | decide +kernel) (by decide +kernel) ⟨rfl, rfl, rfl, rfl, rfl, by decide +kernel⟩ ?hw ?hc
  case hw => w_witness2
  case hc =>
    exact MM.walk_mm (n := 63) (k := 8) (nn := 5) (N := 9) (m := MM.m__law_deck) (rest := MM.b_law) rfl (by decide) rfl rfl (MM.room_k (by decide))
      (fun w mg K h X G c => ⟨MM.cGlo_ok X G (c.fact 44), MM.d_law (MM.lawFx X G c)⟩) (fun ns hl hb => MM.law_good ns hl hb)

