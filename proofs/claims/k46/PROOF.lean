import PyProof.Rows.All
import Wide.All
import OpenK.AllK
import Wide.FinOn
import HandS.ForMost
import HandS.ForExc
import HandS.Wide
import HandS.CallSlots
import HandS.HeadHook2
import HandS.Walk
import PyProof.DictRoadsH
import HandS.TryOnly
import HandS.ExcIs
import HandS.IsInst
import HandS.TupAny
import HandS.Flow
import HandS.EndBits
import HandS.IntHex
import HandS.Head0
import HandS.Head1
import HandS.Head2
import HandS.HeadEnd
import HandS.HeadHook1
import HandS.Ends
import KE.KUnpackStar
import HandS.Iter
import HandS.Zip
import HandS.Rev
import HandS.List
import HandS.SortInts
import HandS.Defaults
import HandS.Zip0
import HandS.Style
import KE.SortData
import KE.DataMinMax
import HandS.Deep
import KE.DataEq
import HandS.DictComp
import HandS.Small
import KE.KDictWalk
import KE.KDictList
import HandS.DictSubView
import KE.GoesMore
import PySem.Challenge.RW_restbodies_k46_partings
set_option Elab.async false
set_option linter.all false
set_option maxRecDepth 100000
set_option maxHeartbeats 4000000
/-! M1: plain data D, how it stands in the abstract heap, outcomes, the state of a body, readings by outcome, persistence. -/
namespace MM
open PySem PySem.Spec PyProof.Rows L2
abbrev St := L2.St

inductive D where
  | non | bl (b : Bool) | int (i : Int) | str (x : Str)
  | tup (xs : List D) | lst (xs : List D) | dct (ks vs : List D) | obj (C : Str) (ns : List Str) (vs : List D) | at (a : Addr) | ty (n : String) | cls (C : Str) | scr (ns : List Int)

abbrev Fp := Addr → Prop
abbrev Fg := PySem.W.Frag

def TupF (K : Fg) (F : Fp) (H : Hp) (a : Addr) (xs : List V) : Prop :=
  (¬ F a ∧ Rd H a (.tup xs)) ∨ ∃ (o : Obj) (its : Array Value) (n : Nat), K.lookup a = some o ∧ o.cls = .type "tuple" ∧ o.data = .seq its n ∧ its.size ≤ sizeLine ∧ Vals xs its.toList
abbrev LsR (_ : Fg) (H : Hp) (a : Addr) (xs : List V) : Prop := Rd H a (.lst xs)
def LstF (K : Fg) (F : Fp) (H : Hp) (a : Addr) (xs : List V) : Prop := ¬ F a ∧ LsR K H a xs
/-- the script: a list of ints that may be one of the written part -/
def ScrF (K : Fg) (F : Fp) (H : Hp) (a : Addr) (xs : List V) : Prop :=
  (¬ F a ∧ Rd H a (.lst xs)) ∨ ∃ (o : Obj) (its : Array Value) (n : Nat), K.lookup a = some o ∧ o.cls = .type "list" ∧ o.dict = none ∧ o.data = .seq its n ∧ its.size ≤ sizeLine ∧ Vals xs its.toList
theorem LsR.sq {K : Fg} {H : Hp} {a : Addr} {xs : List V} (h : LsR K H a xs) : SqL K H a xs := .inl h
theorem LstF.ls {K : Fg} {F : Fp} {H : Hp} {a : Addr} {xs : List V} (h : LstF K F H a xs) : LsR K H a xs := h.2
theorem ScrF.sq {K : Fg} {F : Fp} {H : Hp} {a : Addr} {xs : List V} (h : ScrF K F H a xs) : SqL K H a xs := by
  rcases h with ⟨_, h⟩ | h
  · exact .inl h
  · exact .inr h
theorem TupF.sq {K : Fg} {F : Fp} {H : Hp} {a : Addr} {xs : List V} (h : TupF K F H a xs) : SqT K H a xs := by
  rcases h with ⟨_, h⟩ | h
  · exact .inl h
  · exact .inr h
theorem LstF.sq {K : Fg} {F : Fp} {H : Hp} {a : Addr} {xs : List V} (h : LstF K F H a xs) : SqL K H a xs := .inl h.2

/-! ### a dict whose keys are tuples of ints: its one object alone; the key tuples are told apart -/
section
abbrev EX := List Int × Addr × V
def thi (ks : List Int) : Int := reduceHash (Builtin.Tuple.tupleHashOf (ks.map hashInt))
def entX (x : List Int × Addr × Value) : DictEntry := ⟨thi x.1, .ref x.2.1, x.2.2⟩
abbrev PX : List EX → List (List Int × Addr × Value) → Prop := Paired fun p q => p.1 = q.1 ∧ p.2.1 = q.2.1 ∧ RelV p.2.2 q.2.2
/-- what its object is -/
def OX (a : Addr) (o : Obj) (es : List EX) : Prop :=
  es.length ≤ sizeLine ∧ (a == sysModules) = false ∧ (es.map (·.1)).Nodup ∧ ∃ xs, PX es xs ∧ ∃ (arr : Array DictEntry) (ep : Nat), o.ExactDict ∧ o.data = .dict arr ep ∧ arr.toList = xs.map entX
/-- an object that is known -/
def exo (a : Addr) (o : Obj) : HO := .ext fun h => h.get? a = some o
theorem exo_ok {P : Program} {w : World} {H : Hp} {h : Heap} {a : Addr} {o : Obj} (e : h.get? a = some o) : ObjOk P w H h a (exo a o) := ⟨e, ⟨o, e⟩, fun _ _ d k => k o d⟩
theorem exo_get {P : Program} {w : World} {H : Hp} {h : Heap} {a : Addr} {o : Obj} (x : ObjOk P w H h a (exo a o)) : h.get? a = some o := x.1
theorem PX.keys : ∀ {es : List EX} {xs : List (List Int × Addr × Value)}, PX es xs → xs.map (·.1) = es.map (·.1)
  | _, _, .nil => rfl
  | _, _, .cons h t => by rw [List.map_cons, List.map_cons, h.1, PX.keys t]
/-- the keys are such tuples there -/
def KeyX (P : Program) (w : World) (h : Heap) (es : List EX) : Prop := ∀ p ∈ es, (tupleKind (intKind P w)).is h p.1 p.2.1
theorem dx_dict {P : Program} {w : World} {H : Hp} {h : Heap} {a : Addr} {ob : Obj} {es : List EX} (x : ObjOk P w H h a (exo a ob)) (ox : OX a ob es) (k : KeyX P w h es) : es.length ≤ sizeLine ∧ (a == sysModules) = false ∧ ∃ xs, PX es xs ∧ h.DictOfH (tupleKind (intKind P w)) a xs := by
  obtain ⟨z, y, n, xs, r, arr, ep, c, d, q⟩ := ox
  refine ⟨z, y, xs, r, ob, arr, ep, exo_get x, c, d, q, fun x hx => ?_, by rw [PX.keys r]; exact n⟩
  have all : ∀ {l : List EX} {m : List (List Int × Addr × Value)}, PX l m → (∀ p ∈ l, (tupleKind (intKind P w)).is h p.1 p.2.1) → ∀ x ∈ m, (tupleKind (intKind P w)).is h x.1 x.2.1 := by
    intro l m r
    induction r with
    | nil => intro _ x hx; exact nomatch hx
    | @cons p q ps qs hq t ih =>
      intro k x hx
      rcases List.mem_cons.mp hx with e | hx
      · subst e
        have := k p List.mem_cons_self
        rw [hq.1, hq.2.1] at this
        exact this
      · exact ih (fun p hp => k p (List.mem_cons_of_mem _ hp)) x hx
  exact all r k x hx
def putX (es : List EX) (k : List Int) (b : Addr) (v : V) : List EX :=
  if (es.any fun p => decide (p.1 = k)) = true then es.map fun p => if p.1 = k then (p.1, p.2.1, v) else p else es ++ [(k, b, v)]
theorem PX.any {es : List EX} {xs : List (List Int × Addr × Value)} (r : PX es xs) (k : List Int) : (es.any fun p => decide (p.1 = k)) = (atKey xs k).isSome := by
  induction r with
  | nil => rfl
  | @cons p q ps qs h t ih =>
    rw [List.any_cons, ih]
    by_cases e : q.1 = k
    · have : atKey (q :: qs) k = some q.2 := by simp [atKey, List.find?_cons, e]
      rw [this, h.1, decide_eq_true e]; rfl
    · have : atKey (q :: qs) k = atKey qs k := by simp [atKey, List.find?_cons, e]
      rw [this, h.1, decide_eq_false e]; rfl
theorem PX.put {es : List EX} {xs : List (List Int × Addr × Value)} (r : PX es xs) (k : List Int) (b : Addr) {v : V} {u : Value} (rv : RelV v u) : PX (putX es k b v) (storedH xs k b u) := by
  unfold putX storedH
  rw [r.any k]
  by_cases q : (atKey xs k).isSome = true
  · rw [if_pos q, if_pos q]
    clear q
    induction r with
    | nil => exact .nil
    | @cons p q ps qs h t ih =>
      rw [List.map_cons, List.map_cons]
      refine .cons ?_ ih
      unfold putAt
      rw [h.1]
      by_cases e : q.1 = k
      · rw [if_pos e, if_pos e]; exact ⟨rfl, h.2.1, rv⟩
      · rw [if_neg e, if_neg e]; exact h
  · rw [if_neg q, if_neg q]
    exact Paired.snoc r ⟨rfl, rfl, rv⟩
theorem putX_len (es : List EX) (k : List Int) (b : Addr) (v : V) : (putX es k b v).length ≤ es.length + 1 := by
  unfold putX
  split
  · rw [List.length_map]; omega
  · simp
theorem dx_back {P : Program} {w : World} {h : Heap} {a : Addr} {es : List EX} {xs : List (List Int × Addr × Value)} (z : es.length ≤ sizeLine) (y : (a == sysModules) = false) (r : PX es xs) (d : h.DictOfH (tupleKind (intKind P w)) a xs) : ∃ o, h.get? a = some o ∧ OX a o es := by
  obtain ⟨o, arr, ep, e, c, dd, q, _, n⟩ := d
  exact ⟨o, e, z, y, by rw [← PX.keys r]; exact n, xs, r, arr, ep, c, dd, q⟩
variable {X : Cx} {pins : List (Addr × Obj)} {σ : L2.St} {H : Hp} {s : Shared} {a b : Addr} {es : List EX} {k : List Int} {v : V} {r : Value} {A : Around} {E : Value → Shared → Prop}
theorem isT_of (I : Inv X pins σ H s) (h : SqT X.K H b (k.map V.int)) : (tupleKind (intKind X.prog X.w)).is s.heap k b := by
  obtain ⟨its, rv, ⟨o, ho, hc, n, hd⟩, _⟩ := I.tuple h
  refine ⟨o, its.toArray, n, ho, hc, hd, ?_⟩
  have : ∀ {ns : List Int} {us : List Value}, Vals (ns.map V.int) us → ItemsAre (intKind X.prog X.w) ns us := by
    intro ns
    induction ns with
    | nil => intro us q; rw [List.map_nil] at q; cases q; exact .nil
    | cons i ns ih =>
      intro us q
      rw [List.map_cons] at q
      cases q with
      | @cons x u xs us hx ht =>
        obtain ⟨t, rfl⟩ := hx
        exact .cons (by show Value.isInt i (.int i t) = true; simp [Value.isInt]) (ih ht)
  simpa using this rv
abbrev AllT (K : PySem.W.Frag) (H : Hp) (es : List EX) : Prop := ∀ p ∈ es, SqT K H p.2.1 (p.1.map V.int)
theorem keyX_of (I : Inv X pins σ H s) (h : AllT X.K H es) : KeyX X.prog X.w s.heap es := fun p hp => isT_of I (h p hp)
theorem dx_write {h' : Heap} {tk : Nat} {ob : Obj} (I : Inv X pins σ H s) (e : H a = some (exo a ob)) (z : es.length < sizeLine) {xs : List (List Int × Addr × Value)} (y : (a == sysModules) = false) (rp : PX es xs) (rv : RelV v r) (d : h'.DictOfH (tupleKind (intKind X.prog X.w)) a (storedH xs k b r)) (sb : Heap.SameBut a s.heap h') :
    ∃ o', OX a o' (putX es k b v) ∧ Inv X pins σ (upd H a (exo a o')) { s with heap := h', toks := tk } := by
  have hl := putX_len es k b v
  obtain ⟨o', ho, ox⟩ := dx_back (by omega) y (rp.put k b rv) d
  exact ⟨o', ox, d_write I (by rw [e]; exact True.intro) sb ⟨o', ho⟩ (exo_ok ho)⟩
/-- d[k] = v -/
theorem dx_setItem {Q : Unit → Shared → Prop} {ob : Obj} (hu : A.units + 1 < cLine) (I : Inv X pins σ H s) (e : H a = some (exo a ob)) (ox : OX a ob es) (kt : AllT X.K H es) (hk : SqT X.K H b (k.map V.int)) (z : es.length < sizeLine) (rv : RelV v r) (h : ∀ s' o', OX a o' (putX es k b v) → Inv X pins σ (upd H a (exo a o')) s' → Q () s') :
    wpAny (model X.prog X.w) A (setItem (.ref a) (.ref b) r) Q E s := by
  obtain ⟨z', y, xs, rp, dd⟩ := dx_dict (I.hok a _ e) ox (keyX_of I kt)
  have hz : xs.length ≤ sizeLine := by rw [← Paired.length rp]; exact z'
  exact wpAny_setItem_heap (hsz := hz) (tupleKind_room_in1 hu) (isT_of I hk) dd fun h' d' sb => let ⟨o', q, I'⟩ := dx_write I e z y rp rv d' sb; h _ o' q I'
/-- by a comprehension -/
theorem dx_dictSet {Q : Unit → Shared → Prop} {ob : Obj} (hu : A.units < cLine) (I : Inv X pins σ H s) (e : H a = some (exo a ob)) (ox : OX a ob es) (kt : AllT X.K H es) (hk : SqT X.K H b (k.map V.int)) (z : es.length < sizeLine) (rv : RelV v r) (h : ∀ s' o', OX a o' (putX es k b v) → Inv X pins σ (upd H a (exo a o')) s' → Q () s') :
    wpAny (model X.prog X.w) A (dictSet a (.ref b) r) Q E s := by
  obtain ⟨z', y, xs, rp, dd⟩ := dx_dict (I.hok a _ e) ox (keyX_of I kt)
  have hz : xs.length ≤ sizeLine := by rw [← Paired.length rp]; exact z'
  exact wpAny_dictSet_heap (hsz := hz) hu (isT_of I hk) dd fun h' d' sb => let ⟨o', q, I'⟩ := dx_write I e z y rp rv d' sb; h _ o' q I'
def valX (es : List EX) (k : List Int) : Option V := (es.find? fun p => decide (p.1 = k)).map (·.2.2)
theorem PX.val {es : List EX} {xs : List (List Int × Addr × Value)} (r : PX es xs) {k : List Int} {v : V} (h : valX es k = some v) : ∃ p, atKey xs k = some p ∧ RelV v p.2 := by
  induction r with
  | nil => cases h
  | @cons p q ps qs hq t ih =>
    unfold valX at h
    rw [List.find?_cons] at h
    by_cases e : p.1 = k
    · rw [decide_eq_true e] at h
      cases h
      exact ⟨q.2, by simp [atKey, List.find?_cons, ← hq.1, e], hq.2.2⟩
    · rw [decide_eq_false e] at h
      obtain ⟨z, h1, h2⟩ := ih h
      refine ⟨z, ?_, h2⟩
      rw [← h1]
      simp [atKey, List.find?_cons, ← hq.1, e]
/-- d[k], there -/
theorem dx_getItem {Q : Value → Shared → Prop} (hu : A.units + 1 < cLine) (I : Inv X pins σ H s) {ob : Obj} (e : Rd H a (exo a ob)) (ox : OX a ob es) (kt : AllT X.K H es) (hk : SqT X.K H b (k.map V.int)) (l : valX es k = some v) (h : ∀ w' s', Inv X pins σ H s' → RelV v w' → Q w' s') :
    wpAny (model X.prog X.w) A (getItem (.ref a) (.ref b)) Q E s := by
  obtain ⟨z', y, xs, rp, dd⟩ := dx_dict (e.ok I.hok) ox (keyX_of I kt)
  obtain ⟨p, hp, rv⟩ := rp.val l
  exact wpAny_getItem_heap (tupleKind_room_in1 hu) (isT_of I hk) dd hp (h p.2 _ (I.tok _) rv)
def oEmpty : Obj := { cls := .type "dict", data := .dict #[] }
theorem ox_empty {a : Addr} (hb : sysModules < a) : OX a oEmpty [] := ⟨Nat.zero_le _, beq_eq_false_iff_ne.mpr fun z => Nat.lt_irrefl _ (z ▸ hb), List.nodup_nil, [], .nil, #[], 0, ⟨rfl, rfl, rfl⟩, rfl, rfl⟩
theorem dx_empty {P : Program} {w : World} {H : Hp} (h : Heap) : ObjOk P w H (h.push { cls := .type "dict", data := .dict #[] }) h.objs.size (exo h.objs.size oEmpty) := exo_ok (Heap.get?_push_size _ rfl)
end

def keyD : Key → D
  | .inl i => .int i
  | .inr x => .str x

mutual
inductive Rep (K : Fg) (F : Fp) (H : Hp) : V → D → Prop
  | non : Rep K F H .non .non
  | bl (b : Bool) : Rep K F H (.bl b) (.bl b)
  | int (i : Int) : Rep K F H (.int i) (.int i)
  | str (x : Str) : Rep K F H (.str x) (.str x)
  | tup {a : Addr} {vs : List V} {ds : List D} : TupF K F H a vs → Reps K F H vs ds → Rep K F H (.ref a) (.tup ds)
  | lst {a : Addr} {vs : List V} {ds : List D} : LstF K F H a vs → Reps K F H vs ds → Rep K F H (.ref a) (.lst ds)
  | dK {a : Addr} {kvs : List (Key × V)} {ds : List D} : ¬ F a → H a = some (.dK kvs) → Reps K F H (kvs.map (·.2)) ds → Rep K F H (.ref a) (.dct (kvs.map fun p => keyD p.1) ds)
  | dX {a : Addr} {o : Obj} {es : List EX} {ds : List D} : ¬ F a → es ≠ [] → H a = some (exo a o) → OX a o es → (∀ p ∈ es, TupF K F H p.2.1 (p.1.map V.int)) → Reps K F H (es.map (·.2.2)) ds → Rep K F H (.ref a) (.dct (es.map fun p => .tup (p.1.map D.int)) ds)
  | obj {a dx : Addr} {C : Str} {fs : List (Str × V)} {ds : List D} : ¬ F a → H a = some (.ins (He.ga K C) dx fs) → Reps K F H (fs.map (·.2)) ds → Rep K F H (.ref a) (.obj C (fs.map (·.1)) ds)
  | at (a : Addr) : Rep K F H (.ref a) (.at a)
  | ty (n : String) : Rep K F H (.ty n) (.ty n)
  | cls (C : Str) : Rep K F H (.ref (He.ga K C)) (.cls C)
  | scr {a : Addr} {ns : List Int} : ScrF K F H a (ns.map V.int) → Rep K F H (.ref a) (.scr ns)
inductive Reps (K : Fg) (F : Fp) (H : Hp) : List V → List D → Prop
  | nil : Reps K F H [] []
  | cons {v : V} {vs : List V} {d : D} {ds : List D} : Rep K F H v d → Reps K F H vs ds → Reps K F H (v :: vs) (d :: ds)
end

section
variable {K : Fg} {F F' F1 F2 : Fp} {H H' H1 H2 : Hp}
theorem Reps.length : ∀ {vs : List V} {ds : List D}, Reps K F H vs ds → vs.length = ds.length
  | _, _, .nil => rfl
  | _, _, .cons _ t => congrArg (· + 1) (Reps.length t)
theorem Reps.get : ∀ {vs : List V} {ds : List D} {i : Nat} {d : D}, Reps K F H vs ds → ds[i]? = some d → ∃ v, vs[i]? = some v ∧ Rep K F H v d
  | _, _, _, _, .nil, e => by simp at e
  | _, _, 0, _, .cons r _, e => by simp at e; subst e; exact ⟨_, rfl, r⟩
  | _, _, i + 1, d, .cons _ t, e => by
    obtain ⟨v, h1, h2⟩ := Reps.get (i := i) (d := d) t (by simpa using e)
    exact ⟨v, by simpa using h1, h2⟩
theorem Reps.getV : ∀ {vs : List V} {ds : List D} {i : Nat} {v : V}, Reps K F H vs ds → vs[i]? = some v → ∃ d, ds[i]? = some d ∧ Rep K F H v d
  | _, _, _, _, .nil, e => by simp at e
  | _, _, 0, _, .cons r _, e => by simp at e; subst e; exact ⟨_, rfl, r⟩
  | _, _, i + 1, v, .cons _ t, e => by
    obtain ⟨d, h1, h2⟩ := Reps.getV (i := i) (v := v) t (by simpa using e)
    exact ⟨d, by simpa using h1, h2⟩
theorem Reps.append : ∀ {vs ws : List V} {ds es : List D}, Reps K F H vs ds → Reps K F H ws es → Reps K F H (vs ++ ws) (ds ++ es)
  | _, _, _, _, .nil, s => s
  | _, _, _, _, .cons r t, s => .cons r (Reps.append t s)
theorem Reps.take : ∀ {vs : List V} {ds : List D} (n : Nat), Reps K F H vs ds → Reps K F H (vs.take n) (ds.take n)
  | _, _, 0, _ => .nil
  | _, _, _ + 1, .nil => .nil
  | _, _, n + 1, .cons r t => .cons r (Reps.take n t)
theorem Reps.drop : ∀ {vs : List V} {ds : List D} (n : Nat), Reps K F H vs ds → Reps K F H (vs.drop n) (ds.drop n)
  | _, _, 0, r => r
  | _, _, _ + 1, .nil => .nil
  | _, _, n + 1, .cons r t => Reps.drop n t
theorem Reps.set {x : V} {d : D} (r : Rep K F H x d) : ∀ {vs : List V} {ds : List D} (i : Nat), Reps K F H vs ds → Reps K F H (vs.set i x) (ds.set i d)
  | _, _, _, .nil => .nil
  | _, _, 0, .cons _ t => .cons r t
  | _, _, i + 1, .cons q t => .cons q (Reps.set r i t)
theorem Reps.snoc {vs : List V} {ds : List D} {v : V} {d : D} (h : Reps K F H vs ds) (r : Rep K F H v d) : Reps K F H (vs ++ [v]) (ds ++ [d]) := h.append (.cons r .nil)

/-- from F1 at H to F2 at H': what is not live is kept; what is live now was so or is new -/
structure Stp (F1 : Fp) (H : Hp) (F2 : Fp) (H' : Hp) : Prop where
  keep : ∀ b o, ¬ F1 b → H b = some o → H' b = some o
  new : ∀ b, F2 b → F1 b ∨ H b = none
abbrev Sm (F : Fp) (H H' : Hp) : Prop := ∀ b o, ¬ F b → H b = some o → H' b = some o
theorem Sm.refl (F : Fp) (H : Hp) : Sm F H H := fun _ _ _ e => e
theorem Sm.trans (a : Sm F H H1) (b : Sm F H1 H2) : Sm F H H2 := fun c o n e => b c o n (a c o n e)
theorem Sm.of_same (a : Same H H') : Sm F H H' := fun b o _ e => a b o e
theorem Sm.mono (a : Sm F H H') (h : ∀ b, F b → F' b) : Sm F' H H' := fun b o n e => a b o (fun z => n (h b z)) e
theorem Stp.refl (F : Fp) (H : Hp) : Stp F H F H := ⟨fun _ _ _ e => e, fun _ h => .inl h⟩
theorem Stp.trans {F3 : Fp} (a : Stp F1 H F2 H1) (b : Stp F2 H1 F3 H2) : Stp F1 H F3 H2 where
  keep := fun c o n e => b.keep c o (fun z => by rcases a.new c z with q | q; exact n q; rw [q] at e; cases e) (a.keep c o n e)
  new := fun c h => by
    rcases b.new c h with q | q
    · exact a.new c q
    · by_cases n : F1 c
      · exact .inl n
      · right
        cases e : H c with
        | none => rfl
        | some o => rw [a.keep c o n e] at q; cases q
theorem Stp.of_sm (a : Sm F H H') (h : ∀ b, F b → F1 b) : Stp F1 H F1 H' := ⟨fun b o n e => a b o (fun z => n (h b z)) e, fun _ z => .inl z⟩

theorem TupF.step {a : Addr} {xs : List V} (h : TupF K F1 H a xs) (s : Stp F1 H F2 H') : TupF K F2 H' a xs := by
  rcases h with ⟨n, h⟩ | h
  · refine .inl ⟨fun z => ?_, ?_⟩
    · rcases s.new a z with q | q
      · exact n q
      · rcases h with h | ⟨o, h⟩ <;> (rw [q] at h; cases h)
    · rcases h with h | ⟨o, h⟩
      · exact .inl (s.keep a _ n h)
      · exact .inr ⟨o, s.keep a _ n h⟩
  · exact .inr h
theorem LstF.step {a : Addr} {xs : List V} (h : LstF K F1 H a xs) (s : Stp F1 H F2 H') : LstF K F2 H' a xs := by
  obtain ⟨n, h⟩ := h
  refine ⟨fun z => ?_, ?_⟩
  · rcases s.new a z with q | q
    · exact n q
    · rcases h with h | ⟨o, h⟩ <;> (rw [q] at h; cases h)
  · rcases h with h | ⟨o, h⟩
    · exact .inl (s.keep a _ n h)
    · exact .inr ⟨o, s.keep a _ n h⟩
theorem ScrF.step {a : Addr} {xs : List V} (h : ScrF K F1 H a xs) (s : Stp F1 H F2 H') : ScrF K F2 H' a xs := by
  rcases h with h | h
  · exact .inl (LstF.step (K := K) h s)
  · exact .inr h
theorem nstep {a : Addr} {o : HO} (s : Stp F1 H F2 H') (n : ¬ F1 a) (e : H a = some o) : ¬ F2 a := fun z => by
  rcases s.new a z with q | q
  · exact n q
  · rw [q] at e; cases e
mutual
theorem Rep.step (s : Stp F1 H F2 H') : ∀ {v : V} {d : D}, Rep K F1 H v d → Rep K F2 H' v d
  | _, _, .non => .non
  | _, _, .bl b => .bl b
  | _, _, .int i => .int i
  | _, _, .str x => .str x
  | _, _, .tup h r => .tup (h.step s) (Reps.step s r)
  | _, _, .lst h r => .lst (h.step s) (Reps.step s r)
  | _, _, .dK n e r => .dK (nstep s n e) (s.keep _ _ n e) (Reps.step s r)
  | _, _, .dX n ne e ox kt r => .dX (nstep s n e) ne (s.keep _ _ n e) ox (fun p hp => (kt p hp).step s) (Reps.step s r)
  | _, _, .obj n e r => .obj (nstep s n e) (s.keep _ _ n e) (Reps.step s r)
  | _, _, .at a => .at a
  | _, _, .ty n => .ty n
  | _, _, .cls C => .cls C
  | _, _, .scr h => .scr (h.step s)
theorem Reps.step (s : Stp F1 H F2 H') : ∀ {vs : List V} {ds : List D}, Reps K F1 H vs ds → Reps K F2 H' vs ds
  | _, _, .nil => .nil
  | _, _, .cons r t => .cons (Rep.step s r) (Reps.step s t)
end
/-- fewer live cells -/
theorem Stp.less (h : ∀ b, F2 b → F1 b) : Stp F1 H F2 H := ⟨fun _ _ _ e => e, fun b z => .inl (h b z)⟩
theorem Rep.anti {v : V} {d : D} (r : Rep K F1 H v d) (h : ∀ b, F2 b → F1 b) : Rep K F2 H v d := Rep.step (Stp.less h) r
theorem Reps.anti {v : List V} {d : List D} (r : Reps K F1 H v d) (h : ∀ b, F2 b → F1 b) : Reps K F2 H v d := Reps.step (Stp.less h) r
theorem Rep.same {v : V} {d : D} (r : Rep K F H v d) (s : Sm F H H') : Rep K F H' v d := Rep.step ⟨s, fun _ z => .inl z⟩ r
theorem Reps.same {v : List V} {d : List D} (r : Reps K F H v d) (s : Sm F H H') : Reps K F H' v d := Reps.step ⟨s, fun _ z => .inl z⟩ r

/-- a dict's object: its keys, its values -/
inductive DOb (K : Fg) (F : Fp) (H : Hp) (a : Addr) : HO → List D → List D → Prop
  | k {kvs : List (Key × V)} {ds : List D} : Reps K F H (kvs.map (·.2)) ds → DOb K F H a (.dK kvs) (kvs.map fun p => keyD p.1) ds
  | x {o : Obj} {es : List EX} {ds : List D} : es ≠ [] → OX a o es → (∀ p ∈ es, TupF K F H p.2.1 (p.1.map V.int)) → Reps K F H (es.map (·.2.2)) ds → DOb K F H a (exo a o) (es.map fun p => .tup (p.1.map D.int)) ds
theorem DOb.step {u : HO} {a : Addr} {ks ds : List D} (s : Stp F1 H F2 H') (r : DOb K F1 H a u ks ds) : DOb K F2 H' a u ks ds := by
  cases r with
  | k r => exact .k (r.step s)
  | x n ox kt r => exact .x n ox (fun p hp => (kt p hp).step s) (r.step s)
theorem DOb.anti {u : HO} {a : Addr} {ks ds : List D} (r : DOb K F1 H a u ks ds) (h : ∀ b, F2 b → F1 b) : DOb K F2 H a u ks ds := r.step (Stp.less h)
theorem DOb.same {u : HO} {a : Addr} {ks ds : List D} (r : DOb K F H a u ks ds) (s : Sm F H H') : DOb K F H' a u ks ds := r.step ⟨s, fun _ z => .inl z⟩
theorem DOb.rep {u : HO} {ks ds : List D} {a : Addr} (r : DOb K F H a u ks ds) (n : ¬ F a) (e : H a = some u) : Rep K F H (.ref a) (.dct ks ds) := by
  cases r with
  | k r => exact .dK n e r
  | x ne ox kt r => exact .dX n ne e ox kt r
/-- a list that is only read: it may be live itself (not in F0), its items may not -/
inductive RepW (K : Fg) (F0 F : Fp) (H : Hp) : V → D → Prop
  | of {v : V} {d : D} : Rep K F H v d → RepW K F0 F H v d
  | dct {a : Addr} {u : HO} {ks ds : List D} : ¬ F0 a → H a = some u → DOb K F H a u ks ds → RepW K F0 F H (.ref a) (.dct ks ds)
  | lst {a : Addr} {vs : List V} {ds : List D} : LstF K F0 H a vs → Reps K F H vs ds → RepW K F0 F H (.ref a) (.lst ds)
inductive RepsW (K : Fg) (F0 F : Fp) (H : Hp) : List V → List D → Prop
  | nil : RepsW K F0 F H [] []
  | cons {v : V} {vs : List V} {d : D} {ds : List D} : RepW K F0 F H v d → RepsW K F0 F H vs ds → RepsW K F0 F H (v :: vs) (d :: ds)
section
variable {F0 : Fp}
theorem RepW.lstOf {v : V} {ds : List D} (r : RepW K F0 F H v (.lst ds)) : ∃ a vs, v = .ref a ∧ LsR K H a vs ∧ Reps K F H vs ds := by
  cases r with
  | of r => cases r with | lst h r => exact ⟨_, _, rfl, h.ls, r⟩
  | lst h r => exact ⟨_, _, rfl, h.ls, r⟩
theorem RepW.tupOf {v : V} {ds : List D} (r : RepW K F0 F H v (.tup ds)) : ∃ a vs, v = .ref a ∧ TupF K F H a vs ∧ Reps K F H vs ds := by
  cases r with
  | of r => cases r with | tup h r => exact ⟨_, _, rfl, h, r⟩
theorem RepW.scrOf {v : V} {ns : List Int} (r : RepW K F0 F H v (.scr ns)) : ∃ a, v = .ref a ∧ ScrF K F H a (ns.map V.int) := by
  cases r with
  | of r => cases r with | scr h => exact ⟨_, rfl, h⟩
theorem RepW.intOf {v : V} {i : Int} (r : RepW K F0 F H v (.int i)) : v = .int i := by
  cases r with | of r => cases r; rfl
theorem RepW.blOf {v : V} {i : Bool} (r : RepW K F0 F H v (.bl i)) : v = .bl i := by
  cases r with | of r => cases r; rfl
theorem RepW.strOf {v : V} {i : Str} (r : RepW K F0 F H v (.str i)) : v = .str i := by
  cases r with | of r => cases r; rfl
theorem RepW.nonOf {v : V} (r : RepW K F0 F H v .non) : v = .non := by
  cases r with | of r => cases r; rfl
theorem RepW.same {v : V} {d : D} (r : RepW K F0 F H v d) (s : Sm F0 H H') (h : ∀ b, F0 b → F b) : RepW K F0 F H' v d := by
  cases r with
  | of r => exact .of (r.same (s.mono h))
  | lst q r => exact .lst (q.step ⟨s, fun _ z => .inl z⟩) (r.same (s.mono h))
  | dct n e r => exact .dct n (s _ _ n e) (r.same (s.mono h))
theorem RepsW.same : ∀ {v : List V} {d : List D}, RepsW K F0 F H v d → Sm F0 H H' → (∀ b, F0 b → F b) → RepsW K F0 F H' v d
  | _, _, .nil, _, _ => .nil
  | _, _, .cons r t, s, h => .cons (r.same s h) (RepsW.same t s h)
theorem Reps.weak : ∀ {v : List V} {d : List D}, Reps K F H v d → RepsW K F0 F H v d
  | _, _, .nil => .nil
  | _, _, .cons r t => .cons (.of r) (Reps.weak t)
theorem RepW.lend {v : V} {d : D} (r : RepW K F0 F H v d) (h : ∀ b, F0 b → F b) : Rep K F0 H v d := by
  cases r with
  | of r => exact r.anti h
  | lst q r => exact .lst q (Reps.anti r h)
  | dct n e r => exact (r.anti h).rep n e
theorem RepsW.lend : ∀ {v : List V} {d : List D}, RepsW K F0 F H v d → (∀ b, F0 b → F b) → Reps K F0 H v d
  | _, _, .nil, _ => .nil
  | _, _, .cons r t, h => .cons (r.lend h) (RepsW.lend t h)
theorem RepsW.one {vs : List V} {d : D} (r : RepsW K F0 F H vs [d]) : ∃ v, vs = [v] ∧ RepW K F0 F H v d := by
  cases r with | cons r t => cases t; exact ⟨_, rfl, r⟩
theorem RepsW.two {vs : List V} {d e : D} (r : RepsW K F0 F H vs [d, e]) : ∃ v w, vs = [v, w] ∧ RepW K F0 F H v d ∧ RepW K F0 F H w e := by
  cases r with | cons r t => cases t with | cons r2 t => cases t; exact ⟨_, _, rfl, r, r2⟩
end
end

/-! ### outcomes -/
abbrev Fds := Option (List Str × List D)
inductive Res (τ α : Type) where
  | ok (a : α) (t : τ) | ex (n : Str) (fs : Fds) (t : τ) | bad
def Res.bind {τ α β : Type} (r : Res τ α) (k : α → τ → Res τ β) : Res τ β := match r with
  | .ok a t => k a t
  | .ex n fs t => .ex n fs t
  | .bad => .bad
@[simp] theorem Res.bind_ok {τ α β : Type} (a : α) (t : τ) (k : α → τ → Res τ β) : (Res.ok a t).bind k = k a t := rfl
@[simp] theorem Res.bind_ex {τ α β : Type} (n : Str) (fs : Fds) (t : τ) (k : α → τ → Res τ β) : (Res.ex n fs t : Res τ α).bind k = .ex n fs t := rfl
@[simp] theorem Res.bind_bad {τ α β : Type} (k : α → τ → Res τ β) : (Res.bad : Res τ α).bind k = .bad := rfl
def opt {τ α : Type} (o : Option α) (t : τ) : Res τ α := match o with
  | some a => .ok a t
  | none => .bad
@[simp] theorem opt_some {τ α : Type} (a : α) (t : τ) : opt (some a) t = Res.ok a t := rfl
@[simp] theorem opt_none {τ α : Type} (t : τ) : (opt none t : Res τ α) = .bad := rfl

inductive Slot where
  | no | val (d : D) | own (xs : List D) | dct (ks xs : List D)
/-- a list or dict of the body's own, that may still be changed -/
def Slot.mine : Slot → Bool
  | .own _ => true
  | .dct .. => true
  | _ => false
inductive OwnR (K : Fg) (F : Fp) (H : Hp) (a : Addr) : HO → Slot → Prop
  | lst {vs : List V} {xs : List D} : Reps K F H vs xs → OwnR K F H a (.lst vs) (.own xs)
  | dct {u : HO} {ks xs : List D} : DOb K F H a u ks xs → OwnR K F H a u (.dct ks xs)
theorem OwnR.step {K : Fg} {F1 F2 : Fp} {H H' : Hp} {a : Addr} {u : HO} {x : Slot} (r : OwnR K F1 H a u x) (s : Stp F1 H F2 H') : OwnR K F2 H' a u x := by
  cases r with
  | lst r => exact .lst (r.step s)
  | dct r => exact .dct (r.step s)
theorem OwnR.anti {K : Fg} {F1 F2 : Fp} {H : Hp} {a : Addr} {u : HO} {x : Slot} (r : OwnR K F1 H a u x) (h : ∀ b, F2 b → F1 b) : OwnR K F2 H a u x := r.step (Stp.less h)
theorem OwnR.same {K : Fg} {F : Fp} {H H' : Hp} {a : Addr} {u : HO} {x : Slot} (r : OwnR K F H a u x) (s : Sm F H H') : OwnR K F H' a u x := r.step ⟨s, fun _ z => .inl z⟩
abbrev Rho := List Slot
inductive Fl (τ : Type) where
  | nx (ρ : Rho) (t : τ) | rt (d : D) (t : τ) | bk (ρ : Rho) (t : τ) | ct (ρ : Rho) (t : τ) | ex (n : Str) (fs : Fds) (ρ : Rho) (t : τ) | bad

/-- an exception as it lies: its class, its own dict -/
def XRep (K : Fg) (F : Fp) (H : Hp) (n : Str) (fs : Fds) (cls : Value) (dd : Option Addr) : Prop :=
  cls = .ref (He.ga K n) ∧ match fs with
    | none => dd = none
    | some (ns, ds) => ∃ a vs, dd = some a ∧ H a = some (.xd (ns.zip vs)) ∧ vs.length = ns.length ∧ Reps K F H vs ds
theorem XRep.anti {K : Fg} {F F' : Fp} {H : Hp} {n : Str} {fs : Fds} {cls : Value} {dd : Option Addr} (x : XRep K F H n fs cls dd) (h : ∀ b, F' b → F b) : XRep K F' H n fs cls dd := by
  obtain ⟨e, x⟩ := x
  refine ⟨e, ?_⟩
  cases fs with
  | none => exact x
  | some p =>
    obtain ⟨ns, ds⟩ := p
    obtain ⟨a, vs, h1, h2, h3, h4⟩ := x
    exact ⟨a, vs, h1, h2, h3, h4.anti h⟩

/-- what is live beside the body's own lists (F), and what holds of it while G is live in all -/
structure SC (τ : Type) where
  F : Fp
  Iv : τ → Fp → Hp → Prop
  dom : ∀ t G H b, Iv t G H → F b → H b ≠ none
  step : ∀ t G H G' H', Iv t G H → (∀ b o, F b → H b = some o → H' b = some o) → Stp G H G' H' → Iv t G' H'
theorem SC.stay {τ : Type} (C : SC τ) {t : τ} {G : Fp} {H H' : Hp} (i : C.Iv t G H) (s : Same H H') : C.Iv t G H' := C.step t G H G H' i (fun b o _ e => s b o e) ⟨fun b o _ e => s b o e, fun _ h => .inl h⟩
theorem SC.less {τ : Type} (C : SC τ) {t : τ} {G G' : Fp} {H : Hp} (i : C.Iv t G H) (h : ∀ b, G' b → G b) : C.Iv t G' H := C.step t G H G' H i (fun _ _ _ e => e) (Stp.less h)

/-- C with the list that a comprehension fills -/
def SC.cmp {τ : Type} (C : SC τ) (D0 : Addr) (u : HO) : SC τ where
  F := fun b => C.F b ∨ b = D0
  Iv := fun t G H => C.Iv t G H ∧ H D0 = some u
  dom := fun t G H b h1 h2 => by
    rcases h2 with h2 | h2
    · exact C.dom t G H b h1.1 h2
    · rw [h2, h1.2]; intro z; cases z
  step := fun t G H G' H' h1 h2 s => ⟨C.step t G H G' H' h1.1 (fun b o q e => h2 b o (.inl q) e) s, h2 _ _ (.inr rfl) h1.2⟩
def SC.ov {τ : Type} (C : SC τ) (F : Fp) (H1 : Hp) (hF : ∀ b, C.F b → F b) (dm : ∀ b, F b → H1 b ≠ none) : SC τ where
  F := F
  Iv := fun t G H' => C.Iv t G H' ∧ Stp F H1 G H' ∧ ∀ b o, F b → ¬ C.F b → H1 b = some o → H' b = some o
  dom := fun t G H' b h hb => by
    by_cases q : C.F b
    · exact C.dom t G H' b h.1 q
    · cases e : H1 b with
      | none => exact absurd e (dm b hb)
      | some o => rw [h.2.2 b o hb q e]; intro z; cases z
  step := fun t G H G' H' h1 h2 s => ⟨C.step t G H G' H' h1.1 (fun b o h e => h2 b o (hF b h) e) s, h1.2.1.trans s, fun b o hb n e => h2 b o hb (h1.2.2 b o hb n e)⟩
/-- C for a callee that may read the lists O, too -/
def SC.lend {τ : Type} (C : SC τ) (O : Fp) (H1 : Hp) (hO : ∀ b, O b → ¬ C.F b) (dm : ∀ b, O b → H1 b ≠ none) : SC τ where
  F := C.F
  Iv := fun t G H => C.Iv t (fun b => G b ∨ O b) H ∧ (∀ b, O b → ¬ G b) ∧ ∀ b o, O b → H1 b = some o → H b = some o
  dom := fun t G H b h hb => C.dom t _ H b h.1 hb
  step := fun t G H G' H' h1 h2 s => by
    have nn : ∀ b, O b → H b ≠ none := fun b hb => by
      cases e : H1 b with
      | none => exact absurd e (dm b hb)
      | some o => rw [h1.2.2 b o hb e]; intro z; cases z
    refine ⟨C.step t _ H _ H' h1.1 h2 ⟨fun b o n e => s.keep b o (fun z => n (.inl z)) e, fun b h => h.elim (fun z => (s.new b z).elim (fun z => .inl (.inl z)) .inr) fun z => .inl (.inr z)⟩, fun b hb hg => ?_, fun b o hb e => ?_⟩
    · rcases s.new b hg with q | q
      · exact h1.2.1 b hb q
      · exact nn b hb q
    · exact s.keep b o (h1.2.1 b hb) (h1.2.2 b o hb e)
/-- which such C are meant, for a kind of state -/
class Sto (τ : Type) where
  ok : Fg → SC τ → Prop
  cmp : ∀ K C D0 u, ¬ C.F D0 → ok K C → ok K (SC.cmp C D0 u)
  ov : ∀ K C F H1 hF dm, ok K C → ok K (SC.ov C F H1 hF dm)
  lend : ∀ K C O H1 hO dm, ok K C → ok K (SC.lend C O H1 hO dm)
instance : Sto Unit := ⟨fun _ _ => True, fun _ _ _ _ _ _ => trivial, fun _ _ _ _ _ _ _ => trivial, fun _ _ _ _ _ _ _ => trivial⟩

def Fo (F : Fp) (ρ : Rho) (σ : St) : Fp := fun b => F b ∨ ∃ (i : Nat) (x : Slot), (ρ[i]? = some x ∧ x.mine = true) ∧ σ[i]? = some (some (.ref b))

structure At {τ : Type} [Sto τ] (K : Fg) (C : SC τ) (ρ : Rho) (t : τ) (σ : St) (H : Hp) : Prop where
  okC : Sto.ok K C
  st : C.Iv t (Fo C.F ρ σ) H
  len : σ.length = ρ.length
  val : ∀ (i : Nat) (d : D), ρ[i]? = some (.val d) → ∃ v, σ[i]? = some (some v) ∧ Rep K (Fo C.F ρ σ) H v d
  mine : ∀ (i : Nat) (x : Slot), (ρ[i]? = some x ∧ x.mine = true) → ∃ (a : Addr) (u : HO), σ[i]? = some (some (.ref a)) ∧ ¬ C.F a ∧ H a = some u ∧ OwnR K (Fo C.F ρ σ) H a u x
  dis : ∀ (i j : Nat) (x y : Slot), (ρ[i]? = some x ∧ x.mine = true) → (ρ[j]? = some y ∧ y.mine = true) → σ[i]? = σ[j]? → i = j

section
variable {τ : Type} [Sto τ] {K : Fg} {C : SC τ} {ρ : Rho} {t t' : τ} {σ : St} {H H' H1 : Hp}
theorem At.dom (A : At K C ρ t σ H) : ∀ b, Fo C.F ρ σ b → H b ≠ none := fun b h => by
  rcases h with h | ⟨i, xs, h1, h2⟩
  · exact C.dom _ _ _ _ A.st h
  · obtain ⟨a, vs, e, _, q, _⟩ := A.mine i xs h1
    rw [e] at h2
    cases h2
    rw [q]
    intro z; cases z
theorem At.own (A : At K C ρ t σ H) (i : Nat) (xs : List D) (e : ρ[i]? = some (.own xs)) : ∃ (a : Addr) (vs : List V), σ[i]? = some (some (.ref a)) ∧ ¬ C.F a ∧ H a = some (.lst vs) ∧ Reps K (Fo C.F ρ σ) H vs xs := by
  obtain ⟨a, u, h1, h2, h3, h4⟩ := A.mine i _ ⟨e, rfl⟩
  cases h4 with
  | lst r => exact ⟨a, _, h1, h2, h3, r⟩
theorem At.dct (A : At K C ρ t σ H) (i : Nat) (ks xs : List D) (e : ρ[i]? = some (.dct ks xs)) : ∃ (a : Addr) (u : HO), σ[i]? = some (some (.ref a)) ∧ ¬ C.F a ∧ H a = some u ∧ DOb K (Fo C.F ρ σ) H a u ks xs := by
  obtain ⟨a, u, h1, h2, h3, h4⟩ := A.mine i _ ⟨e, rfl⟩
  cases h4 with
  | dct r => exact ⟨a, _, h1, h2, h3, r⟩
theorem Fo.base {F : Fp} {b : Addr} (h : F b) : Fo F ρ σ b := .inl h
/-- behind an expression -/
theorem At.next (A : At K C ρ t σ H) (s : Sm C.F H H') (i : C.Iv t' (Fo C.F ρ σ) H') : At K C ρ t' σ H' where
  okC := A.okC
  st := i
  len := A.len
  val := fun i d e => by
    obtain ⟨v, h1, h2⟩ := A.val i d e
    exact ⟨v, h1, h2.same (s.mono fun _ z => .inl z)⟩
  mine := fun i xs e => by
    obtain ⟨a, vs, h1, h2, h3, h4⟩ := A.mine i xs e
    exact ⟨a, vs, h1, h2, s _ _ h2 h3, h4.same (s.mono fun _ z => .inl z)⟩
  dis := A.dis
end

/-! ### readings by outcome -/
section
variable {τ : Type} [Sto τ] {α β : Type}
/-- how a result of the machine (β) is told by the mirror's (α): live cells, heap ahead, heap behind -/
abbrev Rel (β α : Type) := Fg → (Fp → Hp → Prop) → Fp → Fp → Hp → Hp → β → α → Prop
structure RelOk (R : Rel β α) : Prop where
  base : ∀ K I F0 F H H1 H' v d, Sm F H H1 → R K I F0 F H1 H' v d → R K I F0 F H H' v d
def Post (R : Rel β α) (K : Fg) (W : WX) (C : SC τ) (F : Fp) (σ : St) (H : Hp) (r : Res τ α) (Q : β → Hp → Prop) : Prop := match r with
  | .ok d t' => ∀ v H', Sm C.F H H' → C.Iv t' F H' → R K (C.Iv t') C.F F H H' v d → Q v H'
  | .ex n fs t' => ∀ cls dd H', Sm C.F H H' → C.Iv t' F H' → XRep K F H' n fs cls dd → W cls dd σ H'
  | .bad => False
def tG (R : Rel β α) (K : Fg) (W : WX) (m : Rho → τ → Res τ α) : St → Hp → (β → Hp → Prop) → Prop := fun σ H Q =>
  ∃ (C : SC τ) (ρ : Rho) (t : τ), At K C ρ t σ H ∧ Post R K W C (Fo C.F ρ σ) σ H (m ρ t) Q
variable {R : Rel β α} {K : Fg} {W : WX} {C : SC τ} {F : Fp} {σ : St} {H H1 : Hp} {ρ : Rho} {t : τ} {Q Q' : β → Hp → Prop}
theorem Post.rebase (ok : RelOk R) {r : Res τ α} (h : Post R K W C F σ H r Q) (s : Sm C.F H H1) (hF : ∀ b, C.F b → F b) : Post R K W C F σ H1 r Q := by
  cases r with
  | ok d t' => exact fun v H' s' i r => h v H' (s.trans s') i (ok.base _ _ _ _ _ _ _ _ _ (s.mono hF) r)
  | ex n fs t' => exact fun cls dd H' s' i x => h cls dd H' (s.trans s') i x
  | bad => exact h
/-- a part is asked, then the rest -/
theorem use {γ δ : Type} {R2 : Rel δ γ} {ma : Rho → τ → Res τ α} {k : α → τ → Res τ γ} {Qd : δ → Hp → Prop} (ok2 : RelOk R2) (A : At K C ρ t σ H) (h : Post R2 K W C (Fo C.F ρ σ) σ H ((ma ρ t).bind k) Qd)
    (hk : ∀ d t1 v H1, ma ρ t = .ok d t1 → Sm C.F H H1 → At K C ρ t1 σ H1 → R K (C.Iv t1) C.F (Fo C.F ρ σ) H H1 v d → Post R2 K W C (Fo C.F ρ σ) σ H1 (k d t1) Qd → Q v H1) : tG R K W ma σ H Q := by
  refine ⟨C, ρ, t, A, ?_⟩
  cases e : ma ρ t with
  | ok d t1 =>
    rw [e] at h
    exact fun v H1 s i r => hk d t1 v H1 e s (A.next s i) r (Post.rebase ok2 h s fun _ z => .inl z)
  | ex n fs t1 =>
    rw [e] at h
    exact h
  | bad =>
    rw [e] at h
    exact h
end

/-! ### the relations in use -/
def rE : Rel V D := fun K _ _ F _ H' v d => Rep K F H' v d
def rW : Rel V D := fun K _ F0 F _ H' v d => RepW K F0 F H' v d
def rB : Rel Bool Bool := fun _ _ _ _ _ _ v d => v = d
def rA : Rel (List V) (List D) := fun K _ _ F _ H' v d => Reps K F H' v d
def rAW : Rel (List V) (List D) := fun K _ F0 F _ H' v d => RepsW K F0 F H' v d
/-- a new list -/
def rF : Rel V (List D) := fun K I _ F H H' v ds => ∃ a vs, v = .ref a ∧ ¬ F a ∧ H a = none ∧ H' a = some (.lst vs) ∧ Reps K (fun b => F b ∨ b = a) H' vs ds ∧ I (fun b => F b ∨ b = a) H'
theorem okE : RelOk rE := ⟨fun _ _ _ _ _ _ _ _ _ _ h => h⟩
theorem okW : RelOk rW := ⟨fun _ _ _ _ _ _ _ _ _ _ h => h⟩
theorem okB : RelOk rB := ⟨fun _ _ _ _ _ _ _ _ _ _ h => h⟩
theorem okA : RelOk rA := ⟨fun _ _ _ _ _ _ _ _ _ _ h => h⟩
theorem okAW : RelOk rAW := ⟨fun _ _ _ _ _ _ _ _ _ _ h => h⟩
theorem okF : RelOk rF := ⟨fun K I F0 F H H1 H' v d s h => by
  obtain ⟨a, vs, e, n, q, r⟩ := h
  refine ⟨a, vs, e, n, ?_, r⟩
  cases z : H a with
  | none => rfl
  | some o => rw [s a o n z] at q; cases q⟩
abbrev tE {τ : Type} [Sto τ] (K : Fg) (W : WX) (m : Rho → τ → Res τ D) : TE := tG rE K W m
abbrev tW {τ : Type} [Sto τ] (K : Fg) (W : WX) (m : Rho → τ → Res τ D) : TE := tG rW K W m
abbrev tF {τ : Type} [Sto τ] (K : Fg) (W : WX) (m : Rho → τ → Res τ (List D)) : TE := tG rF K W m
abbrev tT {τ : Type} [Sto τ] (K : Fg) (W : WX) (m : Rho → τ → Res τ Bool) : TT := tG rB K W m
abbrev tAW {τ : Type} [Sto τ] (K : Fg) (W : WX) (m : Rho → τ → Res τ (List D)) : TA := tG rAW K W m
abbrev tA {τ : Type} [Sto τ] (K : Fg) (W : WX) (m : Rho → τ → Res τ (List D)) : TA := tG rA K W m

theorem PE.imp {X : Cx} {e : Expr} {t t' : TE} (h : PE X e t) (i : ∀ σ H Q, t' σ H Q → t σ H Q) : PE X e t' := ⟨fun pins s σ H Q I q => h.run pins s σ H Q I (i σ H Q q)⟩
theorem PT.imp {X : Cx} {e : Expr} {t t' : TT} (h : PT X e t) (i : ∀ σ H Q, t' σ H Q → t σ H Q) : PT X e t' := ⟨fun pins s σ H Q I q => h.run pins s σ H Q I (i σ H Q q)⟩
theorem PA.imp {X : Cx} {e : List Expr} {t t' : TA} (h : PA X e t) (i : ∀ σ H Q, t' σ H Q → t σ H Q) : PA X e t' := ⟨fun pos pins s σ H Q I q => h.run pos pins s σ H Q I (i σ H Q q)⟩
theorem PW.imp {X : Cx} {e : Expr} {t t' : TT} (h : PW X e t) (i : ∀ σ H Q, t' σ H Q → t σ H Q) : PW X e t' := ⟨fun wh pins s σ H Q I q => h.run wh pins s σ H Q I (i σ H Q q)⟩
theorem PS.imp {X : Cx} {e : Stmt} {t t' : TS} (h : PS X e t) (i : ∀ D σ H, t' D σ H → t D σ H) : PS X e t' := ⟨fun pins s σ H D I q => h.run pins s σ H D I (i D σ H q)⟩
theorem PSs.imp {X : Cx} {e : List Stmt} {t t' : TS} (h : PSs X e t) (i : ∀ D σ H, t' D σ H → t D σ H) : PSs X e t' := ⟨fun pins s σ H D I q => h.run pins s σ H D I (i D σ H q)⟩

/-! ### statements -/
section
variable {τ : Type} [Sto τ]
def SPost (K : Fg) (W : WX) (C : SC τ) (F1 : Fp) (H : Hp) (r : Fl τ) (E : Ends) : Prop := match r with
  | .nx ρ' t' => ∀ σ' H', Stp F1 H (Fo C.F ρ' σ') H' → At K C ρ' t' σ' H' → E.nx σ' H'
  | .bk ρ' t' => ∀ σ' H', Stp F1 H (Fo C.F ρ' σ') H' → At K C ρ' t' σ' H' → E.bk σ' H'
  | .ct ρ' t' => ∀ σ' H', Stp F1 H (Fo C.F ρ' σ') H' → At K C ρ' t' σ' H' → E.ct σ' H'
  | .rt d t' => ∀ v H', Sm F1 H H' → C.Iv t' C.F H' → Rep K C.F H' v d → E.rt v H'
  | .ex n fs ρ' t' => ∀ cls dd σ' H', Stp F1 H (Fo C.F ρ' σ') H' → At K C ρ' t' σ' H' → XRep K (Fo C.F ρ' σ') H' n fs cls dd → W cls dd σ' H'
  | .bad => False
def tS (K : Fg) (W : WX) (m : Rho → τ → Fl τ) : TS := fun E σ H => ∃ (C : SC τ) (ρ : Rho) (t : τ), At K C ρ t σ H ∧ SPost K W C (Fo C.F ρ σ) H (m ρ t) E
variable {K : Fg} {W : WX} {C : SC τ} {F1 F2 : Fp} {H H1 : Hp}
theorem SPost.rebase {r : Fl τ} {E : Ends} (h : SPost K W C F1 H r E) (s : Stp F1 H F2 H1) : SPost K W C F2 H1 r E := by
  cases r with
  | nx ρ' t' => exact fun σ' H' s' a => h σ' H' (s.trans s') a
  | bk ρ' t' => exact fun σ' H' s' a => h σ' H' (s.trans s') a
  | ct ρ' t' => exact fun σ' H' s' a => h σ' H' (s.trans s') a
  | rt d t' => exact fun v H' s' i r => h v H' (fun b o n e => s' b o (fun z => by rcases s.new b z with q | q; exact n q; rw [q] at e; cases e) (s.keep b o n e)) i r
  | ex n fs ρ' t' => exact fun cls dd σ' H' s' a x => h cls dd σ' H' (s.trans s') a x
  | bad => exact h
end
end MM

/-! M2: expressions: names, constants, operators, comparisons, tests, displays, subscripts, built-in calls. -/
namespace MM
open PySem PySem.Spec PyProof.Rows L2
section
variable {X : Cx} {W : WX} {τ : Type} [Sto τ] {K : Fg}
abbrev ME (τ α : Type) := Rho → τ → Res τ α

/-! ### names, constants -/
def eVar (i : Nat) : ME τ D := fun ρ t => match ρ[i]? with
  | some (.val d) => .ok d t
  | _ => .bad
theorem me_var {i : Nat} {e : Expr} (h : PE X e (tVar i)) : PE X e (tE X.K W (eVar (τ := τ) i)) := PE.imp h fun σ H Q ⟨C, ρ, t, A, p⟩ => by
  unfold eVar at p
  cases e : ρ[i]? with
  | none => rw [e] at p; exact p.elim
  | some s => cases s with
    | no => rw [e] at p; exact p.elim
    | own xs => rw [e] at p; exact p.elim
    | dct ks xs => rw [e] at p; exact p.elim
    | val d =>
      rw [e] at p
      obtain ⟨v, h1, h2⟩ := A.val i d e
      exact ⟨v, h1, p v H (Sm.refl _ _) A.st h2⟩
def eVarW (i : Nat) : ME τ D := fun ρ t => match ρ[i]? with
  | some (.val d) => .ok d t
  | some (.own xs) => .ok (.lst xs) t
  | some (.dct ks xs) => .ok (.dct ks xs) t
  | _ => .bad
theorem me_varW {i : Nat} {e : Expr} (h : PE X e (tVar i)) : PE X e (tW X.K W (eVarW (τ := τ) i)) := PE.imp h fun σ H Q ⟨C, ρ, t, A, p⟩ => by
  unfold eVarW at p
  cases e : ρ[i]? with
  | none => rw [e] at p; exact p.elim
  | some s => cases s with
    | no => rw [e] at p; exact p.elim
    | own xs =>
      rw [e] at p
      obtain ⟨a, vs, h1, h2, h3, h4⟩ := A.own i xs e
      exact ⟨.ref a, h1, p _ H (Sm.refl _ _) A.st (.lst ⟨h2, .inl h3⟩ h4)⟩
    | dct ks xs =>
      rw [e] at p
      obtain ⟨a, u, h1, h2, h3, h4⟩ := A.dct i ks xs e
      exact ⟨.ref a, h1, p _ H (Sm.refl _ _) A.st (.dct h2 h3 h4)⟩
    | val d =>
      rw [e] at p
      obtain ⟨v, h1, h2⟩ := A.val i d e
      exact ⟨v, h1, p v H (Sm.refl _ _) A.st (.of h2)⟩
theorem weak {e : Expr} {m : ME τ D} (h : PE X e (tE K W m)) : PE X e (tW K W m) := PE.imp h fun σ H Q ⟨C, ρ, t, A, p⟩ => by
  refine ⟨C, ρ, t, A, ?_⟩
  cases e : m ρ t with
  | ok d t' => rw [e] at p; exact fun v H' s i r => p v H' s i (.of r)
  | ex n fs t' => rw [e] at p; exact p
  | bad => rw [e] at p; exact p
def eC (d : D) : ME τ D := fun _ t => .ok d t
theorem me_c {e : Expr} {v : V} {d : D} (h : PE X e (tC v)) (r : ∀ F H, Rep X.K F H v d) : PE X e (tE X.K W (eC (τ := τ) d)) := PE.imp h fun σ H Q ⟨C, ρ, t, A, p⟩ => p v H (Sm.refl _ _) A.st (r _ _)
theorem me_int {i j pos} : PE X (.Constant (.int i) j pos) (tE X.K W (eC (τ := τ) (.int i))) := me_c pe_int fun _ _ => .int i
theorem me_bl {i j pos} : PE X (.Constant (.bool i) j pos) (tE X.K W (eC (τ := τ) (.bl i))) := me_c pe_bl fun _ _ => .bl i
theorem me_str {i j pos} : PE X (.Constant (.str i) j pos) (tE X.K W (eC (τ := τ) (.str i))) := me_c pe_str fun _ _ => .str i
theorem me_non {j pos} : PE X (.Constant .none j pos) (tE X.K W (eC (τ := τ) .non)) := me_c pe_non fun _ _ => .non

/-! ### operators by values -/
def e1 {α β : Type} (f : α → Option β) (a : ME τ α) : ME τ β := fun ρ t => (a ρ t).bind fun d t => opt (f d) t
def e2 {α β γ : Type} (f : α → β → Option γ) (a : ME τ α) (b : ME τ β) : ME τ γ := fun ρ t => (a ρ t).bind fun d t => (b ρ t).bind fun e t => opt (f d e) t
abbrev Dom (F : Fp) (H : Hp) : Prop := ∀ b, F b → H b ≠ none
/-- a rule of two values answers as f -/
def DOp2 (K : Fg) (r : R2) (f : D → D → Option D) : Prop := ∀ (F0 F : Fp) (H : Hp) (x y : V) (d e z : D) (Q : VK), Dom F H → RepW K F0 F H x d → RepW K F0 F H y e → f d e = some z →
  (∀ v H', Same H H' → Rep K F H' v z → Q v H') → r x y H Q
theorem DOp2.or1 {r r' : R2} {f g : D → D → Option D} (h : DOp2 K r f) (h' : DOp2 K r' g) : DOp2 K (fun x y H Q => r x y H Q ∨ r' x y H Q) (fun d e => (f d e).or (g d e)) := fun F0 F H x y d e z Q dm rx ry q k => by
  dsimp only at q
  cases q1 : f d e with
  | some w => rw [q1] at q; cases q; exact .inl (h F0 F H x y d e _ Q dm rx ry q1 k)
  | none => rw [q1] at q; exact .inr (h' F0 F H x y d e _ Q dm rx ry q k)
theorem run2 {a b : Expr} {r : R2} {f : D → D → Option D} {ma mb : ME τ D} {σ : L2.St} {H : Hp} {Q : VK} (hf : DOp2 K r f) (p : tE K W (e2 f ma mb) σ H Q) : tOp r (tW K W ma) (tW K W mb) σ H Q := by
  obtain ⟨C, ρ, t, A, p⟩ := p
  refine use okE A p fun d t1 v H1 e1 s1 A1 r1 p1 => ?_
  refine use okE A1 p1 fun d2 t2 v2 H2 e2 s2 A2 r2 p2 => ?_
  cases e : f d d2 with
  | none => rw [e] at p2; exact p2.elim
  | some z =>
    rw [e] at p2
    exact hf C.F _ H2 v v2 d d2 z Q A2.dom (r1.same s2 fun _ => Fo.base) r2 e fun v' H' sm rr => p2 v' H' (Sm.of_same sm) (C.stay A2.st sm) rr
theorem me_op2 {op : Operator} {a b : Expr} {r : R2} {f : D → D → Option D} {ma mb : ME τ D} {pos : Pos} (ho : OpR X (binaryOp op) r) (hf : DOp2 X.K r f) (ha : PE X a (tW X.K W ma)) (hb : PE X b (tW X.K W mb)) :
    PE X (.BinOp a op b pos) (tE X.K W (e2 f ma mb)) := PE.imp (pe_op ho ha hb) fun σ H Q p => run2 (a := a) (b := b) hf p
theorem me_cmp2 {op : CmpOp} {a b : Expr} {r : R2} {f : D → D → Option D} {ma mb : ME τ D} {pos : Pos} (ho : OpR X (compareOp op) r) (hf : DOp2 X.K r f) (ha : PE X a (tW X.K W ma)) (hb : PE X b (tW X.K W mb)) (hm : behindInMarks op b = false) :
    PE X (.Compare a [op] [b] pos) (tE X.K W (e2 f ma mb)) := PE.imp (pe_cmpR ho ha hb hm) fun σ H Q p => run2 (a := a) (b := b) hf p
theorem me_ix {a b : Expr} {r : R2} {f : D → D → Option D} {ma mb : ME τ D} {pos : Pos} (ho : IxR X r) (hf : DOp2 X.K r f) (ha : PE X a (tW X.K W ma)) (hb : PE X b (tW X.K W mb)) (hs : PlainIx b) :
    PE X (.Subscript a b pos) (tE X.K W (e2 f ma mb)) := PE.imp (pe_ix ho ha hb hs) fun σ H Q p => run2 (a := a) (b := b) hf p
def DOp1 (K : Fg) (r : V → Hp → VK → Prop) (f : D → Option D) : Prop := ∀ (F0 F : Fp) (H : Hp) (x : V) (d z : D) (Q : VK), Dom F H → RepW K F0 F H x d → f d = some z →
  (∀ v H', Same H H' → Rep K F H' v z → Q v H') → r x H Q
theorem me_un {op : UnaryOp} {a : Expr} {r : V → Hp → VK → Prop} {f : D → Option D} {ma : ME τ D} {pos : Pos} (ho : UnR X (unaryOp op) r) (hf : DOp1 X.K r f) (ha : PE X a (tW X.K W ma)) : PE X (.UnaryOp op a pos) (tE X.K W (e1 f ma)) :=
  PE.imp (pe_un ho ha) fun σ H Q ⟨C, ρ, t, A, p⟩ => by
    refine use okE A p fun d t1 v H1 e1 s1 A1 r1 p1 => ?_
    cases e : f d with
    | none => rw [e] at p1; exact p1.elim
    | some z =>
      rw [e] at p1
      exact hf C.F _ H1 v d z Q A1.dom r1 e fun v' H' sm rr => p1 v' H' (Sm.of_same sm) (C.stay A1.st sm) rr

/-! ### tests -/
def asB : D → Option Bool
  | .bl b => some b
  | _ => none
/-- a bool's expression as a test -/
theorem mt_val {e : Expr} {m : ME τ D} (h : PE X e (tE X.K W m)) (he : ∀ whole, isTrue e X.env whole = (do let v ← whole; standAt e.pos; holding [v] (truthy v)) := by intro _; rfl) : PT X e (tT X.K W (e1 asB m)) :=
  PT.imp (pt_val h he) fun σ H Q ⟨C, ρ, t, A, p⟩ => by
    refine use okB A p fun d t1 v H1 e1 s1 A1 r1 p1 => ?_
    cases d <;> first
      | exact p1.elim
      | (cases r1; exact ⟨_, rfl, p1 _ H1 (Sm.refl _ _) A1.st rfl⟩)
theorem mt_cmp2 {op : CmpOp} {a b : Expr} {r : R2} {f : D → D → Option D} {ma mb : ME τ D} {pos : Pos} (ho : OpR X (compareOp op) r) (hf : DOp2 X.K r f) (ha : PE X a (tW X.K W ma)) (hb : PE X b (tW X.K W mb)) (hm : behindInMarks op b = false) :
    PT X (.Compare a [op] [b] pos) (tT X.K W (e1 asB (e2 f ma mb))) := by
  refine PT.imp (pt_cmpR ho ha hb hm) fun σ H Q ⟨C, ρ, t, A, p⟩ => ?_
  refine run2 (a := a) (b := b) (K := X.K) (W := W) hf ?_
  refine use okB A p fun d t1 v H1 e1 s1 A1 r1 p1 => ?_
  cases d <;> first
    | exact p1.elim
    | (cases r1; exact ⟨_, rfl, p1 _ H1 (Sm.refl _ _) A1.st rfl⟩)
def tNot1 (a : ME τ Bool) : ME τ Bool := fun ρ t => (a ρ t).bind fun b t => .ok (!b) t
def tAnd2 (a b : ME τ Bool) : ME τ Bool := fun ρ t => (a ρ t).bind fun c t => if c = true then b ρ t else .ok false t
def tOr2 (a b : ME τ Bool) : ME τ Bool := fun ρ t => (a ρ t).bind fun c t => if c = true then .ok true t else b ρ t
theorem mt_not {a : Expr} {ma : ME τ Bool} {pos : Pos} (h : PT X a (tT X.K W ma)) : PT X (.UnaryOp .Not a pos) (tT X.K W (tNot1 ma)) := PT.imp (pt_not h) fun σ H Q ⟨C, ρ, t, A, p⟩ => by
  refine use okB A p fun d t1 v H1 e1 s1 A1 r1 p1 => ?_
  cases r1
  exact p1 _ H1 (Sm.refl _ _) A1.st rfl
theorem and_red {ta tb : ME τ Bool} {σ : L2.St} {H : Hp} {Q : Bool → Hp → Prop} (p : tT K W (tAnd2 ta tb) σ H Q) : tAnd (tT K W ta) (tT K W tb) σ H Q := by
  obtain ⟨C, ρ, t, A, p⟩ := p
  refine use okB A p fun d t1 v H1 e1 s1 A1 r1 p1 => ?_
  cases r1
  cases d with
  | true => exact ⟨C, ρ, t1, A1, p1⟩
  | false => exact p1 _ H1 (Sm.refl _ _) A1.st rfl
theorem or_red {ta tb : ME τ Bool} {σ : L2.St} {H : Hp} {Q : Bool → Hp → Prop} (p : tT K W (tOr2 ta tb) σ H Q) : tOr (tT K W ta) (tT K W tb) σ H Q := by
  obtain ⟨C, ρ, t, A, p⟩ := p
  refine use okB A p fun d t1 v H1 e1 s1 A1 r1 p1 => ?_
  cases r1
  cases d with
  | false => exact ⟨C, ρ, t1, A1, p1⟩
  | true => exact p1 _ H1 (Sm.refl _ _) A1.st rfl
theorem mw_and1 {a : Expr} {ma : ME τ Bool} {pos : Pos} (h : PT X a (tT X.K W ma)) : PW X (.BoolOp .And [a] pos) (tT X.K W ma) := pw_and1 h
theorem mw_or1 {a : Expr} {ma : ME τ Bool} {pos : Pos} (h : PT X a (tT X.K W ma)) : PW X (.BoolOp .Or [a] pos) (tT X.K W ma) := pw_or1 h
theorem mw_and {a b : Expr} {rest : List Expr} {ma mb : ME τ Bool} {pos : Pos} (h : PT X a (tT X.K W ma)) (h2 : PW X (.BoolOp .And (b :: rest) pos) (tT X.K W mb)) : PW X (.BoolOp .And (a :: b :: rest) pos) (tT X.K W (tAnd2 ma mb)) :=
  PW.imp (pw_and h h2) fun _ _ _ p => and_red p
theorem mw_or {a b : Expr} {rest : List Expr} {ma mb : ME τ Bool} {pos : Pos} (h : PT X a (tT X.K W ma)) (h2 : PW X (.BoolOp .Or (b :: rest) pos) (tT X.K W mb)) : PW X (.BoolOp .Or (a :: b :: rest) pos) (tT X.K W (tOr2 ma mb)) :=
  PW.imp (pw_or h h2) fun _ _ _ p => or_red p
/-- and, or, not as values of bools -/
def eAnd2 (a : ME τ D) (b : ME τ D) : ME τ D := fun ρ t => ((e1 asB a) ρ t).bind fun c t => if c = true then b ρ t else .ok (.bl false) t
def eOr2 (a : ME τ D) (b : ME τ D) : ME τ D := fun ρ t => ((e1 asB a) ρ t).bind fun c t => if c = true then .ok (.bl true) t else b ρ t
def eNot1 (a : ME τ D) : ME τ D := fun ρ t => ((e1 asB a) ρ t).bind fun c t => .ok (.bl (!c)) t
theorem Res.bind_assoc {α β γ : Type} (r : Res τ α) (f : α → τ → Res τ β) (g : β → τ → Res τ γ) : (r.bind f).bind g = r.bind fun a t => (f a t).bind g := by cases r <;> rfl
theorem me_one {op : BoolOp} {a : Expr} {ma : ME τ D} {pos : Pos} (h : PE X a (tE X.K W ma)) : PE X (.BoolOp op [a] pos) (tE X.K W ma) := pe_one h
theorem me_and {a b : Expr} {rest : List Expr} {ma mb : ME τ D} {pos : Pos} (h : PE X a (tE X.K W ma)) (h2 : PE X (.BoolOp .And (b :: rest) pos) (tE X.K W mb)) : PE X (.BoolOp .And (a :: b :: rest) pos) (tE X.K W (eAnd2 ma mb)) :=
  PE.imp (pe_and h h2) fun σ H Q ⟨C, ρ, t, A, p⟩ => by
    unfold eAnd2 MM.e1 at p
    rw [Res.bind_assoc] at p
    refine use okE A p fun d t1 v H1 e1 s1 A1 r1 p1 => ?_
    cases d <;> first
      | exact p1.elim
      | skip
    rename_i c
    cases r1
    refine ⟨c, rfl, ?_⟩
    cases c with
    | true => exact ⟨C, ρ, t1, A1, p1⟩
    | false => exact p1 _ H1 (Sm.refl _ _) A1.st (.bl false)
theorem me_or {a b : Expr} {rest : List Expr} {ma mb : ME τ D} {pos : Pos} (h : PE X a (tE X.K W ma)) (h2 : PE X (.BoolOp .Or (b :: rest) pos) (tE X.K W mb)) : PE X (.BoolOp .Or (a :: b :: rest) pos) (tE X.K W (eOr2 ma mb)) :=
  PE.imp (pe_or h h2) fun σ H Q ⟨C, ρ, t, A, p⟩ => by
    unfold eOr2 MM.e1 at p
    rw [Res.bind_assoc] at p
    refine use okE A p fun d t1 v H1 e1 s1 A1 r1 p1 => ?_
    cases d <;> first
      | exact p1.elim
      | skip
    rename_i c
    cases r1
    refine ⟨c, rfl, ?_⟩
    cases c with
    | false => exact ⟨C, ρ, t1, A1, p1⟩
    | true => exact p1 _ H1 (Sm.refl _ _) A1.st (.bl true)
theorem me_not {a : Expr} {ma : ME τ D} {pos : Pos} (h : PE X a (tE X.K W ma)) : PE X (.UnaryOp .Not a pos) (tE X.K W (eNot1 ma)) :=
  PE.imp (pe_not h) fun σ H Q ⟨C, ρ, t, A, p⟩ => by
    unfold eNot1 MM.e1 at p
    rw [Res.bind_assoc] at p
    refine use okE A p fun d t1 v H1 e1 s1 A1 r1 p1 => ?_
    cases d <;> first
      | exact p1.elim
      | skip
    rename_i c
    cases r1
    exact ⟨c, rfl, p1 _ H1 (Sm.refl _ _) A1.st (.bl _)⟩
def eIf {α : Type} (c : ME τ Bool) (a b : ME τ α) : ME τ α := fun ρ t => (c ρ t).bind fun k t => if k = true then a ρ t else b ρ t
theorem me_if {c a b : Expr} {mc : ME τ Bool} {ma mb : ME τ D} {pos : Pos} (hc : PT X c (tT X.K W mc)) (ha : PE X a (tE X.K W ma)) (hb : PE X b (tE X.K W mb)) : PE X (.IfExp c a b pos) (tE X.K W (eIf mc ma mb)) :=
  PE.imp (pe_ifExp hc ha hb) fun σ H Q ⟨C, ρ, t, A, p⟩ => by
    refine use okE A p fun d t1 v H1 e1 s1 A1 r1 p1 => ?_
    cases r1
    cases d with
    | true => exact ⟨C, ρ, t1, A1, p1⟩
    | false => exact ⟨C, ρ, t1, A1, p1⟩

/-! ### lists of arguments, displays -/
def aNil {α : Type} : ME τ (List α) := fun _ t => .ok [] t
def aCons {α : Type} (a : ME τ α) (b : ME τ (List α)) : ME τ (List α) := fun ρ t => (a ρ t).bind fun d t => (b ρ t).bind fun ds t => .ok (d :: ds) t
theorem ma_nil : PA X [] (tA X.K W (aNil (τ := τ))) := PA.imp pa_nil fun σ H Q ⟨C, ρ, t, A, p⟩ => p [] H (Sm.refl _ _) A.st .nil
theorem ma_cons {e : Expr} {es : List Expr} {m : ME τ D} {ms : ME τ (List D)} (h : PE X e (tE X.K W m)) (hs : PA X es (tA X.K W ms)) (hst : starEach (e :: es) X.env = (false, eval e X.env) :: starEach es X.env := by rfl) : PA X (e :: es) (tA X.K W (aCons m ms)) :=
  PA.imp (pa_cons h hs hst) fun σ H Q ⟨C, ρ, t, A, p⟩ => by
    refine use okA A p fun d t1 v H1 e1 s1 A1 r1 p1 => ?_
    refine use okA A1 p1 fun d2 t2 v2 H2 e2 s2 A2 r2 p2 => ?_
    exact p2 _ H2 (Sm.refl _ _) A2.st (.cons (r1.same (s2.mono fun _ => Fo.base)) r2)
theorem maw_nil : PA X [] (tAW X.K W (aNil (τ := τ))) := PA.imp pa_nil fun σ H Q ⟨C, ρ, t, A, p⟩ => p [] H (Sm.refl _ _) A.st .nil
theorem maw_cons {e : Expr} {es : List Expr} {m : ME τ D} {ms : ME τ (List D)} (h : PE X e (tW X.K W m)) (hs : PA X es (tAW X.K W ms)) (hst : starEach (e :: es) X.env = (false, eval e X.env) :: starEach es X.env := by rfl) : PA X (e :: es) (tAW X.K W (aCons m ms)) :=
  PA.imp (pa_cons h hs hst) fun σ H Q ⟨C, ρ, t, A, p⟩ => by
    refine use okAW A p fun d t1 v H1 e1 s1 A1 r1 p1 => ?_
    refine use okAW A1 p1 fun d2 t2 v2 H2 e2 s2 A2 r2 p2 => ?_
    exact p2 _ H2 (Sm.refl _ _) A2.st (.cons (r1.same s2 fun _ => Fo.base) r2)
def lim {α : Type} (ds : List α) : Option (List α) := if ds.length ≤ 16777216 then some ds else none
theorem lim_le {α : Type} {ds es : List α} (h : lim ds = some es) : es = ds ∧ ds.length ≤ sizeLine := by
  unfold lim at h
  split at h
  · cases h; exact ⟨rfl, by assumption⟩
  · cases h
def eTup (a : ME τ (List D)) : ME τ D := e1 (fun ds => (lim ds).map D.tup) a
theorem Rep.newTup {F : Fp} {H : Hp} {vs : List V} {ds : List D} {p : Addr} (r : Reps K F H vs ds) (dm : Dom F H) (np : H p = none) : Rep K F (upd H p (.tup vs)) (.ref p) (.tup ds) :=
  .tup (.inl ⟨fun z => dm p z np, .inl upd_same⟩) (r.same fun b o _ e => by rw [upd_ne (ne_of_none e np)]; exact e)
theorem Rep.newLst {F : Fp} {H : Hp} {vs : List V} {ds : List D} {p : Addr} (r : Reps K F H vs ds) (dm : Dom F H) (np : H p = none) : Rep K F (upd H p (.lst vs)) (.ref p) (.lst ds) :=
    .lst ⟨fun z => dm p z np, .inl upd_same⟩ (r.same fun b o _ e => by rw [upd_ne (ne_of_none e np)]; exact e)
theorem same_upd {H : Hp} {p : Addr} {o : HO} (h : H p = none) : Same H (upd H p o) := fun b x e => by
  rw [upd_ne (ne_of_none e h)]
  exact e
theorem me_tup {es : List Expr} {x1} {pos : Pos} {ms : ME τ (List D)} (h : PA X es (tA X.K W ms)) : PE X (.Tuple es x1 pos) (tE X.K W (eTup ms)) := PE.imp (pe_tup h) fun σ H Q ⟨C, ρ, t, A, p⟩ => by
  refine use okE A p fun d t1 v H1 e1 s1 A1 r1 p1 => ?_
  dsimp only at p1
  cases e : lim d with
  | none => rw [e] at p1; exact p1.elim
  | some z =>
    rw [e] at p1
    obtain ⟨rfl, hz⟩ := lim_le e
    exact ⟨by rw [r1.length]; exact hz, fun a na => p1 _ _ (Sm.of_same (same_upd na)) (C.stay A1.st (same_upd na)) (Rep.newTup r1 A1.dom na)⟩
/-- a list display: a new list -/
theorem mf_lst {es : List Expr} {pos : Pos} {ms : ME τ (List D)} (h : PA X es (tA X.K W ms)) : PE X (.List es pos) (tF X.K W (e1 lim ms)) := PE.imp (pe_lst h) fun σ H Q ⟨C, ρ, t, A, p⟩ => by
  refine use okF A p fun d t1 v H1 e1 s1 A1 r1 p1 => ?_
  cases e : lim d with
  | none => rw [e] at p1; exact p1.elim
  | some z =>
    rw [e] at p1
    obtain ⟨rfl, hz⟩ := lim_le e
    refine ⟨by rw [r1.length]; exact hz, fun a na => p1 _ _ (Sm.of_same (same_upd na)) (C.stay A1.st (same_upd na)) ⟨a, v, rfl, fun z => A1.dom a z na, na, upd_same, ?_⟩⟩
    have sp : Stp (Fo C.F ρ σ) H1 (fun b => Fo C.F ρ σ b ∨ b = a) (upd H1 a (.lst v)) := ⟨fun b o _ e => by rw [upd_ne (ne_of_none e na)]; exact e, fun b h => h.elim .inl fun e => .inr (by rw [e]; exact na)⟩
    exact ⟨Reps.step sp r1, C.step _ _ _ _ _ A1.st (fun b o _ e => by rw [upd_ne (ne_of_none e na)]; exact e) sp⟩
def eLst (a : ME τ (List D)) : ME τ D := fun ρ t => (a ρ t).bind fun ds t => .ok (.lst ds) t
/-- a new list as a value -/
theorem me_new {e : Expr} {m : ME τ (List D)} (h : PE X e (tF K W m)) : PE X e (tE K W (eLst m)) := PE.imp h fun σ H Q ⟨C, ρ, t, A, p⟩ => by
  refine ⟨C, ρ, t, A, ?_⟩
  unfold eLst at p
  cases e : m ρ t with
  | ok d t' =>
    rw [e] at p
    intro v H' s i r
    obtain ⟨a, vs, rfl, n, q, l, r, _⟩ := r
    exact p _ H' s i (.lst ⟨n, .inl l⟩ (r.anti fun _ => .inl))
  | ex n fs t' => rw [e] at p; exact p
  | bad => rw [e] at p; exact p

/-! ### built-in calls -/
def DCall (K : Fg) (r : List V → Hp → VK → Prop) (f : List D → Option D) : Prop := ∀ (F0 F : Fp) (H : Hp) (xs : List V) (ds : List D) (z : D) (Q : VK), Dom F H → RepsW K F0 F H xs ds → f ds = some z →
  (∀ v H', Same H H' → Rep K F H' v z → Q v H') → r xs H Q
theorem runC {r : List V → Hp → VK → Prop} {f : List D → Option D} {ms : ME τ (List D)} {σ : L2.St} {H : Hp} {Q : VK} (hf : DCall K r f) (p : tE K W (MM.e1 f ms) σ H Q) : tCB r (tAW K W ms) σ H Q := by
  obtain ⟨C, ρ, t, A, p⟩ := p
  refine use okE A p fun d t1 v H1 e1 s1 A1 r1 p1 => ?_
  cases e : f d with
  | none => rw [e] at p1; exact p1.elim
  | some z =>
    rw [e] at p1
    exact hf C.F _ H1 v d z Q A1.dom r1 e fun v' H' sm rr => p1 v' H' (Sm.of_same sm) (C.stay A1.st sm) rr
theorem me_callB {id : String} {x : Str} {e : Expr} {es : List Expr} {p pos : Pos} {r : List V → Hp → VK → Prop} {f : List D → Option D} {ms : ME τ (List D)} (hc : CallR X (.builtin id) r) (hf : DCall X.K r f) (hg : Gl X x) (hm : X.mg x = none) (hv : bootBuiltins x = some (.builtin id))
    (ha : PA X (e :: es) (tAW X.K W ms)) (hn : x ≠ "__name__" := by decide) (hdb : (x == ("__debug__" : Str)) = false := by decide)
    (he : starEach (e :: es) X.env = (false, eval e X.env) :: starEach es X.env := by rfl) (hpl : (backTo pos (starEach es X.env)).any (·.1) = false := by rfl) :
    PE X (.Call (.Name x p) (e :: es) [] pos) (tE X.K W (MM.e1 f ms)) := PE.imp (pe_callB hc hg hm hv ha hn hdb he hpl) fun σ H Q p => runC hf p
theorem me_callTy {id : String} {x : Str} {e : Expr} {es : List Expr} {p pos : Pos} {r : List V → Hp → VK → Prop} {f : List D → Option D} {ms : ME τ (List D)} (hc : CallR X (.type id) r) (hf : DCall X.K r f) (hg : Gl X x) (hm : X.mg x = none) (hv : bootBuiltins x = some (.type id))
    (ha : PA X (e :: es) (tAW X.K W ms)) (hn : x ≠ "__name__" := by decide) (hdb : (x == ("__debug__" : Str)) = false := by decide)
    (he : starEach (e :: es) X.env = (false, eval e X.env) :: starEach es X.env := by rfl) (hpl : (backTo pos (starEach es X.env)).any (·.1) = false := by rfl) :
    PE X (.Call (.Name x p) (e :: es) [] pos) (tE X.K W (MM.e1 f ms)) := PE.imp (pe_callTy hc hg hm hv ha hn hdb he hpl) fun σ H Q p => runC hf p
end
end MM

/-! M3: targets, statements, loops. -/
namespace MM
open PySem PySem.Spec PyProof.Rows L2
abbrev MS (τ : Type) := Rho → τ → Fl τ
abbrev Tgt := Rho → D → Option Rho
abbrev Tgts := Rho → List D → Option Rho

/-! ### slots -/
section
variable {τ : Type} [Sto τ] {K : Fg} {C : SC τ} {ρ : Rho} {t t' : τ} {σ : St} {H H' H1 : Hp}
theorem set_at {α : Type} {l : List α} {i j : Nat} {x y : α} (h : (l.set i x)[j]? = some y) : (i = j ∧ y = x ∧ i < l.length) ∨ (i ≠ j ∧ l[j]? = some y) := by
  by_cases e : i = j
  · subst e
    by_cases q : i < l.length
    · rw [List.getElem?_set_self q] at h
      exact .inl ⟨rfl, (Option.some.inj h).symm, q⟩
    · rw [List.getElem?_eq_none (by simpa using q)] at h
      cases h
  · rw [List.getElem?_set_ne e] at h
    exact .inr ⟨e, h⟩
theorem Fo.setVal {F : Fp} {i : Nat} {d : D} {v : Option V} {b : Addr} (h : Fo F (ρ.set i (.val d)) (σ.set i v) b) : Fo F ρ σ b := by
  rcases h with h | ⟨j, xs, ⟨h1, hm⟩, h2⟩
  · exact .inl h
  · rcases set_at h1 with ⟨_, e, _⟩ | ⟨ne, h1⟩
    · cases e; cases hm
    · rw [List.getElem?_set_ne ne] at h2
      exact .inr ⟨j, xs, ⟨h1, hm⟩, h2⟩
theorem At.setVal {i : Nat} {v : V} {d : D} (A : At K C ρ t σ H) (r : Rep K (Fo C.F ρ σ) H v d) : At K C (ρ.set i (.val d)) t (σ.set i (some v)) H where
  okC := A.okC
  st := C.less A.st fun _ => Fo.setVal
  len := by simp [A.len]
  val := fun j e h => by
    rcases set_at h with ⟨rfl, e1, hl⟩ | ⟨ne, h⟩
    · cases e1
      refine ⟨v, ?_, r.anti fun _ => Fo.setVal⟩
      rw [List.getElem?_set_self (by rw [A.len]; exact hl)]
    · obtain ⟨w, h1, h2⟩ := A.val j e h
      exact ⟨w, by rw [List.getElem?_set_ne ne]; exact h1, h2.anti fun _ => Fo.setVal⟩
  mine := fun j xs hh => by
    obtain ⟨h, hm⟩ := hh
    rcases set_at h with ⟨rfl, e1, hl⟩ | ⟨ne, h⟩
    · cases e1; cases hm
    · obtain ⟨a, vs, h1, h2, h3, h4⟩ := A.mine j xs ⟨h, hm⟩
      exact ⟨a, vs, by rw [List.getElem?_set_ne ne]; exact h1, h2, h3, h4.anti fun _ => Fo.setVal⟩
  dis := fun j k xs ys hh1 hh2 e => by
    obtain ⟨h1, m1⟩ := hh1
    obtain ⟨h2, m2⟩ := hh2
    rcases set_at h1 with ⟨_, e1, _⟩ | ⟨n1, h1⟩
    · cases e1; cases m1
    · rcases set_at h2 with ⟨_, e2, _⟩ | ⟨n2, h2⟩
      · cases e2; cases m2
      · rw [List.getElem?_set_ne n1, List.getElem?_set_ne n2] at e
        exact A.dis j k xs ys ⟨h1, m1⟩ ⟨h2, m2⟩ e
theorem Stp.setVal {i : Nat} {v : Option V} {d : D} {F : Fp} : Stp (Fo F ρ σ) H (Fo F (ρ.set i (.val d)) (σ.set i v)) H := Stp.less fun _ => Fo.setVal
theorem Fo.setMine {F : Fp} {i : Nat} {x : Slot} {a b : Addr} (h : Fo F (ρ.set i x) (σ.set i (some (.ref a))) b) : Fo F ρ σ b ∨ b = a := by
  rcases h with h | ⟨j, ys, ⟨h1, hm⟩, h2⟩
  · exact .inl (.inl h)
  · rcases set_at h1 with ⟨rfl, e, _⟩ | ⟨ne, h1⟩
    · rcases set_at h2 with ⟨_, e2, _⟩ | ⟨ne, _⟩
      · cases e2; exact .inr rfl
      · exact absurd rfl ne
    · rw [List.getElem?_set_ne ne] at h2
      exact .inl (.inr ⟨j, ys, ⟨h1, hm⟩, h2⟩)
theorem Fo.setOwn {F : Fp} {i : Nat} {xs : List D} {a b : Addr} (h : Fo F (ρ.set i (.own xs)) (σ.set i (some (.ref a))) b) : Fo F ρ σ b ∨ b = a := Fo.setMine h
/-- a new list or dict comes to the slot -/
theorem At.setMine {i : Nat} {a : Addr} {u : HO} {x : Slot} (hx : x.mine = true) (A0 : At K C ρ t σ H) (s : Sm C.F H H') (iv : C.Iv t' (fun b => Fo C.F ρ σ b ∨ b = a) H') (nF : ¬ Fo C.F ρ σ a) (na : H a = none) (l : H' a = some u) (r : OwnR K (fun b => Fo C.F ρ σ b ∨ b = a) H' a u x) :
    At K C (ρ.set i x) t' (σ.set i (some (.ref a))) H' ∧ Stp (Fo C.F ρ σ) H (Fo C.F (ρ.set i x) (σ.set i (some (.ref a)))) H' := by
  have A := A0.next s (C.less iv fun _ => .inl)
  have sp : Stp (Fo C.F ρ σ) H (Fo C.F (ρ.set i x) (σ.set i (some (.ref a)))) H' := ⟨fun b o n e => s b o (fun z => n (.inl z)) e, fun b h => (Fo.setMine h).elim .inl fun e => .inr (by rw [e]; exact na)⟩
  have iv' : C.Iv t' (Fo C.F (ρ.set i x) (σ.set i (some (.ref a)))) H' := C.less iv fun _ => Fo.setMine
  refine ⟨⟨A.okC, iv', by simp [A.len], fun j e h => ?_, fun j xs hh => ?_, fun j k xs ys hh1 hh2 e => ?_⟩, sp⟩
  · rcases set_at h with ⟨_, e1, _⟩ | ⟨ne, h⟩
    · rw [← e1] at hx; cases hx
    · obtain ⟨w, h1, h2⟩ := A0.val j e h
      exact ⟨w, by rw [List.getElem?_set_ne ne]; exact h1, h2.step sp⟩
  · obtain ⟨h, hm⟩ := hh
    rcases set_at h with ⟨rfl, e1, hl⟩ | ⟨ne, h⟩
    · subst e1
      exact ⟨a, u, by rw [List.getElem?_set_self (by rw [A.len]; exact hl)], fun z => nF (.inl z), l, r.anti fun _ => Fo.setMine⟩
    · obtain ⟨b, ws, h1, h2, h3, h4⟩ := A0.mine j xs ⟨h, hm⟩
      exact ⟨b, ws, by rw [List.getElem?_set_ne ne]; exact h1, h2, s b _ h2 h3, h4.step sp⟩
  · obtain ⟨h1, m1⟩ := hh1
    obtain ⟨h2, m2⟩ := hh2
    have other : ∀ {m : Nat} {z : Slot}, ρ[m]? = some z → z.mine = true → σ[m]? ≠ some (some (.ref a)) := fun {m zs} h hm z => nF (.inr ⟨m, zs, ⟨h, hm⟩, z⟩)
    rcases set_at h1 with ⟨rfl, e1, l1⟩ | ⟨n1, h1⟩
    · rcases set_at h2 with ⟨rfl, e2, _⟩ | ⟨n2, h2⟩
      · rfl
      · rw [List.getElem?_set_self (by rw [A.len]; exact l1), List.getElem?_set_ne n2] at e
        exact absurd e.symm (other h2 m2)
    · rcases set_at h2 with ⟨rfl, e2, l2⟩ | ⟨n2, h2⟩
      · rw [List.getElem?_set_self (by rw [A.len]; exact l2), List.getElem?_set_ne n1] at e
        exact absurd e (other h1 m1)
      · rw [List.getElem?_set_ne n1, List.getElem?_set_ne n2] at e
        exact A.dis j k xs ys ⟨h1, m1⟩ ⟨h2, m2⟩ e
theorem At.setOwn {i : Nat} {a : Addr} {vs : List V} {ds : List D} (A0 : At K C ρ t σ H) (s : Sm C.F H H') (iv : C.Iv t' (fun b => Fo C.F ρ σ b ∨ b = a) H') (nF : ¬ Fo C.F ρ σ a) (na : H a = none) (l : H' a = some (.lst vs)) (r : Reps K (fun b => Fo C.F ρ σ b ∨ b = a) H' vs ds) :
    At K C (ρ.set i (.own ds)) t' (σ.set i (some (.ref a))) H' ∧ Stp (Fo C.F ρ σ) H (Fo C.F (ρ.set i (.own ds)) (σ.set i (some (.ref a)))) H' := At.setMine rfl A0 s iv nF na l (.lst r)
theorem Fo.reMine {F : Fp} {i : Nat} {x y : Slot} (h0 : ρ[i]? = some x ∧ x.mine = true) (hy : y.mine = true) {b : Addr} : Fo F (ρ.set i y) σ b ↔ Fo F ρ σ b := by
  constructor
  · rintro (h | ⟨j, zs, ⟨h1, hm⟩, h2⟩)
    · exact .inl h
    · rcases set_at h1 with ⟨rfl, _, _⟩ | ⟨_, h1⟩
      · exact .inr ⟨_, x, h0, h2⟩
      · exact .inr ⟨j, zs, ⟨h1, hm⟩, h2⟩
  · rintro (h | ⟨j, zs, ⟨h1, hm⟩, h2⟩)
    · exact .inl h
    · by_cases e : i = j
      · subst e
        exact .inr ⟨i, y, ⟨by rw [List.getElem?_set_self (List.getElem?_eq_some_iff.mp h0.1).1], hy⟩, h2⟩
      · exact .inr ⟨j, zs, ⟨by rw [List.getElem?_set_ne e]; exact h1, hm⟩, h2⟩
theorem Fo.reOwn {F : Fp} {i : Nat} {xs ys : List D} (h0 : ρ[i]? = some (.own xs)) {b : Addr} : Fo F (ρ.set i (.own ys)) σ b ↔ Fo F ρ σ b := Fo.reMine ⟨h0, rfl⟩ rfl
/-- an own list or dict is changed in place -/
theorem At.reMine {i : Nat} {a : Addr} {u : HO} {x y : Slot} (A : At K C ρ t σ H) (h0 : ρ[i]? = some x ∧ x.mine = true) (hy : y.mine = true) (hs : σ[i]? = some (some (.ref a))) (r : OwnR K (Fo C.F ρ σ) H a u y) :
    At K C (ρ.set i y) t σ (upd H a u) ∧ Stp (Fo C.F ρ σ) H (Fo C.F (ρ.set i y) σ) (upd H a u) := by
  obtain ⟨a', vs', hs', nF, ha, _⟩ := A.mine i x h0
  rw [hs] at hs'; cases hs'
  have fa : Fo C.F ρ σ a := .inr ⟨i, x, h0, hs⟩
  have sp : Stp (Fo C.F ρ σ) H (Fo C.F (ρ.set i y) σ) (upd H a u) := ⟨fun b o n e => by rw [upd_ne (fun z => n (by rw [z]; exact fa))]; exact e, fun b h => .inl ((Fo.reMine h0 hy).mp h)⟩
  have iv : C.Iv t (Fo C.F (ρ.set i y) σ) (upd H a u) := C.step _ _ _ _ _ A.st (fun b o h e => by rw [upd_ne (fun z => nF (by rw [← z]; exact h))]; exact e) sp
  refine ⟨⟨A.okC, iv, by simp [A.len], fun j e h => ?_, fun j zs hh => ?_, fun j k zs us hh1 hh2 e => ?_⟩, sp⟩
  · rcases set_at h with ⟨_, e1, _⟩ | ⟨ne, h⟩
    · rw [← e1] at hy; cases hy
    · obtain ⟨w, h1, h2⟩ := A.val j e h
      exact ⟨w, h1, h2.step sp⟩
  · obtain ⟨h, hm⟩ := hh
    rcases set_at h with ⟨rfl, e1, hl⟩ | ⟨ne, h⟩
    · subst e1
      exact ⟨a, u, hs, nF, upd_same, r.step sp⟩
    · obtain ⟨b, us, h1, h2, h3, h4⟩ := A.mine j zs ⟨h, hm⟩
      have nb : b ≠ a := fun z => ne (A.dis i j x zs h0 ⟨h, hm⟩ (by rw [hs, h1, z]))
      exact ⟨b, us, h1, h2, by rw [upd_ne nb]; exact h3, h4.step sp⟩
  · have tr : ∀ {m : Nat} {z : Slot}, ((ρ.set i y)[m]? = some z ∧ z.mine = true) → ∃ us, (ρ[m]? = some us ∧ us.mine = true) := fun {m zs} hh => by
      obtain ⟨h, hm⟩ := hh
      rcases set_at h with ⟨rfl, _, _⟩ | ⟨_, h⟩
      · exact ⟨_, h0⟩
      · exact ⟨_, h, hm⟩
    obtain ⟨u1, g1⟩ := tr hh1
    obtain ⟨u2, g2⟩ := tr hh2
    exact A.dis j k u1 u2 g1 g2 e
theorem At.reOwn {i : Nat} {a : Addr} {ws : List V} {xs ys : List D} (A : At K C ρ t σ H) (h0 : ρ[i]? = some (.own xs)) (hs : σ[i]? = some (some (.ref a))) (r : Reps K (Fo C.F ρ σ) H ws ys) :
    At K C (ρ.set i (.own ys)) t σ (upd H a (.lst ws)) ∧ Stp (Fo C.F ρ σ) H (Fo C.F (ρ.set i (.own ys)) σ) (upd H a (.lst ws)) := A.reMine ⟨h0, rfl⟩ rfl hs (.lst r)
end
end MM

/-! M4: targets, statements, loops by their rules. -/
namespace MM
open PySem PySem.Spec PyProof.Rows L2
section
variable {X : Cx} {W : WX} {τ : Type} [Sto τ] {K : Fg}
/-- a part is asked, then the statement's end -/
def sDo {α : Type} (m : ME τ α) (k : α → Rho → τ → Fl τ) : MS τ := fun ρ t => match m ρ t with
  | .ok d t' => k d ρ t'
  | .ex n fs t' => .ex n fs ρ t'
  | .bad => .bad
theorem useS {α β : Type} {R : Rel β α} {C : SC τ} {ρ : Rho} {t : τ} {σ : St} {H : Hp} {ma : ME τ α} {k : α → Rho → τ → Fl τ} {E : Ends} {Q : β → Hp → Prop} (A : At K C ρ t σ H) (h : SPost K W C (Fo C.F ρ σ) H (sDo ma k ρ t) E)
    (hk : ∀ d t1 v H1, ma ρ t = .ok d t1 → Sm C.F H H1 → At K C ρ t1 σ H1 → R K (C.Iv t1) C.F (Fo C.F ρ σ) H H1 v d → SPost K W C (Fo C.F ρ σ) H1 (k d ρ t1) E → Q v H1) : tG R K W ma σ H Q := by
  refine ⟨C, ρ, t, A, ?_⟩
  unfold sDo at h
  cases e : ma ρ t with
  | ok d t1 =>
    rw [e] at h
    exact fun v H1 s i r => hk d t1 v H1 e s (A.next s i) r (SPost.rebase h (Stp.of_sm s fun _ => .inl))
  | ex n fs t1 =>
    rw [e] at h
    exact fun cls dd H' s i x => h cls dd σ H' (Stp.of_sm s fun _ => .inl) (A.next s i) x
  | bad =>
    rw [e] at h
    exact h

/-! ### targets -/
def tTg (τ : Type) [Sto τ] (K : Fg) (g : Tgt) (vs : List Nat) : TG := fun v σ H Q => ∃ (C : SC τ) (ρ : Rho) (t : τ) (d : D), At K C ρ t σ H ∧ Rep K (Fo C.F ρ σ) H v d ∧ ∃ ρ', g ρ d = some ρ' ∧
  ∀ σ' H', (σ'.length = σ.length ∧ ∀ (j : Nat), j ∉ vs → σ'[j]? = σ[j]? ∧ ρ'[j]? = ρ[j]?) → Same H H' → Stp (Fo C.F ρ σ) H (Fo C.F ρ' σ') H' → At K C ρ' t σ' H' → Q σ' H'
def tTgs (τ : Type) [Sto τ] (K : Fg) (g : Tgts) (vs : List Nat) : TGs := fun v σ H Q => ∃ (C : SC τ) (ρ : Rho) (t : τ) (d : List D), At K C ρ t σ H ∧ Reps K (Fo C.F ρ σ) H v d ∧ ∃ ρ', g ρ d = some ρ' ∧
  ∀ σ' H', (σ'.length = σ.length ∧ ∀ (j : Nat), j ∉ vs → σ'[j]? = σ[j]? ∧ ρ'[j]? = ρ[j]?) → Same H H' → Stp (Fo C.F ρ σ) H (Fo C.F ρ' σ') H' → At K C ρ' t σ' H' → Q σ' H'
theorem PG.imp {e : Expr} {t t' : TG} (h : PG X e t) (i : ∀ v σ H Q, t' v σ H Q → t v σ H Q) : PG X e t' := ⟨fun pins s σ H v u Q I r q => h.run pins s σ H v u Q I r (i v σ H Q q)⟩
theorem PGs.imp {e : List Expr} {t t' : TGs} (h : PGs X e t) (i : ∀ v σ H Q, t' v σ H Q → t v σ H Q) : PGs X e t' := ⟨fun pins s σ H v u Q I r q => h.run pins s σ H v u Q I r (i v σ H Q q)⟩
def gN (i : Nat) : Tgt := fun ρ d => some (ρ.set i (.val d))
def gNil : Tgts := fun ρ ds => match ds with
  | [] => some ρ
  | _ => none
def gCons (g : Tgt) (gs : Tgts) : Tgts := fun ρ ds => match ds with
  | d :: ds => (g ρ d).bind fun ρ' => gs ρ' ds
  | [] => none
def gT (gs : Tgts) : Tgt := fun ρ d => match d with
  | .tup ds => gs ρ ds
  | _ => none
theorem mg_name {i : Nat} {e : Expr} (h : PG X e (L2.gName i)) : PG X e (tTg τ X.K (gN i) [i]) := PG.imp h fun v σ H Q ⟨C, ρ, t, d, A, r, ρ', e, k⟩ => by
  cases e
  exact k _ H ⟨by simp, fun j hj => ⟨by rw [List.getElem?_set_ne (fun e => hj (by simp [e]))], by rw [List.getElem?_set_ne (fun e => hj (by simp [e]))]⟩⟩ (Same.refl H) Stp.setVal (A.setVal r)
theorem mgs_nil : PGs X [] (tTgs τ X.K gNil []) := PGs.imp pgs_nil fun v σ H Q ⟨C, ρ, t, d, A, r, ρ', e, k⟩ => by
  cases r with
  | nil => cases e; exact ⟨rfl, k σ H ⟨rfl, fun _ _ => ⟨rfl, rfl⟩⟩ (Same.refl H) (Stp.refl _ _) A⟩
  | cons r t => cases e
theorem mgs_cons {e : Expr} {es : List Expr} {g : Tgt} {gs : Tgts} {v1 v2 : List Nat} (h1 : PG X e (tTg τ X.K g v1)) (h2 : PGs X es (tTgs τ X.K gs v2)) (hs : (assignEach (e :: es) X.env).map (·.2) = assign e X.env :: (assignEach es X.env).map (·.2) := by rfl) :
    PGs X (e :: es) (tTgs τ X.K (gCons g gs) (v1 ++ v2)) := PGs.imp (pgs_cons h1 h2 hs) fun v σ H Q ⟨C, ρ, t, d, A, r, ρ', e, k⟩ => by
  cases r with
  | nil => cases e
  | cons r1 r2 =>
    rename_i x xs dd ds _
    have e' : (g ρ dd).bind (fun ρ' => gs ρ' ds) = some ρ' := e
    cases q : g ρ dd with
    | none => rw [q] at e'; cases e'
    | some ρ1 =>
      rw [q] at e'
      exact ⟨x, xs, rfl, C, ρ, t, dd, A, r1, ρ1, q, fun σ1 H1 f1 m1 s1 A1 => ⟨C, ρ1, t, ds, A1, r2.step s1, ρ', e', fun σ2 H2 f2 m2 s2 A2 => k σ2 H2 ⟨f2.1.trans f1.1, fun j hj => ⟨(f2.2 j fun z => hj (List.mem_append_right _ z)).1.trans (f1.2 j fun z => hj (List.mem_append_left _ z)).1, (f2.2 j fun z => hj (List.mem_append_right _ z)).2.trans (f1.2 j fun z => hj (List.mem_append_left _ z)).2⟩⟩ (fun b o e => m2 b o (m1 b o e)) (s1.trans s2) A2⟩⟩
def glen (gs : Tgts) (n : Nat) : Prop := ∀ ρ ds ρ', gs ρ ds = some ρ' → ds.length = n
theorem glen_nil : glen gNil 0 := fun ρ ds ρ' e => by
  cases ds with
  | nil => rfl
  | cons => cases e
theorem glen_cons {g : Tgt} {gs : Tgts} {n : Nat} (h : glen gs n) : glen (gCons g gs) (n + 1) := fun ρ ds ρ' e => by
  cases ds with
  | nil => cases e
  | cons d ds =>
    have e' : (g ρ d).bind (fun ρ' => gs ρ' ds) = some ρ' := e
    cases q : g ρ d with
    | none => rw [q] at e'; cases e'
    | some ρ1 =>
      rw [q] at e'
      show ds.length + 1 = n + 1
      rw [h ρ1 ds ρ' e']
theorem mg_tup {es : List Expr} {k n : Nat} {pos : Pos} {gs : Tgts} (hc : X.calm = true) (hg : glen gs n) {vs : List Nat} (h : PGs X es (tTgs τ X.K gs vs)) (hn : (assignEach es X.env).length = n := by rfl) (hst : (assignEach es X.env).findIdx? (·.1) = none := by rfl) :
    PG X (.Tuple es k pos) (tTg τ X.K (gT gs) vs) := PG.imp (pg_tup hc h hn hst) fun v σ H Q ⟨C, ρ, t, d, A, r, ρ', e, k⟩ => by
  cases r with
  | tup tf rs =>
    have e' : gs ρ _ = some ρ' := e
    exact ⟨_, _, rfl, tf.sq, by rw [rs.length]; exact hg _ _ _ e', C, ρ, t, _, A, rs, ρ', e', k⟩
  | _ => cases e

/-! ### statements -/
def sSeq (a b : MS τ) : MS τ := fun ρ t => match a ρ t with
  | .nx ρ' t' => b ρ' t'
  | r => r
theorem mss_cons {s : Stmt} {rest : List Stmt} {a b : MS τ} (h1 : PS X s (tS X.K W a)) (h2 : PSs X rest (tS X.K W b)) : PSs X (s :: rest) (tS X.K W (sSeq a b)) := PSs.imp (pss_cons h1 h2) fun E σ H ⟨C, ρ, t, A, p⟩ => by
  refine ⟨C, ρ, t, A, ?_⟩
  unfold sSeq at p
  cases e : a ρ t with
  | nx ρ' t' => rw [e] at p; exact fun σ' H' s' A' => ⟨C, ρ', t', A', SPost.rebase p s'⟩
  | rt d t' => rw [e] at p; exact p
  | bk ρ' t' => rw [e] at p; exact p
  | ct ρ' t' => rw [e] at p; exact p
  | ex n fs ρ' t' => rw [e] at p; exact p
  | bad => rw [e] at p; exact p
theorem mss_one {s : Stmt} {a : MS τ} (h1 : PS X s (tS X.K W a)) : PSs X [s] (tS X.K W a) := pss_one h1
def sSkip : MS τ := fun ρ t => .nx ρ t
theorem mss_nil : PSs X [] (tS X.K W (sSkip (τ := τ))) := PSs.imp pss_nil fun E σ H ⟨C, ρ, t, A, p⟩ => p σ H (Stp.refl _ _) A
theorem ms_pass {pos : Pos} : PS X (.Pass pos) (tS X.K W (sSkip (τ := τ))) := PS.imp ps_pass fun E σ H ⟨C, ρ, t, A, p⟩ => p σ H (Stp.refl _ _) A
theorem ms_doc {x j pos pos'} : PS X (.Expr (.Constant (.str x) j pos) pos') (tS X.K W (sSkip (τ := τ))) := PS.imp ps_doc fun E σ H ⟨C, ρ, t, A, p⟩ => p σ H (Stp.refl _ _) A
def sBrk : MS τ := fun ρ t => .bk ρ t
def sCnt : MS τ := fun ρ t => .ct ρ t
theorem ms_break {pos : Pos} : PS X (.Break pos) (tS X.K W (sBrk (τ := τ))) := PS.imp ps_break fun E σ H ⟨C, ρ, t, A, p⟩ => p σ H (Stp.refl _ _) A
theorem ms_cont {pos : Pos} : PS X (.Continue pos) (tS X.K W (sCnt (τ := τ))) := PS.imp ps_continue fun E σ H ⟨C, ρ, t, A, p⟩ => p σ H (Stp.refl _ _) A
def sAsg (g : Tgt) (m : ME τ D) : MS τ := sDo m fun d ρ t => match g ρ d with
  | some ρ' => .nx ρ' t
  | none => .bad
theorem asg_red {g : Tgt} {vs : List Nat} {m : ME τ D} {E : Ends} {σ : St} {H : Hp} (p : tS K W (sAsg g m) E σ H) : tAsg (tE K W m) (tTg τ K g vs) E σ H := by
  obtain ⟨C, ρ, t, A, p⟩ := p
  refine useS A p fun d t1 v H1 e1 s1 A1 r1 p1 => ?_
  refine ⟨C, ρ, t1, d, A1, r1, ?_⟩
  cases e : g ρ d with
  | none => rw [e] at p1; exact p1.elim
  | some ρ' => rw [e] at p1; exact ⟨ρ', rfl, fun σ' H' _ _ s' A' => p1 σ' H' s' A'⟩
theorem ms_asg {tg e : Expr} {pos : Pos} {g : Tgt} {vs : List Nat} {m : ME τ D} (he : PE X e (tE X.K W m)) (hg : PG X tg (tTg τ X.K g vs)) (hs : swapsWithSole [tg] e pos.line X.env = pure false := by rfl) (hw : swappedStores [tg] e X.env = pure none := by rfl)
    (h1 : (assignEach [tg] X.env).map (·.2) = [assign tg X.env] := by rfl) : PS X (.Assign [tg] e pos) (tS X.K W (sAsg g m)) := PS.imp (ps_asg he hg hs hw h1) fun _ _ _ p => asg_red p
/-- name = value, from a reading by HandS (ps_set, ps_setLc) -/
theorem ms_set {s : Stmt} {i : Nat} {m : ME τ D} (h : PS X s (tAsg (tE X.K W m) (gName i))) : PS X s (tS X.K W (sAsg (gN i) m)) := PS.imp h fun E σ H ⟨C, ρ, t, A, p⟩ => by
  refine useS A p fun d t1 v H1 e1 s1 A1 r1 p1 => ?_
  exact p1 _ H1 Stp.setVal (A1.setVal r1)
def sOwn (i : Nat) (m : ME τ (List D)) : MS τ := sDo m fun ds ρ t => .nx (ρ.set i (.own ds)) t
theorem ms_setOwn {s : Stmt} {i : Nat} {m : ME τ (List D)} (h : PS X s (tAsg (tF X.K W m) (gName i))) : PS X s (tS X.K W (sOwn i m)) := PS.imp h fun E σ H ⟨C, ρ, t, A, p⟩ => by
  refine ⟨C, ρ, t, A, ?_⟩
  unfold sOwn sDo at p
  cases e : m ρ t with
  | ok d t1 =>
    rw [e] at p
    intro v H1 s1 i1 r1
    obtain ⟨a, vs, rfl, n, q, l, r, iv⟩ := r1
    obtain ⟨A', sp⟩ := At.setOwn (i := i) A s1 iv n q l r
    exact p _ H1 sp A'
  | ex n fs t1 =>
    rw [e] at p
    exact fun cls dd H' s i x => p cls dd σ H' (Stp.of_sm s fun _ => .inl) (A.next s i) x
  | bad => rw [e] at p; exact p
/-- an own list or dict is no longer changed -/
def sFrz (i : Nat) (m : MS τ) : MS τ := fun ρ t => match ρ[i]? with
  | some (.own xs) => m (ρ.set i (.val (.lst xs))) t
  | some (.dct ks xs) => m (ρ.set i (.val (.dct ks xs))) t
  | _ => m ρ t
theorem frz_one {i : Nat} {x : Slot} {d : D} {C : SC τ} {ρ : Rho} {t : τ} {σ : St} {H : Hp} {r : Fl τ} {E : Ends} (A : At K C ρ t σ H) (e : ρ[i]? = some x ∧ x.mine = true) (hd : ∀ (F' : Fp) (a : Addr) (u : HO), (∀ b, F' b → Fo C.F ρ σ b) → ¬ F' a → H a = some u → OwnR K (Fo C.F ρ σ) H a u x → Rep K F' H (.ref a) d)
    (p : SPost K W C (Fo C.F ρ σ) H r E) : At K C (ρ.set i (.val d)) t σ H ∧ SPost K W C (Fo C.F (ρ.set i (.val d)) σ) H r E := by
  obtain ⟨a, u, hs, nF, ha, hr⟩ := A.mine i x e
  have il : i < ρ.length := (List.getElem?_eq_some_iff.mp e.1).1
  have sub : ∀ b, Fo C.F (ρ.set i (.val d)) σ b → Fo C.F ρ σ b := fun b h => by
    rcases h with h | ⟨j, zs, ⟨h1, hm⟩, h2⟩
    · exact .inl h
    · rcases set_at h1 with ⟨_, e1, _⟩ | ⟨ne, h1⟩
      · cases e1; cases hm
      · exact .inr ⟨j, zs, ⟨h1, hm⟩, h2⟩
  have na : ¬ Fo C.F (ρ.set i (.val d)) σ a := fun h => by
    rcases h with h | ⟨j, zs, ⟨h1, hm⟩, h2⟩
    · exact nF h
    · rcases set_at h1 with ⟨_, e1, _⟩ | ⟨ne, h1⟩
      · cases e1; cases hm
      · exact ne (A.dis i j x zs e ⟨h1, hm⟩ (by rw [hs, h2]))
  refine ⟨⟨A.okC, C.less A.st sub, by simp [A.len], fun j d h => ?_, fun j zs hh => ?_, fun j k zs us hh1 hh2 e2 => ?_⟩, SPost.rebase p (Stp.less sub)⟩
  · rcases set_at h with ⟨rfl, e1, _⟩ | ⟨ne, h⟩
    · cases e1
      exact ⟨.ref a, hs, hd _ a u sub na ha hr⟩
    · obtain ⟨w, h1, h2⟩ := A.val j d h
      exact ⟨w, h1, h2.anti sub⟩
  · obtain ⟨h, hm⟩ := hh
    rcases set_at h with ⟨rfl, e1, _⟩ | ⟨ne, h⟩
    · cases e1; cases hm
    · obtain ⟨b, us, h1, h2, h3, h4⟩ := A.mine j zs ⟨h, hm⟩
      exact ⟨b, us, h1, h2, h3, h4.anti sub⟩
  · obtain ⟨h1, m1⟩ := hh1
    obtain ⟨h2, m2⟩ := hh2
    rcases set_at h1 with ⟨_, e1, _⟩ | ⟨_, h1⟩
    · cases e1; cases m1
    · rcases set_at h2 with ⟨_, e2, _⟩ | ⟨_, h2⟩
      · cases e2; cases m2
      · exact A.dis j k zs us ⟨h1, m1⟩ ⟨h2, m2⟩ e2
theorem frz_red {i : Nat} {m : MS τ} {E : Ends} {σ : St} {H : Hp} (p : tS K W (sFrz i m) E σ H) : tS K W m E σ H := by
  obtain ⟨C, ρ, t, A, p⟩ := p
  unfold sFrz at p
  split at p
  · rename_i xs e
    obtain ⟨A', p'⟩ := frz_one (d := .lst xs) A ⟨e, rfl⟩ (fun F' a u sub na ha hr => by
      cases hr with
      | lst hr => exact .lst ⟨na, .inl ha⟩ (hr.anti sub)) p
    exact ⟨C, _, t, A', p'⟩
  · rename_i ks xs e
    obtain ⟨A', p'⟩ := frz_one (d := .dct ks xs) A ⟨e, rfl⟩ (fun F' a u sub na ha hr => by
      cases hr with
      | dct hr => exact (hr.anti sub).rep na ha) p
    exact ⟨C, _, t, A', p'⟩
  · exact ⟨C, ρ, t, A, p⟩
theorem mss_frz {i : Nat} {sts : List Stmt} {m : MS τ} (h : PSs X sts (tS X.K W m)) : PSs X sts (tS X.K W (sFrz i m)) := PSs.imp h fun _ _ _ p => frz_red p
def sRet (m : ME τ D) : MS τ := sDo m fun d _ t => .rt d t
theorem ms_ret {e : Expr} {pos : Pos} {m : ME τ D} (h : PE X e (tE X.K W m)) : PS X (.Return (some e) pos) (tS X.K W (sRet m)) := PS.imp (ps_ret h) fun E σ H ⟨C, ρ, t, A, p⟩ => by
  refine useS A p fun d t1 v H1 e1 s1 A1 r1 p1 => ?_
  exact p1 v H1 (Sm.refl _ _) (C.less A1.st fun _ => .inl) (r1.anti fun _ => .inl)
def sRetN : MS τ := fun _ t => .rt .non t
theorem ms_retN {pos : Pos} : PS X (.Return none pos) (tS X.K W (sRetN (τ := τ))) := PS.imp ps_retN fun E σ H ⟨C, ρ, t, A, p⟩ => p .non H (Sm.refl _ _) (C.less A.st fun _ => .inl) .non
def sExpr (m : ME τ D) : MS τ := sDo m fun _ ρ t => .nx ρ t
theorem ms_expr {e : Expr} {pos : Pos} {m : ME τ D} (h : PE X e (tE X.K W m)) (hs : swapsWith e none pos.line X.env = pure false := by rfl) : PS X (.Expr e pos) (tS X.K W (sExpr m)) := PS.imp (ps_expr h hs) fun E σ H ⟨C, ρ, t, A, p⟩ => by
  refine useS A p fun d t1 v H1 e1 s1 A1 r1 p1 => ?_
  exact p1 σ H1 (Stp.refl _ _) A1
def sIf (c : ME τ Bool) (a b : MS τ) : MS τ := sDo c fun k ρ t => if k = true then a ρ t else b ρ t
theorem ms_if {c : Expr} {sa sb : List Stmt} {pos : Pos} {mc : ME τ Bool} {a b : MS τ} (hc : PT X c (tT X.K W mc)) (ha : PSs X sa (tS X.K W a)) (hb : PSs X sb (tS X.K W b)) : PS X (.If c sa sb pos) (tS X.K W (sIf mc a b)) :=
  PS.imp (ps_if hc ha hb) fun E σ H ⟨C, ρ, t, A, p⟩ => by
    refine useS A p fun d t1 v H1 e1 s1 A1 r1 p1 => ?_
    cases r1
    cases d with
    | true => exact ⟨C, ρ, t1, A1, p1⟩
    | false => exact ⟨C, ρ, t1, A1, p1⟩
/-- a, b = e1, e2 -/
def sPar (i j : Nat) (a b : ME τ D) : MS τ := sDo (aCons a (aCons b aNil)) fun ds ρ t => match ds with
  | [d, e] => .nx ((ρ.set i (.val d)).set j (.val e)) t
  | _ => .bad
theorem ms_par {s : Stmt} {i j : Nat} {ma mb : ME τ D} (h : PS X s (tPar i j (tA X.K W (aCons ma (aCons mb aNil))))) : PS X s (tS X.K W (sPar i j ma mb)) := PS.imp h fun E σ H ⟨C, ρ, t, A, p⟩ => by
  refine useS A p fun d t1 v H1 e1 s1 A1 r1 p1 => ?_
  cases r1 with
  | nil => exact p1.elim
  | cons r1 r2 => cases r2 with
    | nil => exact p1.elim
    | cons r2 r3 => cases r3 with
      | cons => exact p1.elim
      | nil =>
        exact ⟨_, _, rfl, p1 _ H1 (Stp.setVal.trans Stp.setVal) ((A1.setVal r1).setVal (r2.anti fun _ => Fo.setVal))⟩
/-- an own list grows -/
def sApp (i : Nat) (m : ME τ D) : MS τ := fun ρ t => match ρ[i]? with
  | some (.own xs) => sDo m (fun d ρ t => if xs.length < 16777216 then .nx (ρ.set i (.own (xs ++ [d]))) t else .bad) ρ t
  | _ => .bad
theorem ms_app {s : Stmt} {i : Nat} {m : ME τ D} (h : PS X s (tDrop (tBM X.K "list" rAppend (tVar i) (tCons (tE X.K W m) tNil)))) : PS X s (tS X.K W (sApp i m)) := PS.imp h fun E σ H ⟨C, ρ, t, A, p⟩ => by
  unfold sApp at p
  split at p
  · rename_i xs hi
    obtain ⟨a, vs, hs, nF, ha, hr⟩ := A.own i xs hi
    refine ⟨_, hs, .inl ⟨rfl, _, .inl (.inl ha)⟩, ?_⟩
    refine useS A p fun d t1 v H1 e1 s1 A1 r1 p1 => ?_
    obtain ⟨a', vs', hs', nF', ha', hr'⟩ := A1.own i xs hi
    rw [hs] at hs'; cases hs'
    split at p1
    · rename_i hl
      obtain ⟨A2, sp⟩ := A1.reOwn (ws := vs' ++ [v]) (ys := xs ++ [d]) hi hs (hr'.snoc r1)
      exact ⟨a, vs', v, rfl, rfl, ha', by rw [hr'.length]; exact hl, p1 σ _ sp A2⟩
    · exact p1.elim
  · exact p.elim
/-- x[i] = e at an own list -/
def sSetI (i : Nat) (me mi : ME τ D) : MS τ := fun ρ t => match ρ[i]? with
  | some (.own xs) => sDo me (fun d ρ t => sDo mi (fun k ρ t => match k with
      | .int k => match ixN xs.length k with
        | some j => .nx (ρ.set i (.own (xs.set j d))) t
        | none => .bad
      | _ => .bad) ρ t) ρ t
  | _ => .bad
theorem ms_setI {s : Stmt} {i : Nat} {me mi : ME τ D} (h : PS X s (tAsg (tE X.K W me) (gSub (tVar i) (tE X.K W mi) rSetL))) : PS X s (tS X.K W (sSetI i me mi)) := PS.imp h fun E σ H ⟨C, ρ, t, A, p⟩ => by
  unfold sSetI at p
  split at p
  · rename_i xs hi
    refine useS A p fun d t1 v H1 e1 s1 A1 r1 p1 => ?_
    obtain ⟨a, vs, hs, nF, ha, hr⟩ := A1.own i xs hi
    refine ⟨_, hs, ?_⟩
    refine useS A1 p1 fun k t2 y H2 e2 s2 A2 r2 p2 => ?_
    obtain ⟨a', vs', hs', nF', ha', hr'⟩ := A2.own i xs hi
    rw [hs] at hs'; cases hs'
    cases k <;> first
      | exact p2.elim
      | skip
    rename_i k
    cases r2
    dsimp only at p2
    cases q : ixN xs.length k with
    | none => rw [q] at p2; exact p2.elim
    | some j =>
      rw [q] at p2
      obtain ⟨A3, sp⟩ := A2.reOwn (ws := vs'.set j v) (ys := xs.set j d) hi hs (Reps.set (r1.same (s2.mono fun _ => .inl)) j hr')
      exact ⟨a, vs', k, j, rfl, rfl, ha', by rw [hr'.length]; exact q, p2 σ _ sp A3⟩
  · exact p.elim
end
end MM

/-! M5: while, for, comprehensions. -/
namespace MM
open PySem PySem.Spec PyProof.Rows L2
section
variable {X : Cx} {W : WX} {τ : Type} [Sto τ] {K : Fg}
/-! ### while -/
def loopW (c : ME τ Bool) (b : MS τ) : Nat → MS τ
  | 0 => fun _ _ => .bad
  | n + 1 => sDo c fun k ρ t => if k = true then (match b ρ t with
      | .nx ρ' t' => loopW c b n ρ' t'
      | .ct ρ' t' => loopW c b n ρ' t'
      | .bk ρ' t' => .nx ρ' t'
      | r => r) else .nx ρ t
theorem loopW_mono {c : ME τ Bool} {b : MS τ} : ∀ {n m : Nat} {ρ : Rho} {t : τ}, n ≤ m → loopW c b n ρ t ≠ .bad → loopW c b m ρ t = loopW c b n ρ t
  | 0, _, _, _, _, h => absurd rfl h
  | n + 1, 0, _, _, hl, _ => absurd hl (by omega)
  | n + 1, m + 1, ρ, t, hl, h => by
    unfold loopW sDo at h ⊢
    cases e : c ρ t with
    | ok k t' =>
      rw [e] at h
      dsimp only at h ⊢
      cases k with
      | false => rfl
      | true =>
        rw [if_pos rfl] at h ⊢
        rw [if_pos rfl]
        cases e2 : b ρ t' with
        | nx ρ' t'' => rw [e2] at h; exact loopW_mono (by omega) h
        | ct ρ' t'' => rw [e2] at h; exact loopW_mono (by omega) h
        | _ => rfl
    | ex n fs t' => rfl
    | bad => rfl
open Classical in
noncomputable def sWhile (c : ME τ Bool) (b : MS τ) : MS τ := fun ρ t => if h : ∃ n, loopW c b n ρ t ≠ .bad then loopW c b h.choose ρ t else .bad
theorem sWhile_of {c : ME τ Bool} {b : MS τ} {n : Nat} {ρ : Rho} {t : τ} (h : loopW c b n ρ t ≠ .bad) : sWhile c b ρ t = loopW c b n ρ t := by
  have hx : ∃ n, loopW c b n ρ t ≠ .bad := ⟨n, h⟩
  unfold sWhile
  rw [dif_pos hx]
  have h1 := hx.choose_spec
  rcases Nat.le_total n hx.choose with q | q
  · exact loopW_mono q h
  · exact (loopW_mono q h1).symm
/-- one turn -/
theorem sWhile_turn (c : ME τ Bool) (b : MS τ) (ρ : Rho) (t : τ) : sWhile c b ρ t = sDo c (fun k ρ t => if k = true then (match b ρ t with
      | .nx ρ' t' => sWhile c b ρ' t'
      | .ct ρ' t' => sWhile c b ρ' t'
      | .bk ρ' t' => .nx ρ' t'
      | r => r) else .nx ρ t) ρ t := by
  have inner : ∀ ρ' t', sWhile c b ρ' t' ≠ .bad → ∃ n, sWhile c b ρ' t' = loopW c b n ρ' t' := fun ρ' t' h => by
    unfold sWhile at h ⊢
    split at h
    · rename_i hx
      rw [dif_pos hx]
      exact ⟨_, rfl⟩
    · exact absurd rfl h
  have inner2 : ∀ ρ' t', sWhile c b ρ' t' = .bad → ∀ n, loopW c b n ρ' t' = .bad := fun ρ' t' h n => by
    cases q : loopW c b n ρ' t' with
    | bad => rfl
    | _ =>
      have := sWhile_of (c := c) (b := b) (n := n) (ρ := ρ') (t := t') (by rw [q]; intro z; cases z)
      rw [h, q] at this
      cases this
  unfold sDo
  cases e : c ρ t with
  | ok k t1 =>
    cases k with
    | false =>
      rw [sWhile_of (n := 1) (by unfold loopW sDo; rw [e]; intro z; cases z)]
      unfold loopW sDo
      rw [e]
      rfl
    | true =>
      dsimp only
      rw [if_pos rfl]
      have two : ∀ ρ' t', (∀ n, loopW c b (n + 1) ρ t = loopW c b n ρ' t') → sWhile c b ρ t = sWhile c b ρ' t' := fun ρ' t' h => by
        by_cases q : sWhile c b ρ' t' = .bad
        · rw [q]
          unfold sWhile
          rw [dif_neg]
          rintro ⟨n, hn⟩
          cases n with
          | zero => exact hn rfl
          | succ n => rw [h n, inner2 _ _ q n] at hn; exact hn rfl
        · obtain ⟨n, hn⟩ := inner _ _ q
          rw [hn, ← h n]
          exact sWhile_of (by rw [h n, ← hn]; exact q)
      cases e2 : b ρ t1 with
      | nx ρ' t2 => exact two ρ' t2 fun n => by rw [show loopW c b (n + 1) = sDo c _ from rfl]; unfold sDo; rw [e]; dsimp only; rw [if_pos rfl, e2]
      | ct ρ' t2 => exact two ρ' t2 fun n => by rw [show loopW c b (n + 1) = sDo c _ from rfl]; unfold sDo; rw [e]; dsimp only; rw [if_pos rfl, e2]
      | bk ρ' t2 =>
        have l : loopW c b 1 ρ t = .nx ρ' t2 := by unfold loopW sDo; rw [e]; dsimp only; rw [if_pos rfl, e2]
        rw [sWhile_of (n := 1) (by rw [l]; intro z; cases z), l]
      | rt d t2 =>
        have l : loopW c b 1 ρ t = .rt d t2 := by unfold loopW sDo; rw [e]; dsimp only; rw [if_pos rfl, e2]
        rw [sWhile_of (n := 1) (by rw [l]; intro z; cases z), l]
      | ex n fs ρ' t2 =>
        have l : loopW c b 1 ρ t = .ex n fs ρ' t2 := by unfold loopW sDo; rw [e]; dsimp only; rw [if_pos rfl, e2]
        rw [sWhile_of (n := 1) (by rw [l]; intro z; cases z), l]
      | bad =>
        unfold sWhile
        rw [dif_neg]
        rintro ⟨n, hn⟩
        cases n with
        | zero => exact hn rfl
        | succ n => exact hn (by unfold loopW sDo; rw [e]; dsimp only; rw [if_pos rfl, e2])
  | ex n fs t1 =>
    have l : loopW c b 1 ρ t = .ex n fs ρ t1 := by unfold loopW sDo; rw [e]
    rw [sWhile_of (n := 1) (by rw [l]; intro z; cases z), l]
  | bad =>
    unfold sWhile
    rw [dif_neg]
    rintro ⟨n, hn⟩
    cases n with
    | zero => exact hn rfl
    | succ n => exact hn (by unfold loopW sDo; rw [e])
theorem while_red {c : ME τ Bool} {b : MS τ} {E : Ends} {σ : St} {H : Hp} (p : tS K W (sWhile c b) E σ H) : tWhile (tT K W c) (tS K W b) E σ H := by
  obtain ⟨C, ρ, t, A, p⟩ := p
  unfold sWhile at p
  split at p
  · rename_i hx
    refine ⟨fun n σ H => ∃ ρ t, At K C ρ t σ H ∧ SPost K W C (Fo C.F ρ σ) H (loopW c b n ρ t) E, ⟨_, ρ, t, A, p⟩, ?_⟩
    rintro n σ H ⟨ρ, t, A, p⟩
    cases n with
    | zero => exact p.elim
    | succ n =>
      refine useS A p fun k t1 v H1 e1 s1 A1 r1 p1 => ?_
      cases r1
      cases k with
      | false => exact p1 σ H1 (Stp.refl _ _) A1
      | true =>
        rw [if_pos rfl] at p1
        refine ⟨fun σ' H' => ∃ ρ t, At K C ρ t σ' H' ∧ SPost K W C (Fo C.F ρ σ') H' (loopW c b n ρ t) E, fun σ' H' h => ⟨n, Nat.lt_succ_self n, h⟩, C, ρ, t1, A1, ?_⟩
        cases e2 : b ρ t1 with
        | nx ρ' t2 => rw [e2] at p1; exact fun σ' H' s' A' => ⟨ρ', t2, A', SPost.rebase p1 s'⟩
        | ct ρ' t2 => rw [e2] at p1; exact fun σ' H' s' A' => ⟨ρ', t2, A', SPost.rebase p1 s'⟩
        | bk ρ' t2 => rw [e2] at p1; exact p1
        | rt d t2 => rw [e2] at p1; exact p1
        | ex n fs ρ' t2 => rw [e2] at p1; exact p1
        | bad => rw [e2] at p1; exact p1
  · exact p.elim
theorem ms_while {c : Expr} {body : List Stmt} {pos : Pos} {mc : ME τ Bool} {b : MS τ} (hp : PassesOwn (model X.prog X.w) X.A X.env X.xe) (hc : PT X c (tT X.K W mc)) (hb : PSs X body (tS X.K W b)) : PS X (.While c body [] pos) (tS X.K W (sWhile mc b)) :=
  PS.imp (ps_while hp hc hb) fun _ _ _ p => while_red p

/-! ### what is walked -/
/-- J gives the items ds, one behind the other, as long as what is not live stays -/
def rIt : Rel It (List D) := fun K _ _ F _ H' J ds => ∃ (G : Hp → Prop) (Y : Nat → Hp → V → Hp → Prop), Walk J ds.length G Y ∧ (∀ H2, Sm F H' H2 → G H2) ∧
  ∀ (Fc : Fp) (i : Nat) (H2 : Hp) (x : V) (H3 : Hp), i < ds.length → Stp F H' Fc H2 → Dom Fc H2 → Y i H2 x H3 → Same H2 H3 ∧ ∃ d, ds[i]? = some d ∧ Rep K Fc H3 x d
theorem okI : RelOk rIt := ⟨fun _ _ _ _ _ _ _ _ _ _ h => h⟩
abbrev tI {τ : Type} [Sto τ] (K : Fg) (W : WX) (m : ME τ (List D)) : TI := tG rIt K W m
theorem PI.imp {tg e : Expr} {t t' : TI} (h : PI X tg e t) (i : ∀ σ H Q, t' σ H Q → t σ H Q) : PI X tg e t' := ⟨fun pins s σ H R I q => h.run pins s σ H R I (i σ H R q)⟩
def itD : D → Option (List D)
  | .lst ds => some ds
  | .tup ds => some ds
  | .scr ns => some (ns.map .int)
  | _ => none
theorem rIt_list {K : Fg} {I : Fp → Hp → Prop} {F0 F : Fp} {H H' : Hp} {a : Addr} {vs : List V} {ds : List D} (hl : LstF K F H' a vs) (r : Reps K F H' vs ds) : rIt K I F0 F H H' (Itl K a) ds := by
  have w : Walk (Itl K a) ds.length (fun H => SqL K H a vs) (YAt vs) := by rw [← r.length]; exact walk_list
  refine ⟨_, _, w, fun H2 s => (hl.step ⟨s, fun _ z => .inl z⟩).sq, fun Fc i H2 x H3 hi s dm y => ?_⟩
  obtain ⟨rfl, y⟩ := y
  obtain ⟨d, e, q⟩ := (r.step s).getV y
  exact ⟨fun _ _ e => e, d, e, q⟩
theorem rIt_scr {K : Fg} {I : Fp → Hp → Prop} {F0 F : Fp} {H H' : Hp} {a : Addr} {ns : List Int} (hl : ScrF K F H' a (ns.map V.int)) : rIt K I F0 F H H' (Itl K a) (ns.map .int) := by
  have w : Walk (Itl K a) (ns.map D.int).length (fun H => SqL K H a (ns.map V.int)) (YAt (ns.map V.int)) := by rw [List.length_map, ← List.length_map (f := V.int)]; exact walk_list
  refine ⟨_, _, w, fun H2 s => (hl.step ⟨s, fun _ z => .inl z⟩).sq, fun Fc i H2 x H3 hi s dm y => ?_⟩
  obtain ⟨rfl, y⟩ := y
  rw [List.getElem?_map] at y ⊢
  cases e : ns[i]? with
  | none => rw [e] at y; cases y
  | some n => rw [e] at y; cases y; exact ⟨fun _ _ e => e, _, rfl, .int n⟩
theorem rIt_tup {K : Fg} {I : Fp → Hp → Prop} {F0 F : Fp} {H H' : Hp} {a : Addr} {vs : List V} {ds : List D} (hl : TupF K F H' a vs) (r : Reps K F H' vs ds) : rIt K I F0 F H H' (Itt K a) ds := by
  have w : Walk (Itt K a) ds.length (fun H => SqT K H a vs) (YAt vs) := by rw [← r.length]; exact walk_tup
  refine ⟨_, _, w, fun H2 s => (hl.step ⟨s, fun _ z => .inl z⟩).sq, fun Fc i H2 x H3 hi s dm y => ?_⟩
  obtain ⟨rfl, y⟩ := y
  obtain ⟨d, e, q⟩ := (r.step s).getV y
  exact ⟨fun _ _ e => e, d, e, q⟩
/-- a list or a tuple -/
def iSeq (K : Fg) (tl : TE) : TI := fun σ H R => tl σ H fun x H1 => (∃ a, x = .ref a ∧ (∃ xs, SqL K H1 a xs) ∧ R (Itl K a) H1) ∨ (∃ a, x = .ref a ∧ (∃ xs, SqT K H1 a xs) ∧ R (Itt K a) H1)
theorem pi_seq {tg l : Expr} {tl : TE} (hl : PE X l tl) : PI X tg l (iSeq X.K tl) := by
  refine ⟨fun pins s σ H R I h => ?_⟩
  refine thn (hl.run pins s σ H _ I h) fun v s1 ⟨x, H1, I1, r1, q1⟩ => ?_
  rcases q1 with ⟨a, e, ⟨xs, hq⟩, q⟩ | ⟨a, e, ⟨xs, hq⟩, q⟩
  · subst e
    cases r1
    obtain ⟨its, rv, p, hz⟩ := I1.list hq
    refine wpAny_pyIter_list p.isList ?_
    refine ⟨s1.heap.objs.size, [s1.heap.objs.size], _, _, H1, rfl, I1.kept (t' := s1.toks) fun b o e => Heap.get?_push_of_some _ e, turn_list a _, ⟨_, Heap.get?_push_size _ rfl, rfl, rfl⟩, fun b hb => ?_, q⟩
    have e : b = s1.heap.objs.size := by simpa using hb
    subst e
    exact I1.fpOk (Nat.le_refl _) (I1.hok.fresh (Nat.le_refl _))
  · subst e
    cases r1
    obtain ⟨its, rv, p, hz⟩ := I1.tuple hq
    refine wpAny_pyIter_tuple (show s1.heap.IsTuple a its.toArray from p) ?_
    refine ⟨s1.heap.objs.size, [s1.heap.objs.size], _, _, H1, rfl, I1.kept (t' := s1.toks) fun b o e => Heap.get?_push_of_some _ e, turn_tuple a _, ⟨_, Heap.get?_push_size _ rfl, rfl, rfl⟩, fun b hb => ?_, q⟩
    have e : b = s1.heap.objs.size := by simpa using hb
    subst e
    exact I1.fpOk (Nat.le_refl _) (I1.hok.fresh (Nat.le_refl _))
theorem mi_seq {tg l : Expr} {m : ME τ D} (h : PE X l (tE X.K W m)) : PI X tg l (tI X.K W (e1 itD m)) := PI.imp (pi_seq h) fun σ H R ⟨C, ρ, t, A, p⟩ => by
  refine use okI A p fun d t1 v H1 e1 s1 A1 r1 p1 => ?_
  cases d <;> first
    | exact p1.elim
    | skip
  · cases r1 with
    | tup hl r => exact .inr ⟨_, rfl, ⟨_, hl.sq⟩, p1 _ H1 (Sm.refl _ _) A1.st (rIt_tup hl r)⟩
  · cases r1 with
    | lst hl r => exact .inl ⟨_, rfl, ⟨_, hl.sq⟩, p1 _ H1 (Sm.refl _ _) A1.st (rIt_list hl r)⟩
  · cases r1 with
    | scr hl => exact .inl ⟨_, rfl, ⟨_, hl.sq⟩, p1 _ H1 (Sm.refl _ _) A1.st (rIt_scr hl)⟩
def rngD (lo : Int) (n : Nat) : List D := (List.range n).map fun i => .int (lo + (i : Nat))
theorem rIt_rng {K : Fg} {I : Fp → Hp → Prop} {F0 F : Fp} {H H' : Hp} {lo : Int} {n : Nat} : rIt K I F0 F H H' (Itr lo n) (rngD lo n) := by
  have w : Walk (Itr lo n) (rngD lo n).length (fun _ => True) (YFn fun i => .int (lo + i)) := by
    rw [show (rngD lo n).length = n by simp [rngD]]
    exact walk_range
  refine ⟨_, _, w, fun _ _ => trivial, fun Fc i H2 x H3 hi s dm y => ?_⟩
  obtain ⟨rfl, rfl⟩ := y
  have hn : i < n := by simpa [rngD] using hi
  exact ⟨fun _ _ e => e, .int (lo + i), by simp [rngD, hn], .int _⟩
def fRng1 : List D → Option (List D)
  | [.int j] => if -(2 ^ 62) ≤ j ∧ j < 2 ^ 62 then some (rngD 0 j.toNat) else none
  | _ => none
def fRng2 : List D → Option (List D)
  | [.int i, .int j] => if -(2 ^ 62) ≤ i ∧ i < 2 ^ 62 ∧ -(2 ^ 62) ≤ j ∧ j < 2 ^ 62 then some (rngD i (j - i).toNat) else none
  | _ => none
theorem mi_range1 {tg a : Expr} {p pos : Pos} {m : ME τ (List D)} (hg : Gl X "range") (hm : X.mg "range" = none) (ha : PA X [a] (tAW X.K W m)) (hs : starEach [a] X.env = [(false, eval a X.env)] := by rfl) : PI X tg (.Call (.Name "range" p) [a] [] pos) (tI X.K W (e1 fRng1 m)) :=
  PI.imp (pi_range1 hg hm ha hs) fun σ H R ⟨C, ρ, t, A, p⟩ => by
    refine use okI A p fun d t1 v H1 e1 s1 A1 r1 p1 => ?_
    unfold fRng1 at p1
    split at p1
    · rename_i j
      obtain ⟨x, rfl, rx⟩ := RepsW.one r1
      cases rx.intOf
      split at p1
      · rename_i hj
        exact ⟨j, rfl, hj.1, hj.2, p1 _ H1 (Sm.refl _ _) A1.st rIt_rng⟩
      · exact p1.elim
    · exact p1.elim
theorem mi_range2 {tg a b : Expr} {p pos : Pos} {m : ME τ (List D)} (hg : Gl X "range") (hm : X.mg "range" = none) (ha : PA X [a, b] (tAW X.K W m)) (hs : starEach [a, b] X.env = [(false, eval a X.env), (false, eval b X.env)] := by rfl) (hs2 : starEach [b] X.env = [(false, eval b X.env)] := by rfl) :
    PI X tg (.Call (.Name "range" p) [a, b] [] pos) (tI X.K W (e1 fRng2 m)) :=
  PI.imp (pi_range2 hg hm ha hs hs2) fun σ H R ⟨C, ρ, t, A, p⟩ => by
    refine use okI A p fun d t1 v H1 e1 s1 A1 r1 p1 => ?_
    unfold fRng2 at p1
    split at p1
    · rename_i i j
      obtain ⟨x, y, rfl, rx, ry⟩ := RepsW.two r1
      cases rx.intOf
      cases ry.intOf
      split at p1
      · rename_i hj
        exact ⟨i, j, rfl, hj, p1 _ H1 (Sm.refl _ _) A1.st rIt_rng⟩
      · exact p1.elim
    · exact p1.elim

/-! ### for -/
def loopF (g : Tgt) (b : MS τ) : List D → MS τ
  | [] => fun ρ t => .nx ρ t
  | d :: ds => fun ρ t => match g ρ d with
    | some ρ1 => (match b ρ1 t with
      | .nx ρ' t' => loopF g b ds ρ' t'
      | .ct ρ' t' => loopF g b ds ρ' t'
      | .bk ρ' t' => .nx ρ' t'
      | r => r)
    | none => .bad
def sFor (m : ME τ (List D)) (g : Tgt) (b : MS τ) : MS τ := sDo m fun ds ρ t => loopF g b ds ρ t
theorem for_red {m : ME τ (List D)} {g : Tgt} {vs : List Nat} {b : MS τ} {E : Ends} {σ : St} {H : Hp} (p : tS K W (sFor m g b) E σ H) : tFor (tI K W m) (tTg τ K g vs) (tS K W b) E σ H := by
  obtain ⟨C, ρ0, t0, A0, p⟩ := p
  refine useS A0 p fun ds t1 J H1 e1 s1 A1 r1 p1 => ?_
  obtain ⟨G, Y, w, hG, hY⟩ := r1
  refine for_it w (fun i σ' H' => ∃ ρ t, At K C ρ t σ' H' ∧ Stp (Fo C.F ρ0 σ) H1 (Fo C.F ρ σ') H' ∧ SPost K W C (Fo C.F ρ σ') H' (loopF g b (ds.drop i) ρ t) E) ⟨ρ0, t1, A1, Stp.refl _ _, p1⟩ ?_ ?_ ?_
  · rintro i σ' H' hi ⟨ρ, t, A, s, q⟩
    exact hG H' s.keep
  · rintro i x σ' H' H'' hi ⟨ρ, t, A, s, q⟩ y
    obtain ⟨sm, d, ed, r⟩ := hY (Fo C.F ρ σ') i H' x H'' hi s A.dom y
    have A' := A.next (Sm.of_same sm) (C.stay A.st sm)
    have dr : ds.drop i = d :: ds.drop (i + 1) := by
      obtain ⟨hl, e⟩ := List.getElem?_eq_some_iff.mp ed
      rw [List.drop_eq_getElem_cons hl, e]
    rw [dr] at q
    unfold loopF at q
    cases eg : g ρ d with
    | none => rw [eg] at q; exact q.elim
    | some ρ1 =>
      rw [eg] at q
      refine ⟨C, ρ, t, d, A', r, ρ1, eg, fun σ2 Hg _ _ s2 A2 => ⟨C, ρ1, t, A2, ?_⟩⟩
      have s02 : Stp (Fo C.F ρ σ') H' (Fo C.F ρ1 σ2) Hg := Stp.trans (Stp.of_sm (Sm.of_same (F := C.F) sm) fun _ => .inl) s2
      dsimp only at q
      cases eb : b ρ1 t with
      | nx ρ' t' => rw [eb] at q; exact fun σ3 H3 s3 A3 => ⟨ρ', t', A3, s.trans (s02.trans s3), SPost.rebase q (s02.trans s3)⟩
      | ct ρ' t' => rw [eb] at q; exact fun σ3 H3 s3 A3 => ⟨ρ', t', A3, s.trans (s02.trans s3), SPost.rebase q (s02.trans s3)⟩
      | bk ρ' t' => rw [eb] at q; exact SPost.rebase (K := K) (W := W) (E := E) (r := .nx ρ' t') q s02
      | rt v t' => rw [eb] at q; exact SPost.rebase (K := K) (W := W) (r := .rt v t') (E := E) q s02
      | ex n fs ρ' t' => rw [eb] at q; exact SPost.rebase (K := K) (W := W) (r := .ex n fs ρ' t') (E := E) q s02
      | bad => rw [eb] at q; exact q.elim
  · rintro σ' H' ⟨ρ, t, A, s, q⟩
    rw [List.drop_length] at q
    exact q σ' H' (Stp.refl _ _) A
theorem ms_for {tg iter : Expr} {body : List Stmt} {pos : Pos} {m : ME τ (List D)} {g : Tgt} {vs : List Nat} {b : MS τ} (hp : PassesOwn (model X.prog X.w) X.A X.env X.xe) (hc : X.calm = true) (hi : PI X tg iter (tI X.K W m)) (hg : PG X tg (tTg τ X.K g vs)) (hb : PSs X body (tS X.K W b))
    (hs : ∀ x, foldedSetIterable iter X.env x = pure x := by intro _; rfl) : PS X (.For tg iter body [] pos) (tS X.K W (sFor m g b)) := PS.imp (ps_for hp hc hi hg hb hs) fun _ _ _ p => for_red p
end
end MM

/-! M6: comprehensions, a def's promise, calls, raise, try. -/
namespace MM
open PySem PySem.Spec PyProof.Rows L2
abbrev W0 : WX := fun _ _ _ _ => False
section
variable {X : Cx} {W : WX} {τ : Type} [Sto τ] {K : Fg}
/-! ### comprehensions -/
def wipeR (ρ : Rho) : List Nat → Rho
  | [] => ρ
  | v :: vs => (wipeR ρ vs).set v .no
theorem wipeR_some {ρ : Rho} {i : Nat} {x : Slot} : ∀ {vs : List Nat}, (wipeR ρ vs)[i]? = some x → x ≠ .no → ρ[i]? = some x ∧ i ∉ vs
  | [], h, _ => ⟨h, by simp⟩
  | v :: vs, h, hn => by
    unfold wipeR at h
    rcases set_at h with ⟨_, e, _⟩ | ⟨ne, h⟩
    · exact absurd e hn
    · obtain ⟨h1, h2⟩ := wipeR_some h hn
      exact ⟨h1, by simp only [List.mem_cons, not_or]; exact ⟨fun e => ne e.symm, h2⟩⟩
theorem wipeR_length (ρ : Rho) : ∀ vs : List Nat, (wipeR ρ vs).length = ρ.length
  | [] => rfl
  | v :: vs => by unfold wipeR; rw [List.length_set, wipeR_length ρ vs]
theorem wipe_keep {σ : St} {i : Nat} : ∀ {vs : List Nat}, i ∉ vs → (wipe σ vs)[i]? = σ[i]?
  | [], _ => rfl
  | v :: vs, h => by
    simp only [List.mem_cons, not_or] at h
    unfold wipe
    rw [List.getElem?_set_ne (fun e => h.1 e.symm), wipe_keep h.2]
def noEx {α : Type} (r : Res τ α) : Res τ α := match r with
  | .ok a t => .ok a t
  | _ => .bad
def compL (g : Tgt) (tt : ME τ Bool) (te : ME τ D) (ρ : Rho) : List D → τ → Res τ (List D)
  | [], t => .ok [] t
  | d :: ds, t => match g ρ d with
    | some ρ1 => (noEx (tt ρ1 t)).bind fun b t => if b = true then (noEx (te ρ1 t)).bind fun y t => (compL g tt te ρ ds t).bind fun ys t => .ok (y :: ys) t else compL g tt te ρ ds t
    | none => .bad
theorem wipe_eq {σ σ' : St} {vs ws : List Nat} (hl : σ'.length = σ.length) (h : ∀ j, j ∉ vs → σ'[j]? = σ[j]?) (hs : ∀ j, j ∈ vs → j ∈ ws) : wipe σ' ws = wipe σ ws := by
  have wn : ∀ (τ0 : St) (us : List Nat) (j : Nat), j ∈ us → j < τ0.length → (wipe τ0 us)[j]? = some none := fun τ0 us => by
    induction us with
    | nil => intro j h; cases h
    | cons u us ih =>
      intro j hj hl
      unfold wipe
      by_cases e : u = j
      · subst e
        rw [List.getElem?_set_self (by rw [wipe_length]; exact hl)]
      · rw [List.getElem?_set_ne e]
        exact ih j ((List.mem_cons.mp hj).resolve_left fun q => e q.symm) hl
  refine List.ext_getElem? fun j => ?_
  by_cases q : j ∈ ws
  · by_cases l : j < σ.length
    · rw [wn σ' ws j q (by rw [hl]; exact l), wn σ ws j q l]
    · rw [List.getElem?_eq_none (by rw [wipe_length, hl]; omega), List.getElem?_eq_none (by rw [wipe_length]; omega)]
  · rw [wipe_keep q, wipe_keep q]
    exact h j fun z => q (hs j z)
def noOwn (ρ : Rho) (vs : List Nat) : Bool := vs.all fun v => match ρ[v]? with
  | some (.own _) => false
  | some (.dct ..) => false
  | _ => true
theorem noOwn_mine {ρ : Rho} {vs : List Nat} (hno : noOwn ρ vs = true) {j : Nat} {x : Slot} (h : ρ[j]? = some x ∧ x.mine = true) (hj : j ∈ vs) : False := by
  have z := List.all_eq_true.mp hno j hj
  rw [h.1] at z
  cases x with
  | own _ => cases z
  | dct _ _ => cases z
  | no => cases h.2
  | val _ => cases h.2
def eComp (mi : ME τ (List D)) (vs : List Nat) (g : Tgt) (tt : ME τ Bool) (te : ME τ D) : ME τ (List D) := fun ρ t => (mi ρ t).bind fun ds t => if ds.length ≤ 16777216 ∧ noOwn ρ vs = true then compL g tt te (wipeR ρ vs) ds t else .bad
/-- the state of a block -/
theorem At.blk {C : SC τ} {ρ : Rho} {t : τ} {σ : St} {H1 H' : Hp} {D0 : Addr} {acc : HO} {vs : List Nat} {t' : τ} (A : At K C ρ t σ H1) (nD : H1 D0 = none) (s : Sm C.F H1 H') (iv : C.Iv t' (fun b => Fo C.F ρ σ b ∨ b = D0) H') (hD : H' D0 = some acc) :
    At K (C.cmp D0 acc) (wipeR ρ vs) t' (wipe σ vs) H' ∧ ∀ b, Fo (C.cmp D0 acc).F (wipeR ρ vs) (wipe σ vs) b → Fo C.F ρ σ b ∨ b = D0 := by
  have tr : ∀ {j : Nat} {x : Slot}, ((wipeR ρ vs)[j]? = some x ∧ x.mine = true) → (ρ[j]? = some x ∧ x.mine = true) ∧ j ∉ vs := fun {j x} h => by
    obtain ⟨q1, q2⟩ := wipeR_some h.1 (by intro z; rw [z] at h; cases h.2)
    exact ⟨⟨q1, h.2⟩, q2⟩
  have fo : ∀ b, Fo (C.cmp D0 acc).F (wipeR ρ vs) (wipe σ vs) b → Fo C.F ρ σ b ∨ b = D0 := fun b h => by
    rcases h with (h | h) | ⟨j, xs, h1, h2⟩
    · exact .inl (.inl h)
    · exact .inr h
    · obtain ⟨h3, h4⟩ := tr h1
      exact .inl (.inr ⟨j, xs, h3, by rw [← wipe_keep h4]; exact h2⟩)
  have sp : Stp (Fo C.F ρ σ) H1 (Fo (C.cmp D0 acc).F (wipeR ρ vs) (wipe σ vs)) H' := ⟨fun b o n e => s b o (fun z => n (.inl z)) e, fun b h => (fo b h).elim .inl fun e => .inr (by rw [e]; exact nD)⟩
  refine ⟨⟨Sto.cmp _ _ _ _ (fun z => C.dom _ _ _ _ A.st z nD) A.okC, ⟨C.less iv fo, hD⟩, by rw [wipe_length, wipeR_length, A.len], fun j d h => ?_, fun j xs h => ?_, fun i j xs ys h1 h2 e => ?_⟩, fo⟩
  · obtain ⟨h3, h4⟩ := wipeR_some h (by intro z; cases z)
    obtain ⟨v, h5, h6⟩ := A.val j d h3
    exact ⟨v, by rw [wipe_keep h4]; exact h5, h6.step sp⟩
  · obtain ⟨h3, h4⟩ := tr h
    obtain ⟨a, ws, h5, h6, h7, h8⟩ := A.mine j xs h3
    refine ⟨a, ws, by rw [wipe_keep h4]; exact h5, fun z => z.elim h6 fun e => ?_, s a _ h6 h7, h8.step sp⟩
    rw [e, nD] at h7; cases h7
  · obtain ⟨h3, h4⟩ := tr h1
    obtain ⟨h5, h6⟩ := tr h2
    rw [wipe_keep h4, wipe_keep h6] at e
    exact A.dis i j xs ys h3 h5 e
/-- what a comprehension walks: steady while nothing but the context's own changes -/
def rItO : Rel It (List D) := fun K _ F0 F _ H' J ds => ∃ (G : Hp → Prop) (Y : Nat → Hp → V → Hp → Prop), Walk J ds.length G Y ∧ (∀ H2, Sm F0 H' H2 → G H2) ∧
  ∀ (Fc : Fp) (i : Nat) (H2 : Hp) (x : V) (H3 : Hp), i < ds.length → Stp F H' Fc H2 → Dom Fc H2 → Y i H2 x H3 → Same H2 H3 ∧ ∃ d, ds[i]? = some d ∧ Rep K Fc H3 x d
abbrev tIO {τ : Type} [Sto τ] (K : Fg) (W : WX) (m : ME τ (List D)) : TI := tG rItO K W m
theorem toO {tg e : Expr} {m : ME τ (List D)} (h : PI X tg e (tI X.K W m)) : PI X tg e (tIO X.K W m) := PI.imp h fun σ H Q ⟨C, ρ, t, A, p⟩ => ⟨C, ρ, t, A, by
  cases q : m ρ t with
  | ok ds t' =>
    rw [q] at p
    exact fun J H' s i ⟨G, Y, w, hG, hY⟩ => p J H' s i ⟨G, Y, w, fun H2 s2 => hG H2 fun b o n e => s2 b o (fun z => n (.inl z)) e, hY⟩
  | ex n fs t' => rw [q] at p; exact p
  | bad => rw [q] at p; exact p⟩
theorem lc_red {mi : ME τ (List D)} {vs ws : List Nat} {g : Tgt} {tt : ME τ Bool} {te : ME τ D} {σ : St} {H : Hp} {Q : VK} (hv : ∀ j, j ∈ ws → j ∈ vs) (p : tF K W (eComp mi vs g tt te) σ H Q) : tLc (tIO K W mi) (tTg τ K g ws) (tT K W0 tt) (tE K W0 te) vs σ H Q := by
  obtain ⟨C, ρ, t0, A0, p⟩ := p
  refine use okF A0 p fun ds t1 J H1 e1 s1 A1 r1 p1 => ?_
  intro D0 nD
  split at p1
  · rename_i hlo
    obtain ⟨hlen, hno⟩ := hlo
    have own_out : ∀ (j : Nat) (x : Slot), (ρ[j]? = some x ∧ x.mine = true) → j ∉ vs := fun j x h hj => noOwn_mine hno h hj
    obtain ⟨G, Y, w, hG, hY⟩ := r1
    have nF0 : ¬ Fo C.F ρ σ D0 := fun z => A1.dom D0 z nD
    have s0 : Sm C.F H1 (upd H1 D0 (.lst [])) := Sm.of_same (same_upd nD)
    have sp0 : Stp (Fo C.F ρ σ) H1 (fun b => Fo C.F ρ σ b ∨ b = D0) (upd H1 D0 (.lst [])) := ⟨fun b o _ e => same_upd nD b o e, fun b h => h.elim .inl fun e => .inr (by rw [e]; exact nD)⟩
    refine lc_it w (fun i H' => ∃ (t : τ) (av : List V) (ad : List D), C.Iv t (fun b => Fo C.F ρ σ b ∨ b = D0) H' ∧ H' D0 = some (.lst av) ∧ Reps K (fun b => Fo C.F ρ σ b ∨ b = D0) H' av ad ∧ av.length ≤ i ∧ Sm C.F H1 H' ∧
        Post rF K W C (Fo C.F ρ σ) σ H1 ((compL g tt te (wipeR ρ vs) (ds.drop i) t).bind fun ys t => .ok (ad ++ ys) t) Q)
      ⟨t1, [], [], C.step _ _ _ _ _ A1.st (fun b o _ e => same_upd nD b o e) sp0, upd_same, .nil, Nat.le_refl _, s0, ?_⟩ ?_ ?_ ?_
    · rw [List.drop_zero]
      cases q : compL g tt te (wipeR ρ vs) ds t1 with
      | ok d t => rw [q] at p1; exact p1
      | ex n fs t => rw [q] at p1; exact p1
      | bad => rw [q] at p1; exact p1
    · rintro i H' hi ⟨t, av, ad, iv, hD, ra, hl, sm, q⟩
      exact hG H' sm
    · rintro i x H' H'' hi ⟨t, av, ad, iv, hD, ra, hl, sm, q⟩ y
      obtain ⟨AB, fo⟩ := At.blk (vs := vs) A1 nD sm iv hD
      have sp : Stp (Fo C.F ρ σ) H1 (Fo (C.cmp D0 (.lst av)).F (wipeR ρ vs) (wipe σ vs)) H' := ⟨fun b o n e => sm b o (fun z => n (.inl z)) e, fun b h => (fo b h).elim .inl fun e => .inr (by rw [e]; exact nD)⟩
      obtain ⟨sy, d, ed, r⟩ := hY _ i H' x H'' hi sp AB.dom y
      have AB2 := AB.next (Sm.of_same sy) ((C.cmp D0 (.lst av)).stay AB.st sy)
      have dr : ds.drop i = d :: ds.drop (i + 1) := by
        obtain ⟨hl, e⟩ := List.getElem?_eq_some_iff.mp ed
        rw [List.drop_eq_getElem_cons hl, e]
      rw [dr] at q
      unfold compL at q
      cases eg : g (wipeR ρ vs) d with
      | none => rw [eg] at q; exact q.elim
      | some ρ1 =>
        rw [eg] at q
        dsimp only at q
        refine ⟨C.cmp D0 (.lst av), wipeR ρ vs, t, d, AB2, r, ρ1, eg, fun σ2 Hg f2 mg s2 A2 => ⟨(wipe_eq (ws := vs) f2.1 (fun j hj => (f2.2 j hj).1) hv).trans (wipe_eq (ws := vs) (vs := vs) (wipe_length σ vs) (fun j hj => wipe_keep hj) fun _ h => h), ?_⟩⟩
        have sy : Same H' Hg := fun b o e => mg b o (sy b o e)
        have sm2 : Sm C.F H1 Hg := sm.trans (Sm.of_same sy)
        have smB : ∀ {H3 : Hp}, Sm (C.cmp D0 (.lst av)).F Hg H3 → Sm C.F H1 H3 := fun {H3} s3 b o n e => s3 b o (fun z => z.elim n fun q => by rw [q, nD] at e; cases e) (sm2 b o n e)
        have big : ∀ b, (Fo C.F ρ σ b ∨ b = D0) → Fo (C.cmp D0 (.lst av)).F ρ1 σ2 b := fun b h => by
          rcases h with (h | ⟨j, xs, h1, h2⟩) | h
          · exact .inl (.inl h)
          · have hj := own_out j xs h1
            have hj2 : j ∉ ws := fun z => hj (hv j z)
            refine .inr ⟨j, xs, ⟨?_, h1.2⟩, ?_⟩
            · rw [(f2.2 j hj2).2]
              have : ∀ us : List Nat, j ∉ us → (wipeR ρ us)[j]? = ρ[j]? := fun us => by
                induction us with
                | nil => intro _; rfl
                | cons u us ih =>
                  intro hu
                  simp only [List.mem_cons, not_or] at hu
                  unfold wipeR
                  rw [List.getElem?_set_ne (fun e => hu.1 e.symm), ih hu.2]
              rw [this vs hj]; exact h1.1
            · rw [(f2.2 j hj2).1, wipe_keep hj, h2]
          · exact .inl (.inr h)
        have raB : ∀ {H3 : Hp}, Sm (C.cmp D0 (.lst av)).F Hg H3 → Reps K (fun b => Fo C.F ρ σ b ∨ b = D0) H3 av ad := fun {H3} s3 => (ra.same (Sm.of_same sy)).same (s3.mono fun b h => h.elim (fun z => .inl (.inl z)) .inr)
        refine ⟨C.cmp D0 (.lst av), ρ1, t, A2, ?_⟩
        unfold noEx at q
        cases et : tt ρ1 t with
        | bad => rw [et] at q; exact q.elim
        | ex n fs t' => rw [et] at q; exact q.elim
        | ok c t3 =>
          rw [et] at q
          intro c' H3 s3 i3 ec
          cases ec
          cases c with
          | false =>
            rw [if_neg Bool.false_ne_true]
            exact ⟨t3, av, ad, C.less i3.1 big, i3.2, raB s3, Nat.le_succ_of_le hl, smB s3, q⟩
          | true =>
            rw [if_pos rfl]
            have A3 := A2.next s3 i3
            refine ⟨C.cmp D0 (.lst av), ρ1, t3, A3, ?_⟩
            simp only [Res.bind_ok, if_true] at q
            cases ee : te ρ1 t3 with
            | bad => rw [ee] at q; exact q.elim
            | ex n fs t' => rw [ee] at q; exact q.elim
            | ok y t4 =>
              rw [ee] at q
              intro yv H4 s4 i4 ry
              have s34 : Sm (C.cmp D0 (.lst av)).F Hg H4 := s3.trans s4
              have yB : Rep K (fun b => Fo C.F ρ σ b ∨ b = D0) H4 yv y := Rep.anti ry big
              refine ⟨av, i4.2, Nat.lt_of_le_of_lt hl (Nat.lt_of_lt_of_le hi hlen), t4, av ++ [yv], ad ++ [y], ?_, upd_same, ?_, by rw [List.length_append]; exact Nat.succ_le_succ hl, ?_, ?_⟩
              · refine C.step _ _ _ _ _ (C.less i4.1 big) (fun b o h e => ?_) ⟨fun b o n e => by rw [upd_ne (fun z => n (.inr z))]; exact e, fun b h => .inl h⟩
                rw [upd_ne (fun z => nF0 (by rw [← z]; exact .inl h))]
                exact e
              · have sp4 : Stp (fun b => Fo C.F ρ σ b ∨ b = D0) H4 (fun b => Fo C.F ρ σ b ∨ b = D0) (upd H4 D0 (.lst (av ++ [yv]))) := ⟨fun b o n e => by rw [upd_ne (fun z => n (.inr z))]; exact e, fun b h => .inl h⟩
                exact Reps.step sp4 ((raB s34).snoc yB)
              · intro b o n e
                have nb : b ≠ D0 := fun z => by rw [z, nD] at e; cases e
                rw [upd_ne nb]
                exact smB s34 b o n e
              · simp only [noEx, Res.bind_ok] at q
                cases ec : compL g tt te (wipeR ρ vs) (ds.drop (i + 1)) t4 with
                | ok zs t5 => rw [ec] at q; simp only [Res.bind_ok, List.append_assoc, List.singleton_append] at q ⊢; exact q
                | ex n fs t5 => rw [ec] at q; exact q
                | bad => rw [ec] at q; exact q
    · rintro H' ⟨t, av, ad, iv, hD, ra, hl, sm, q⟩
      rw [List.drop_length] at q
      simp only [compL, Res.bind_ok, List.append_nil] at q
      exact q (.ref D0) H' sm (C.less iv fun _ => .inl) ⟨D0, av, rfl, nF0, nD, hD, ra, iv⟩
  · exact p1.elim
theorem mf_lc {elt tg iter : Expr} {ifs : List Expr} {scope : Scope} {own : List (Str × Nat)} {ws : List Nat} {pos : Pos} {mi : ME τ (List D)} {g : Tgt} {tt : ME τ Bool} {te : ME τ D} (hc : X.calm = true) (hN : X.N.Nodup) (hi : PI X tg iter (tIO X.K W mi)) (ok : BlkOk X.N X.env.scope scope own)
    (hv : ∀ j, j ∈ ws → j ∈ own.map (·.2))
    (hg : ∀ (s : Shared) (H : Hp) (C : Addr) (cl : List (Str × Addr)) (fp : List Addr), PG (X.blk s H scope (compEnvC scope cl C X.env) fp) tg (tTg τ X.K g ws)) (ht : ∀ (s : Shared) (H : Hp) (C : Addr) (cl : List (Str × Addr)) (fp : List Addr), PTs (X.blk s H scope (compEnvC scope cl C X.env) fp) ifs (tT X.K W0 tt))
    (he : ∀ (s : Shared) (H : Hp) (C : Addr) (cl : List (Str × Addr)) (fp : List Addr), PE (X.blk s H scope (compEnvC scope cl C X.env) fp) elt (tE X.K W0 te)) (hs : ∀ x, foldedSetIterable iter X.env x = pure x := by intro _; rfl) :
    PE X (.ListComp elt [⟨tg, iter, ifs, 0⟩] scope pos) (tF X.K W (eComp mi (own.map (·.2)) g tt te)) := PE.imp (pe_lc hc hN hi ok hg ht he hs) fun _ _ _ p => lc_red hv p
/-- name = [..], the list as a value, and as an own list -/
theorem ms_lcOwn {s : Stmt} {i : Nat} {mi : ME τ (List D)} {vs ws : List Nat} {g : Tgt} {tt : ME τ Bool} {te : ME τ D} (hv : ∀ j, j ∈ ws → j ∈ vs) (h : PS X s (tAsg (tLc (tIO X.K W mi) (tTg τ X.K g ws) (tT X.K W0 tt) (tE X.K W0 te) vs) (gName i))) :
    PS X s (tS X.K W (sOwn i (eComp mi vs g tt te))) := ms_setOwn (PS.imp h fun _ _ _ p => lc_red hv p)
theorem ms_lc {s : Stmt} {i : Nat} {mi : ME τ (List D)} {vs ws : List Nat} {g : Tgt} {tt : ME τ Bool} {te : ME τ D} (hv : ∀ j, j ∈ ws → j ∈ vs) (h : PS X s (tAsg (tLc (tIO X.K W mi) (tTg τ X.K g ws) (tT X.K W0 tt) (tE X.K W0 te) vs) (gName i))) :
    PS X s (tS X.K W (sAsg (gN i) (eLst (eComp mi vs g tt te)))) := ms_set (PS.imp h fun σ _ _ p => by
  obtain ⟨C, ρ, t, A, p⟩ := p
  refine lc_red hv ⟨C, ρ, t, A, ?_⟩
  unfold eLst at p
  cases e : eComp mi vs g tt te ρ t with
  | ok d t' =>
    rw [e] at p
    intro v H' s i r
    obtain ⟨a, us, rfl, n, q, l, r, _⟩ := r
    exact p _ H' s i (.lst ⟨n, .inl l⟩ (r.anti fun _ => .inl))
  | ex n fs t' => rw [e] at p; exact p
  | bad => rw [e] at p; exact p)
theorem mts_nil : PTs X [] (tT X.K W (fun (_ : Rho) (t : τ) => .ok true t)) := ⟨fun pins s σ H Q I ⟨C, ρ, t, A, p⟩ => pts_nil.run pins s σ H Q I (p true H (Sm.refl _ _) A.st rfl)⟩
theorem mts_one {c : Expr} {m : ME τ Bool} (h : PT X c (tT X.K W m)) : PTs X [c] (tT X.K W m) := pts_one h
end

/-! ### a def's promise -/
section
variable {τ : Type} [Sto τ]
def FPost (K : Fg) (C : SC τ) (H : Hp) (r : Res τ D) (Q : VK) (E : XK) : Prop := match r with
  | .ok d t' => ∀ v H', Sm C.F H H' → C.Iv t' C.F H' → Rep K C.F H' v d → Q v H'
  | .ex n fs t' => ∀ cls dd H', Sm C.F H H' → C.Iv t' C.F H' → XRep K C.F H' n fs cls dd → E cls dd H'
  | .bad => False
def spF (np : Nat) (K : Fg) (m : List D → τ → Res τ D) : Sp := fun vs H Q E => ∃ (C : SC τ) (ds : List D) (t : τ), Sto.ok K C ∧ C.Iv t C.F H ∧ Reps K C.F H vs ds ∧ ds.length = np ∧ FPost K C H (m ds t) Q E
def runB (n : Nat) (mb : MS τ) : List D → τ → Res τ D := fun ds t => match mb (ds.map Slot.val ++ List.replicate (n - ds.length) .no) t with
  | .nx _ t' => .ok .non t'
  | .rt d t' => .ok d t'
  | .ex n fs _ t' => .ex n fs t'
  | _ => .bad
theorem noOwnStart {ds : List D} {n i : Nat} {x : Slot} : ¬ ((ds.map Slot.val ++ List.replicate n Slot.no)[i]? = some x ∧ x.mine = true) := fun ⟨h, hm⟩ => by
  rw [List.getElem?_append] at h
  split at h
  · rw [List.getElem?_map] at h
    cases e : ds[i]? with
    | none => rw [e] at h; cases h
    | some d => rw [e] at h; cases h; cases hm
  · rw [List.getElem?_replicate] at h
    split at h
    · cases h; cases hm
    · cases h
theorem FoStart {F : Fp} {ds : List D} {n : Nat} {σ : St} {b : Addr} (h : Fo F (ds.map Slot.val ++ List.replicate n .no) σ b) : F b := by
  rcases h with h | ⟨i, xs, h1, _⟩
  · exact h
  · exact absurd h1 noOwnStart
theorem At.start {K : Fg} {C : SC τ} {N : List Str} {vs : List V} {ds : List D} {t : τ} {H : Hp} (okC : Sto.ok K C) (iv : C.Iv t C.F H) (r : Reps K C.F H vs ds) (hl : ds.length ≤ N.length) : At K C (ds.map Slot.val ++ List.replicate (N.length - ds.length) .no) t (start N vs) H where
  okC := okC
  st := C.less iv fun _ => FoStart
  len := by
    unfold L2.start
    rw [List.length_append, List.length_append, List.length_map, List.length_map, List.length_replicate, List.length_replicate, r.length]
  val := fun i d h => by
    rw [List.getElem?_append] at h
    split at h
    · rename_i hi
      rw [List.getElem?_map] at h
      cases e : ds[i]? with
      | none => rw [e] at h; cases h
      | some d' =>
        rw [e] at h
        cases h
        obtain ⟨v, h1, h2⟩ := r.get e
        refine ⟨v, ?_, h2.anti fun _ => FoStart⟩
        unfold L2.start
        rw [List.getElem?_append_left (by rw [List.length_map]; exact (List.getElem?_eq_some_iff.mp h1).1), List.getElem?_map, h1]
        rfl
    · rw [List.getElem?_replicate] at h
      split at h <;> cases h
  mine := fun i xs h => absurd h noOwnStart
  dis := fun i j xs ys h => absurd h noOwnStart
theorem fn_mk {P : Program} {w : World} {K : Fg} {mg : Str → Option Value} {base : Heap} {x qual : Str} {params : Arguments} {body : List Stmt} {scope : Scope} {dvs : List V} {kws : List (Str × V)} {f : Addr} {fd : FuncData} {N ps : List Str} {k : Nat}
    (F : FunD K x qual params body scope dvs kws f fd) (S : FnScope N ps scope) (mb : MS τ)
    (hb : ∀ (cdv : Value) (A : Around) (outer : List Env) (s : Shared) (H : Hp) (E : XK), Room k (A.deeper (envOfC qual scope s.heap.objs.size f cdv)) →
      PSs (cxOf (L2.CX P w) P w K mg base N qual scope f cdv A outer s H E) body (tS K (fun cls d _ H => E cls d H) mb)) : FnOk P w K mg base (L2.CX P w) (k + 1) f fd ps (spF ps.length K (runB N.length mb)) := by
  have hpl : ps.length ≤ N.length := by have := congrArg List.length S.pre; rw [List.length_take] at this; omega
  refine F.ok S (fun vs H Q E ⟨C, ds, t, _, _, r, hl, _⟩ => r.length.trans hl) fun cdv A outer s H vs Q E hr ⟨C, ds, t, okC, iv, r, hl, p⟩ => ⟨_, hb cdv A outer s H E hr, C, _, t, At.start okC iv r (by rw [hl]; exact hpl), ?_⟩
  unfold runB at p
  cases e : mb (ds.map Slot.val ++ List.replicate (N.length - ds.length) .no) t with
  | nx ρ' t' =>
    rw [e] at p
    exact fun σ' H' s' A' => p .non H' (fun b o n e => s'.keep b o (fun z => n (FoStart z)) e) (C.less A'.st fun _ => .inl) .non
  | rt d t' =>
    rw [e] at p
    exact fun v H' s' i r => p v H' (fun b o n e => s' b o (fun z => n (FoStart z)) e) i r
  | ex n fs ρ' t' =>
    rw [e] at p
    exact fun cls dd σ' H' s' A' x => p cls dd H' (fun b o n e => s'.keep b o (fun z => n (FoStart z)) e) (C.less A'.st fun _ => .inl) (x.anti fun _ => .inl)
  | bk ρ' t' => rw [e] at p; exact p.elim
  | ct ρ' t' => rw [e] at p; exact p.elim
  | bad => rw [e] at p; exact p.elim

/-- what a caller wants of a def: it may be called with np - j values, the last j by the defaults df -/
structure Def (P : Program) (w : World) (K : Fg) (mg : Str → Option Value) (base : Heap) (k : Nat) (x : Str) (np : Nat) (df : List D) (m : List D → τ → Res τ D) : Prop where
  ex : ∃ (fd : FuncData) (ps : List Str) (ds : List Value) (dvs : List V), FnOk P w K mg base (L2.CX P w) k (He.ga K x) fd ps (spF np K m) ∧ mg x = some (.ref (He.ga K x)) ∧ PySem.W.keepIn K (.ref (He.ga K x)) = true ∧ Binds K fd ps ds ∧ Vals dvs ds ∧ (∀ F H, Reps K F H dvs df)

section
variable {X : Cx} {W : WX} {σc : Type}
/-- how many arguments -/
def ALen {α : Type} (a : ME τ (List α)) (n : Nat) : Prop := ∀ ρ t ds t', a ρ t = .ok ds t' → ds.length = n
theorem alen_nil {α : Type} : ALen (aNil (τ := τ) (α := α)) 0 := fun _ _ _ _ e => by cases e; rfl
theorem alen_cons {α : Type} {a : ME τ α} {b : ME τ (List α)} {n : Nat} (h : ALen b n) : ALen (aCons a b) (n + 1) := fun ρ t ds t' e => by
  unfold aCons at e
  cases e1 : a ρ t with
  | ok d t1 =>
    rw [e1, Res.bind_ok] at e
    cases e2 : b ρ t1 with
    | ok es t2 =>
      rw [e2, Res.bind_ok] at e
      cases e
      show es.length + 1 = n + 1
      rw [h _ _ _ _ e2]
    | ex n fs t2 => rw [e2] at e; cases e
    | bad => rw [e2] at e; cases e
  | ex n fs t1 => rw [e1] at e; cases e
  | bad => rw [e1] at e; cases e
/-- a call of a def that leaves what is live -/
def eCall (m : List D → Unit → Res Unit D) (df : List D) (a : ME τ (List D)) : ME τ D := fun ρ t => (a ρ t).bind fun ds t => match m (ds ++ df) () with
  | .ok d _ => .ok d t
  | .ex n fs _ => .ex n fs t
  | .bad => .bad
/-- the caller's live cells, for such a call -/
def SC.pure (F : Fp) (H1 : Hp) (dm : Dom F H1) : SC Unit where
  F := F
  Iv := fun _ G H' => Stp F H1 G H' ∧ ∀ b o, F b → H1 b = some o → H' b = some o
  dom := fun _ G H' b h hb => by
    cases e : H1 b with
    | none => exact absurd e (dm b hb)
    | some o => rw [h.2 b o hb e]; intro z; cases z
  step := fun _ G H G' H' h1 h2 s => ⟨h1.1.trans s, fun b o hb e => h2 b o hb (h1.2 b o hb e)⟩
theorem SC.pure_same {F : Fp} {H1 : Hp} {dm : Dom F H1} {G : Fp} {H' : Hp} (h : (SC.pure F H1 dm).Iv () G H') : Same H1 H' := fun b o e => by
  by_cases q : F b
  · exact h.2 b o q e
  · exact h.1.keep b o q e
theorem call_red {np j : Nat} {K : Fg} {m : List D → Unit → Res Unit D} {df : List D} {dvs : List V} {a : ME τ (List D)} {σ : St} {H : Hp} {Q : VK} (hd : ∀ F H, Reps K F H dvs df) (hn : ALen a j) (hj : j + df.length = np) (p : tE K W (eCall m df a) σ H Q) :
    tCallSD (spF np K m) dvs (WE W) (tA K W a) σ H Q := by
  obtain ⟨C, ρ, t, A, p⟩ := p
  refine use okE A p fun ds t1 vs H1 e1 s1 A1 r1 p1 => ?_
  refine ⟨SC.pure (Fo C.F ρ σ) H1 A1.dom, ds ++ df, (), trivial, ⟨Stp.refl _ _, fun _ _ _ e => e⟩, Reps.append r1 (hd _ _), by rw [List.length_append, hn _ _ _ _ e1, hj], ?_⟩
  cases e : m (ds ++ df) () with
  | ok d u =>
    rw [e] at p1
    exact fun v H' s i r => p1 v H' (Sm.of_same (SC.pure_same i)) (C.stay A1.st (SC.pure_same i)) r
  | ex n fs u =>
    rw [e] at p1
    exact fun cls dd H' s i x => p1 cls dd H' (Sm.of_same (SC.pure_same i)) (C.stay A1.st (SC.pure_same i)) x
  | bad =>
    rw [e] at p1
    exact p1.elim
theorem me_call {k np j : Nat} {x : Str} {df : List D} {m : List D → Unit → Res Unit D} {e : Expr} {es : List Expr} {p pos : Pos} {a : ME τ (List D)} (Df : Def X.prog X.w X.K X.mg X.base k x np df m) (hr : Room k X.A) (tk : Takes X W) (hg : Gl X x) (hn : ALen a j)
    (ha : PA X (e :: es) (tA X.K W a)) (hdb : (x == ("__debug__" : Str)) = false := by decide) (hj : j + df.length = np := by rfl) (he : starEach (e :: es) X.env = (false, eval e X.env) :: starEach es X.env := by rfl) (hpl : (backTo pos (starEach es X.env)).any (·.1) = false := by rfl) :
    PE X (.Call (.Name x p) (e :: es) [] pos) (tE X.K W (eCall m df a)) := by
  obtain ⟨fd, ps, ds, dvs, F, hm, hk, hb, hd, hdf⟩ := Df.ex
  exact PE.imp (pe_callSD F hr hg hm hk hb hd (fun σ => passAt tk σ) ha hdb he hpl) fun _ _ _ p => call_red hdf hn hj p
/-- a call of a def over the same state -/
def eCallS (m : List D → τ → Res τ D) (df : List D) (a : ME τ (List D)) : ME τ D := fun ρ t => (a ρ t).bind fun ds t => m (ds ++ df) t
theorem SC.ov_sm {C : SC τ} {F : Fp} {H1 : Hp} {hF : ∀ b, C.F b → F b} {dm : Dom F H1} {t : τ} {G : Fp} {H' : Hp} (h : (SC.ov C F H1 hF dm).Iv t G H') : Sm C.F H1 H' := fun b o n e => by
  by_cases q : F b
  · exact h.2.2 b o q n e
  · exact h.2.1.keep b o q e
theorem callS_red {np j : Nat} {K : Fg} {m : List D → τ → Res τ D} {df : List D} {dvs : List V} {a : ME τ (List D)} {σ : St} {H : Hp} {Q : VK} (hd : ∀ F H, Reps K F H dvs df) (hn : ALen a j) (hj : j + df.length = np) (p : tE K W (eCallS m df a) σ H Q) :
    tCallSD (spF np K m) dvs (WE W) (tA K W a) σ H Q := by
  obtain ⟨C, ρ, t, A, p⟩ := p
  refine use okE A p fun ds t1 vs H1 e1 s1 A1 r1 p1 => ?_
  refine ⟨SC.ov C (Fo C.F ρ σ) H1 (fun _ => Fo.base) A1.dom, ds ++ df, t1, Sto.ov _ _ _ _ _ _ A1.okC, ⟨A1.st, Stp.refl _ _, fun _ _ _ _ e => e⟩, Reps.append r1 (hd _ _), by rw [List.length_append, hn _ _ _ _ e1, hj], ?_⟩
  cases e : m (ds ++ df) t1 with
  | ok d u =>
    rw [e] at p1
    exact fun v H' s i r => p1 v H' (SC.ov_sm i) i.1 r
  | ex n fs u =>
    rw [e] at p1
    exact fun cls dd H' s i x => p1 cls dd H' (SC.ov_sm i) i.1 x
  | bad =>
    rw [e] at p1
    exact p1.elim
theorem me_callS {k np j : Nat} {x : Str} {df : List D} {m : List D → τ → Res τ D} {e : Expr} {es : List Expr} {p pos : Pos} {a : ME τ (List D)} (Df : Def X.prog X.w X.K X.mg X.base k x np df m) (hr : Room k X.A) (tk : Takes X W) (hg : Gl X x) (hn : ALen a j)
    (ha : PA X (e :: es) (tA X.K W a)) (hdb : (x == ("__debug__" : Str)) = false := by decide) (hj : j + df.length = np := by rfl) (he : starEach (e :: es) X.env = (false, eval e X.env) :: starEach es X.env := by rfl) (hpl : (backTo pos (starEach es X.env)).any (·.1) = false := by rfl) :
    PE X (.Call (.Name x p) (e :: es) [] pos) (tE X.K W (eCallS m df a)) := by
  obtain ⟨fd, ps, ds, dvs, F, hm, hk, hb, hd, hdf⟩ := Df.ex
  exact PE.imp (pe_callSD F hr hg hm hk hb hd (fun σ => passAt tk σ) ha hdb he hpl) fun _ _ _ p => callS_red hdf hn hj p

/-! ### raise, try -/
def sRaise (n : Str) : MS τ := fun ρ t => .ex n none ρ t
theorem ms_raise {e : Expr} {n : Str} {pos : Pos} (hc : X.calm = true) (tk : Takes X W) (h : PMk X e (fun _ H Q => Q (.ref (He.ga X.K n)) none H)) : PS X (.Raise (some e) none pos) (tS X.K W (sRaise (τ := τ) n)) := PS.imp (ps_raise hc tk h) fun E σ H ⟨C, ρ, t, A, p⟩ =>
  p _ _ σ H (Stp.refl _ _) A ⟨rfl, rfl⟩
/-- try: body, except c (as e): handler. mt: does the clause take an exception of that class; hd: the handler for it -/
def sTry (b : MS τ) (mt : Str → Option Bool) (hd : Str → Fds → MS τ) : MS τ := fun ρ t => match b ρ t with
  | .ex n fs ρ' t' => (match mt n with
    | some true => hd n fs ρ' t'
    | some false => .ex n fs ρ' t'
    | none => .bad)
  | r => r
end
end
end MM

/-! M7: what the operators and built-in calls answer, upon D. -/
namespace MM
open PySem PySem.Spec PyProof.Rows L2
section
variable {X : Cx} {K : Fg}
/-! ### ints -/
theorem DOp2.int0 {g : Int → Int → V} {f : Int → Int → D} (h : ∀ i j F H, Rep K F H (g i j) (f i j)) : DOp2 K (rI0 g) (fun d e => match d, e with
    | .int i, .int j => some (f i j)
    | _, _ => none) := fun F0 F H x y d e z Q dm rx ry q k => by
  dsimp only at q
  split at q
  · cases q
    exact ⟨_, _, rx.intOf, ry.intOf, k _ _ (Same.refl H) (h _ _ _ _)⟩
  · cases q
theorem DOp2.intC {g : Int → Int → V} {f : Int → Int → D} {C : Int → Int → Prop} {c : Int → Int → Bool} (hc : ∀ i j, c i j = true → C i j) (h : ∀ i j F H, c i j = true → Rep K F H (g i j) (f i j)) : DOp2 K (rI C g) (fun d e => match d, e with
    | .int i, .int j => if c i j = true then some (f i j) else none
    | _, _ => none) := fun F0 F H x y d e z Q dm rx ry q k => by
  dsimp only at q
  split at q
  · split at q
    · rename_i hcc
      cases q
      exact ⟨_, _, rx.intOf, ry.intOf, hc _ _ hcc, k _ _ (Same.refl H) (h _ _ _ _ hcc)⟩
    · cases q
  · cases q
def mulOk (i j : Int) : Bool := decide (i.natAbs.log2 + j.natAbs.log2 < 1000000)
def divOk (_ j : Int) : Bool := decide (j ≠ 0 ∧ j.natAbs.log2 < 9000)
def modOk (_ j : Int) : Bool := decide (j ≠ 0)
def powOk (i j : Int) : Bool := decide (0 ≤ j ∧ j ≤ 1000000 ∧ i.natAbs < 2 ^ 64)
def dSub : D → D → Option D := fun d e => match d, e with
  | .int i, .int j => some (.int (i - j))
  | _, _ => none
def dMulI : D → D → Option D := fun d e => match d, e with
  | .int i, .int j => if mulOk i j = true then some (.int (i * j)) else none
  | _, _ => none
def dDiv : D → D → Option D := fun d e => match d, e with
  | .int i, .int j => if divOk i j = true then some (.int (i.fdiv j)) else none
  | _, _ => none
def dMod : D → D → Option D := fun d e => match d, e with
  | .int i, .int j => if modOk i j = true then some (.int (i.fmod j)) else none
  | _, _ => none
def dPow : D → D → Option D := fun d e => match d, e with
  | .int i, .int j => if powOk i j = true then some (.int (i ^ j.toNat)) else none
  | _, _ => none
theorem o_sub : DOp2 K (rI0 fun i j => .int (i - j)) dSub := DOp2.int0 fun _ _ _ _ => .int _
theorem o_mul : DOp2 K (rI CMulW fun i j => .int (i * j)) dMulI := DOp2.intC (fun i j h => (of_decide_eq_true h : i.natAbs.log2 + j.natAbs.log2 < 1000000)) fun _ _ _ _ _ => .int _
def CDivB (_ j : Int) : Prop := j ≠ 0 ∧ j.natAbs.log2 < 9000
theorem op_fdivB : OpR X (binaryOp .FloorDiv) (rI CDivB fun i j => .int (i.fdiv j)) := opI fun i j _ _ _ _ _ hc q => floordiv_int hc.1 q (.inl (PyProof.noPylong_of_log2 hc.2))
theorem o_div : DOp2 K (rI CDivB fun i j => .int (i.fdiv j)) dDiv := DOp2.intC (fun i j h => (of_decide_eq_true h : j ≠ 0 ∧ j.natAbs.log2 < 9000)) fun _ _ _ _ _ => .int _
theorem o_mod : DOp2 K (rI (fun _ j => j ≠ 0) fun i j => .int (i.fmod j)) dMod := DOp2.intC (fun i j h => of_decide_eq_true h) fun _ _ _ _ _ => .int _
theorem o_pow : DOp2 K (rI CPow fun i j => .int (i ^ j.toNat)) dPow := DOp2.intC (fun i j h => (of_decide_eq_true h : 0 ≤ j ∧ j ≤ 1000000 ∧ i.natAbs < 2 ^ 64)) fun _ _ _ _ _ => .int _
def dLt : D → D → Option D := fun d e => match d, e with
  | .int i, .int j => some (.bl (decide (i < j)))
  | _, _ => none
def dLe : D → D → Option D := fun d e => match d, e with
  | .int i, .int j => some (.bl (decide (i ≤ j)))
  | _, _ => none
def dGt : D → D → Option D := fun d e => match d, e with
  | .int i, .int j => some (.bl (decide (j < i)))
  | _, _ => none
def dGe : D → D → Option D := fun d e => match d, e with
  | .int i, .int j => some (.bl (decide (j ≤ i)))
  | _, _ => none
theorem o_lt : DOp2 K (rI0 fun i j => .bl (decide (i < j))) dLt := DOp2.int0 fun _ _ _ _ => .bl _
theorem o_le : DOp2 K (rI0 fun i j => .bl (decide (i ≤ j))) dLe := DOp2.int0 fun _ _ _ _ => .bl _
theorem o_gt : DOp2 K (rI0 fun i j => .bl (decide (j < i))) dGt := DOp2.int0 fun _ _ _ _ => .bl _
theorem o_ge : DOp2 K (rI0 fun i j => .bl (decide (j ≤ i))) dGe := DOp2.int0 fun _ _ _ _ => .bl _
/-! ### plus: ints, texts, lists, tuples -/
def lim2 (n : Nat) : Bool := decide (n ≤ 16777216)
def dAdd : D → D → Option D := fun d e => match d, e with
  | .int i, .int j => some (.int (i + j))
  | .str x, .str y => if lim2 (x.length + y.length) = true then some (.str (x ++ y)) else none
  | .lst xs, .lst ys => if lim2 (xs.length + ys.length) = true then some (.lst (xs ++ ys)) else none
  | .tup xs, .tup ys => if lim2 (xs.length + ys.length) = true then some (.tup (xs ++ ys)) else none
  | _, _ => none
theorem lim2_le {n : Nat} (h : lim2 n = true) : n ≤ sizeLine := of_decide_eq_true h
theorem Inv.lstR {pins : List (Addr × Obj)} {σ : L2.St} {H : Hp} {s : Shared} {l : Addr} {xs : List V} (I : Inv X pins σ H s) (hH : LsR X.K H l xs) : xs.length ≤ sizeLine ∧ ∃ (its : List Value) (n : Nat), Vals xs its ∧ xs.length = its.length ∧ s.heap.get? l = some { cls := .type "list", data := .seq its.toArray n } := by
  obtain ⟨z, its, n, r, e⟩ := hH.ok I.hok
  exact ⟨z, its, n, r, r.length, e⟩
def rCatL (K : Fg) : R2 := fun x y H Q => ∃ l b xs zs, x = .ref l ∧ y = .ref b ∧ LsR K H l xs ∧ LsR K H b zs ∧ xs.length + zs.length ≤ sizeLine ∧ ∀ p, H p = none → Q (.ref p) (upd H p (.lst (xs ++ zs)))
theorem op_catL : OpR X (binaryOp .Add) (rCatL X.K) := by
  intro pins s σ H x y v u Q I rx ry h
  obtain ⟨l, b, xs, zs, rfl, rfl, hH, hB, hz, q⟩ := h
  cases rx
  cases ry
  obtain ⟨z, its, n, r, hl, e⟩ := Inv.lstR I hH
  obtain ⟨z2, its2, n2, r2, hl2, e2⟩ := Inv.lstR I hB
  refine PySem.P.add_list e e2 ?_ (by rw [List.size_toArray, List.size_toArray]; omega)
  have ea : its.toArray ++ its2.toArray = (its ++ its2).toArray := by simp
  rw [ea]
  exact ⟨.ref _, _, I.lnew (t' := s.toks) (r.append r2) (by rw [List.length_append]; omega), rfl, q _ I.fresh⟩
def rAdd4 (K : Fg) : R2 := fun x y H Q => rI0 (fun i j => V.int (i + j)) x y H Q ∨ (fun x y H Q => (∃ i j, x = .str i ∧ y = .str j ∧ i.length + j.length ≤ sizeLine ∧ Q (.str (i ++ j)) H) ∨ (fun x y H Q => rCatL K x y H Q ∨ rCatA K x y H Q) x y H Q) x y H Q
theorem op_add4 : OpR X (binaryOp .Add) (rAdd4 X.K) := op_add.or (op_add_str.or (op_catL.or op_catA))
theorem o_add : DOp2 K (rAdd4 K) dAdd := fun F0 F H x y d e z Q dm rx ry q k => by
  unfold dAdd at q
  split at q
  · cases q
    exact .inl ⟨_, _, rx.intOf, ry.intOf, k _ _ (Same.refl H) (.int _)⟩
  · split at q
    · rename_i hl
      cases q
      exact .inr (.inl ⟨_, _, rx.strOf, ry.strOf, lim2_le hl, k _ _ (Same.refl H) (.str _)⟩)
    · cases q
  · split at q
    · rename_i hl
      cases q
      obtain ⟨a, vs, rfl, h1, r1⟩ := rx.lstOf
      obtain ⟨b, ws, rfl, h2, r2⟩ := ry.lstOf
      exact .inr (.inr (.inl ⟨a, b, vs, ws, rfl, rfl, h1, h2, by rw [r1.length, r2.length]; exact lim2_le hl, fun p np => k _ _ (same_upd np) (Rep.newLst (r1.append r2) dm np)⟩))
    · cases q
  · split at q
    · rename_i hl
      cases q
      obtain ⟨a, vs, rfl, h1, r1⟩ := rx.tupOf
      obtain ⟨b, ws, rfl, h2, r2⟩ := ry.tupOf
      refine .inr (.inr (.inr ⟨a, b, vs, ws, rfl, rfl, h1.sq, h2.sq, by rw [r1.length, r2.length]; exact lim2_le hl, fun e => ?_, fun _ e => ?_, fun _ _ p np => k _ _ (same_upd np) (Rep.newTup (r1.append r2) dm np)⟩))
      · subst e
        cases r1
        exact k _ _ (Same.refl H) (.tup h2 r2)
      · subst e
        cases r2
        rw [List.append_nil] at k
        exact k _ _ (Same.refl H) (.tup h1 r1)
    · cases q
  · cases q
/-! ### subscripts -/
def dIx : D → D → Option D := fun d e => match d, e with
  | .lst ds, .int i => atI ds i
  | .tup ds, .int i => atI ds i
  | .scr ns, .int i => (atI ns i).map .int
  | .str z, .int i => if lim2 z.length = true then (atI z.cps.toList i).map fun c => .str ⟨#[c]⟩ else none
  | _, _ => none
theorem Reps.atI {F : Fp} {H : Hp} {vs : List V} {ds : List D} {i : Int} {d : D} (r : Reps K F H vs ds) (h : L2.atI ds i = some d) : ∃ v, L2.atI vs i = some v ∧ Rep K F H v d := by
  unfold L2.atI at h ⊢
  rw [r.length]
  cases e : ixN ds.length i with
  | none => rw [e] at h; cases h
  | some j =>
    rw [e] at h
    exact r.get h
theorem o_ix : DOp2 K (rIx K) dIx := fun F0 F H x y d e z Q dm rx ry q k => by
  unfold dIx at q
  split at q
  · obtain ⟨a, vs, rfl, h1, r1⟩ := rx.lstOf
    obtain ⟨v, h2, r2⟩ := r1.atI q
    exact .inl ⟨a, vs, _, v, rfl, ry.intOf, h1.sq, h2, k _ _ (Same.refl H) r2⟩
  · obtain ⟨a, vs, rfl, h1, r1⟩ := rx.tupOf
    obtain ⟨v, h2, r2⟩ := r1.atI q
    exact .inr (.inl ⟨a, vs, _, v, rfl, ry.intOf, h1.sq, h2, k _ _ (Same.refl H) r2⟩)
  · obtain ⟨a, rfl, h1⟩ := rx.scrOf
    rename_i ns i
    cases e : L2.atI ns i with
    | none => rw [e] at q; cases q
    | some n =>
      rw [e] at q
      cases q
      refine .inl ⟨a, _, _, .int n, rfl, ry.intOf, h1.sq, ?_, k _ _ (Same.refl H) (.int n)⟩
      unfold L2.atI at e ⊢
      rw [List.length_map]
      cases e2 : ixN ns.length i with
      | none => rw [e2] at e; cases e
      | some j =>
        rw [e2] at e
        have e' : ns[j]? = some n := e
        show (ns.map V.int)[j]? = some (V.int n)
        rw [List.getElem?_map, e']
        rfl
  · split at q
    · rename_i zs i hl
      cases e : atI zs.cps.toList i with
      | none => rw [e] at q; cases q
      | some c =>
        rw [e] at q
        cases q
        exact .inr (.inr ⟨_, _, c, rx.strOf, ry.intOf, lim2_le hl, e, k _ _ (Same.refl H) (.str _)⟩)
    · cases q
  · cases q
/-! ### == -/
mutual
def py : D → Option PyData
  | .non => some .none
  | .bl b => some (.bool b)
  | .int i => some (.int i)
  | .str x => some (.str x)
  | .tup ds => (pys ds).map .tuple
  | .lst ds => (pys ds).map .list
  | _ => none
def pys : List D → Option (List PyData)
  | [] => some []
  | d :: ds => (py d).bind fun p => (pys ds).map (p :: ·)
end
mutual
theorem dp_of {F0 F : Fp} {H : Hp} : ∀ {d : D} {v : V} {p : PyData}, Rep K F H v d → py d = some p → Dp K H v p
  | .non, _, _, .non, e => by unfold py at e; cases e; exact .non
  | .bl b, _, _, .bl _, e => by unfold py at e; cases e; exact .bl b
  | .int b, _, _, .int _, e => by unfold py at e; cases e; exact .int b
  | .str b, _, _, .str _, e => by unfold py at e; cases e; exact .str b
  | .tup ds, _, _, .tup h r, e => by
    unfold py at e
    cases q : pys ds with
    | none => rw [q] at e; cases e
    | some ps => rw [q] at e; cases e; exact .tup h.sq (dps_of (F0 := F0) r q)
  | .lst ds, _, _, .lst h r, e => by
    unfold py at e
    cases q : pys ds with
    | none => rw [q] at e; cases e
    | some ps => rw [q] at e; cases e; exact .lst h.sq (dps_of (F0 := F0) r q)
theorem dps_of {F0 F : Fp} {H : Hp} : ∀ {ds : List D} {vs : List V} {ps : List PyData}, Reps K F H vs ds → pys ds = some ps → DpAll K H vs ps
  | [], _, _, .nil, e => by unfold pys at e; cases e; exact .nil
  | d :: ds, _, _, .cons r t, e => by
    unfold pys at e
    cases q : py d with
    | none => rw [q] at e; cases e
    | some p =>
      rw [q] at e
      cases q2 : pys ds with
      | none =>
        have e' : (pys ds).map (p :: ·) = some _ := e
        rw [q2] at e'
        cases e'
      | some ps =>
        have e' : (pys ds).map (p :: ·) = some _ := e
        rw [q2] at e'
        cases e'
        exact .cons (dp_of (F0 := F0) r q) (dps_of (F0 := F0) t q2)
end
theorem RepW.dp {F0 F : Fp} {H : Hp} {d : D} {v : V} {p : PyData} (r : RepW K F0 F H v d) (e : py d = some p) : Dp K H v p := by
  cases r with
  | of r => exact dp_of (F0 := F0) r e
  | dct n h r => unfold py at e; cases e
  | lst h r =>
    unfold py at e
    rename_i a vs ds
    cases q : pys ds with
    | none => rw [q] at e; cases e
    | some ps => rw [q] at e; cases e; exact .lst h.sq (dps_of (F0 := F0) r q)
def eqD (d e : D) : Option Bool := match py d, py e with
  | some p, some q => if SeqAt.shaped p = true ∧ SeqAt.shaped q = true then some (PyData.eqv p q) else none
  | _, _ => none
def dEq : D → D → Option D := fun d e => (eqD d e).map .bl
def dNe : D → D → Option D := fun d e => (eqD d e).map fun b => .bl (!b)
theorem eqD_of {d e : D} {b : Bool} (h : eqD d e = some b) : ∃ p q, py d = some p ∧ py e = some q ∧ SeqAt.shaped p = true ∧ SeqAt.shaped q = true ∧ b = PyData.eqv p q := by
  unfold eqD at h
  split at h
  · rename_i p q h1 h2
    split at h
    · rename_i hs
      cases h
      exact ⟨p, q, h1, h2, hs.1, hs.2, rfl⟩
    · cases h
  · cases h
theorem o_eq : DOp2 K (rEqD K) dEq := fun F0 F H x y d e z Q dm rx ry q k => by
  unfold dEq at q
  cases h : eqD d e with
  | none => rw [h] at q; cases q
  | some b =>
    rw [h] at q
    cases q
    obtain ⟨p, p2, h1, h2, h3, h4, rfl⟩ := eqD_of h
    exact ⟨p, p2, rx.dp h1, ry.dp h2, h3, h4, k _ _ (Same.refl H) (.bl _)⟩
theorem o_ne : DOp2 K (rNeD K) dNe := fun F0 F H x y d e z Q dm rx ry q k => by
  unfold dNe at q
  cases h : eqD d e with
  | none => rw [h] at q; cases q
  | some b =>
    rw [h] at q
    cases q
    obtain ⟨p, p2, h1, h2, h3, h4, rfl⟩ := eqD_of h
    exact ⟨p, p2, rx.dp h1, ry.dp h2, h3, h4, k _ _ (Same.refl H) (.bl _)⟩
/-! ### is None -/
def isN : D → Bool
  | .non => true
  | _ => false
theorem RepW.isN {F0 F : Fp} {H : Hp} {d : D} {v : V} (r : RepW K F0 F H v d) : decide (v = .non) = MM.isN d := by
  cases r with
  | of r => cases r <;> rfl
  | lst h r => rfl
  | dct n h r => rfl
def dIs : D → D → Option D := fun d e => match e with
  | .non => some (.bl (isN d))
  | _ => none
def dIsnt : D → D → Option D := fun d e => match e with
  | .non => some (.bl (!isN d))
  | _ => none
theorem o_is : DOp2 K (fun x y H Q => y = .non ∧ Q (.bl (decide (x = .non))) H) dIs := fun F0 F H x y d e z Q dm rx ry q k => by
  unfold dIs at q
  split at q
  · cases q
    exact ⟨ry.nonOf, by rw [rx.isN]; exact k _ _ (Same.refl H) (.bl _)⟩
  · cases q
theorem o_isnt : DOp2 K (fun x y H Q => y = .non ∧ Q (.bl (!decide (x = .non))) H) dIsnt := fun F0 F H x y d e z Q dm rx ry q k => by
  unfold dIsnt at q
  split at q
  · cases q
    exact ⟨ry.nonOf, by rw [rx.isN]; exact k _ _ (Same.refl H) (.bl _)⟩
  · cases q
/-! ### minus, not -/
def dNeg : D → Option D
  | .int i => some (.int (-i))
  | _ => none
theorem o_neg : DOp1 K (rU fun i => .int (-i)) dNeg := fun F0 F H x d z Q dm rx q k => by
  unfold dNeg at q
  split at q
  · cases q
    exact ⟨_, rx.intOf, k _ _ (Same.refl H) (.int _)⟩
  · cases q
/-! ### calls -/
def fAbs : List D → Option D
  | [.int i] => some (.int (if i < 0 then -i else i))
  | _ => none
theorem c_abs : DCall K (fun xs H Q => ∃ i, xs = [.int i] ∧ Q (.int (if i < 0 then -i else i)) H) fAbs := fun F0 F H xs ds z Q dm r q k => by
  unfold fAbs at q
  split at q
  · cases q
    obtain ⟨v, rfl, r1⟩ := r.one
    exact ⟨_, by rw [r1.intOf], k _ _ (Same.refl H) (.int _)⟩
  · cases q
def fMax2 : List D → Option D
  | [.int i, .int j] => some (.int (if j > i then j else i))
  | _ => none
def fMin2 : List D → Option D
  | [.int i, .int j] => some (.int (if j < i then j else i))
  | _ => none
theorem c_max2 : DCall K (fun xs H Q => ∃ i j, xs = [.int i, .int j] ∧ Q (.int (if j > i then j else i)) H) fMax2 := fun F0 F H xs ds z Q dm r q k => by
  unfold fMax2 at q
  split at q
  · cases q
    obtain ⟨v, w, rfl, r1, r2⟩ := r.two
    exact ⟨_, _, by rw [r1.intOf, r2.intOf], k _ _ (Same.refl H) (.int _)⟩
  · cases q
theorem c_min2 : DCall K (fun xs H Q => ∃ i j, xs = [.int i, .int j] ∧ Q (.int (if j < i then j else i)) H) fMin2 := fun F0 F H xs ds z Q dm r q k => by
  unfold fMin2 at q
  split at q
  · cases q
    obtain ⟨v, w, rfl, r1, r2⟩ := r.two
    exact ⟨_, _, by rw [r1.intOf, r2.intOf], k _ _ (Same.refl H) (.int _)⟩
  · cases q
def fLen : List D → Option D
  | [.lst xs] => some (.int (xs.length : Nat))
  | [.tup xs] => some (.int (xs.length : Nat))
  | [.scr xs] => some (.int (xs.length : Nat))
  | [.str x] => if lim2 x.length = true then some (.int (x.length : Nat)) else none
  | _ => none
def rLen3 (K : Fg) : List V → Hp → VK → Prop := fun xs H Q => (∃ p ys, xs = [.ref p] ∧ (SqL K H p ys ∨ SqT K H p ys) ∧ Q (.int ys.length) H) ∨ ∃ z, xs = [.str z] ∧ z.length ≤ sizeLine ∧ Q (.int z.length) H
theorem call_len3 : CallR X (.builtin "len") (rLen3 X.K) := call_len_seq.or call_len_str
theorem c_len : DCall K (rLen3 K) fLen := fun F0 F H xs ds z Q dm r q k => by
  unfold fLen at q
  split at q
  · cases q
    obtain ⟨v, rfl, r0⟩ := r.one
    obtain ⟨a, vs, rfl, h1, r1⟩ := r0.lstOf
    exact .inl ⟨a, vs, rfl, .inl h1.sq, k _ _ (Same.refl H) (by rw [r1.length]; exact .int _)⟩
  · cases q
    obtain ⟨v, rfl, r0⟩ := r.one
    obtain ⟨a, vs, rfl, h1, r1⟩ := r0.tupOf
    exact .inl ⟨a, vs, rfl, .inr h1.sq, k _ _ (Same.refl H) (by rw [r1.length]; exact .int _)⟩
  · cases q
    obtain ⟨v, rfl, r0⟩ := r.one
    obtain ⟨a, rfl, h1⟩ := r0.scrOf
    exact .inl ⟨a, _, rfl, .inl h1.sq, k _ _ (Same.refl H) (by rw [List.length_map]; exact .int _)⟩
  · split at q
    · rename_i hl
      cases q
      obtain ⟨v, rfl, r1⟩ := r.one
      exact .inr ⟨_, by rw [r1.strOf], lim2_le hl, k _ _ (Same.refl H) (.int _)⟩
    · cases q
  · cases q
/-! ### isinstance -/
def keyOf : D → Option Key
  | .int i => some (.inl i)
  | .str x => some (.inr x)
  | _ => none
theorem keyOf_keyD (k : Key) : keyOf (keyD k) = some k := by cases k <;> rfl
theorem all_keyD (kvs : List (Key × V)) : ((kvs.map fun p => keyD p.1).all fun k => (keyOf k).isSome) = true := by
  rw [List.all_map, List.all_eq_true]
  intro p _
  show (keyOf (keyD p.1)).isSome = true
  rw [keyOf_keyD]; rfl
theorem not_all_tup {es : List EX} (h : es ≠ []) : ((es.map fun p => D.tup (p.1.map D.int)).all fun k => (keyOf k).isSome) ≠ true := by
  cases es with
  | nil => exact absurd rfl h
  | cons p es => simp [keyOf]
def tyN : D → Option String
  | .non => some "NoneType"
  | .bl _ => some "bool"
  | .int _ => some "int"
  | .str _ => some "str"
  | .tup _ => some "tuple"
  | .lst _ => some "list"
  | .dct ks _ => if (ks.all fun k => (keyOf k).isSome) = true then some "dict" else none
  | _ => none
theorem tyX_of {F0 F : Fp} {H : Hp} {v : V} {d : D} {n : String} (r : RepW K F0 F H v d) (h : tyN d = some n) : TyX K H v (.type n) := by
  have lst : ∀ {a : Addr} {vs : List V}, LsR K H a vs → TyX K H (.ref a) (.type "list") := fun {a vs} h => by
    rcases h with h | ⟨o, h⟩
    · exact .base (.lst h)
    · exact .base (.frz h)
  cases r with
  | lst q r => unfold tyN at h; cases h; exact lst q.ls
  | dct n q r =>
    unfold tyN at h
    cases r with
    | k r => dsimp only at h; rw [if_pos (all_keyD _)] at h; cases h; exact .base (.dK q)
    | x ne ox kt r => dsimp only at h; rw [if_neg (not_all_tup ne)] at h; cases h
  | of r =>
    cases r with
    | non => cases h; exact .base .non
    | bl => cases h; exact .base (.bl _)
    | int => cases h; exact .base (.int _)
    | str => cases h; exact .base (.str _)
    | tup q r =>
      cases h
      rcases q with ⟨_, q | ⟨o, q⟩⟩ | ⟨o, its, n, q, q2, _⟩
      · exact .base (.tup q)
      · exact .fTuple q
      · exact .kTuple q q2
    | lst q r => cases h; exact lst q.ls
    | dK n q r => unfold tyN at h; dsimp only at h; rw [if_pos (all_keyD _)] at h; cases h; exact .base (.dK q)
    | dX n ne q ox kt r => unfold tyN at h; dsimp only at h; rw [if_neg (not_all_tup ne)] at h; cases h
    | _ => cases h
def kitN (a b : String) : Option Bool :=
  if (["NoneType", "bool", "int", "str", "tuple", "list", "dict"].contains a && ["int", "bool", "tuple", "list", "str", "dict"].contains b) = true then some (a == b || (a == "bool" && b == "int")) else none
theorem kitN_ok {a b : String} {r : Bool} (h : kitN a b = some r) : kitB a b = some r := by
  unfold kitN at h
  split at h
  · rename_i hc
    have e : (a == b || (a == "bool" && b == "int")) = r := Option.some.inj h
    subst e
    rw [Bool.and_eq_true, List.contains_iff_mem, List.contains_iff_mem] at hc
    obtain ⟨h1, h2⟩ := hc
    simp only [List.mem_cons, List.not_mem_nil, or_false] at h1 h2
    rcases h1 with rfl | rfl | rfl | rfl | rfl | rfl | rfl <;> rcases h2 with rfl | rfl | rfl | rfl | rfl | rfl <;> decide +kernel
  · cases h
def isi (d : D) (n : String) : Option Bool := (tyN d).bind fun a => kitN a n
def isis (d : D) : List D → Option Bool
  | [] => some false
  | .ty n :: ts => (isi d n).bind fun b => if b = true then (isis d ts).map fun _ => true else isis d ts
  | _ => none
def fIsi : List D → Option D
  | [d, .ty n] => (isi d n).map .bl
  | _ => none
def fIsiT : List D → Option D
  | [d, .tup ts] => (isis d ts).map .bl
  | _ => none
theorem isi_of {F0 F : Fp} {H : Hp} {v : V} {d : D} {n : String} {b : Bool} (r : RepW K F0 F H v d) (h : isi d n = some b) : ∃ t, TyX K H v t ∧ PySem.W.kitOne K t (.type n) = some b := by
  unfold isi at h
  cases e : tyN d with
  | none => rw [e] at h; cases h
  | some a =>
    rw [e] at h
    exact ⟨_, tyX_of r e, kit_ty (kitN_ok h)⟩
theorem c_isi : DCall K (rIsi K) fIsi := fun F0 F H xs ds z Q dm r q k => by
  unfold fIsi at q
  split at q
  · rename_i d n
    obtain ⟨v, w, rfl, r1, r2⟩ := r.two
    cases e : isi d n with
    | none => rw [e] at q; cases q
    | some b =>
      rw [e] at q
      cases q
      obtain ⟨t, h1, h2⟩ := isi_of r1 e
      cases r2 with
      | of r2 =>
        cases r2
        exact ⟨v, _, t, _, b, rfl, .ty n, h1, h2, k _ _ (Same.refl H) (.bl _)⟩
  · cases q
/-! ### text, numbers -/
def strOf (i : Int) : Str := toString i
def fStrI : List D → Option D
  | [.int i] => if decide (i.natAbs.log2 < 1920) = true then some (.str (strOf i)) else none
  | _ => none
theorem c_strI : DCall K (fun xs H Q => ∃ i, xs = [.int i] ∧ i.natAbs.log2 < 1920 ∧ Q (.str (toString i)) H) fStrI := fun F0 F H xs ds z Q dm r q k => by
  unfold fStrI at q
  split at q
  · split at q
    · rename_i hl
      cases q
      obtain ⟨v, rfl, r1⟩ := r.one
      exact ⟨_, by rw [r1.intOf], of_decide_eq_true hl, k _ _ (Same.refl H) (.str _)⟩
    · cases q
  · cases q
/-! ### slices -/
def cutD (xs : List D) (lo hi : Option Int) : List D := (xs.drop (HT.sIx xs.length 0 lo)).take (HT.sIx xs.length xs.length hi - HT.sIx xs.length 0 lo)
theorem Reps.cut {F : Fp} {H : Hp} {vs : List V} {ds : List D} (r : Reps K F H vs ds) (lo hi : Option Int) : Reps K F H (cutV vs lo hi) (cutD ds lo hi) := by
  unfold cutV cutD
  rw [r.length]
  exact (r.drop _).take _
end
end MM

/-! M8: truth, slices, more calls, defs as they stand. -/
namespace MM
open PySem PySem.Spec PyProof.Rows L2
section
variable {X : Cx} {W : WX} {τ : Type} [Sto τ] {K : Fg}
/-! ### truth -/
def truth : D → Option Bool
  | .non => some false
  | .bl b => some b
  | .int i => some (i != 0)
  | .str x => if lim2 x.length = true then some ((x.length : Int) != 0) else none
  | .lst xs => some (!xs.isEmpty)
  | .tup xs => some (!xs.isEmpty)
  | _ => none
theorem Reps.isEmpty {F : Fp} {H : Hp} {vs : List V} {ds : List D} (r : Reps K F H vs ds) : vs.isEmpty = ds.isEmpty := by cases r <;> rfl
theorem RepW.truV {F0 F : Fp} {H : Hp} {v : V} {d : D} {b : Bool} (r : RepW K F0 F H v d) (h : truth d = some b) : TruV K v H b := by
  cases d <;> first
    | (cases h; done)
    | skip
  · cases h; rw [r.nonOf]; exact rfl
  · cases h; rw [r.blOf]; exact rfl
  · cases h; rw [r.intOf]; exact rfl
  · rw [r.strOf]
    rename_i z
    have h' : (if lim2 z.length = true then some ((z.length : Int) != 0) else none) = some b := h
    split at h'
    · rename_i hl
      cases h'
      exact ⟨lim2_le hl, rfl⟩
    · cases h'
  · cases h
    obtain ⟨a, vs, rfl, q, rs⟩ := r.tupOf
    exact .inr (.inl ⟨vs, q.sq, by rw [rs.isEmpty]⟩)
  · cases h
    obtain ⟨a, vs, rfl, q, rs⟩ := r.lstOf
    exact .inl ⟨vs, q.sq, by rw [rs.isEmpty]⟩
theorem mt_truth {e : Expr} {m : ME τ D} (h : PE X e (tW X.K W m)) (he : ∀ whole, isTrue e X.env whole = (do let v ← whole; standAt e.pos; holding [v] (truthy v)) := by intro _; rfl) : PT X e (tT X.K W (e1 truth m)) :=
  PT.imp (pt_truth h he) fun σ H Q ⟨C, ρ, t, A, p⟩ => by
    refine use okB A p fun d t1 v H1 e1 s1 A1 r1 p1 => ?_
    cases e : truth d with
    | none => rw [e] at p1; exact p1.elim
    | some b =>
      rw [e] at p1
      exact ⟨b, RepW.truV r1 e, p1 _ H1 (Sm.refl _ _) A1.st rfl⟩
/-! ### slices -/
def oNone : ME τ (Option Int) := fun _ t => .ok none t
def oSome (m : ME τ D) : ME τ (Option Int) := e1 (fun d => match d with
  | .int i => some (some i)
  | _ => none) m
def rO : Rel (Option Int) (Option Int) := fun _ _ _ _ _ _ v d => v = d
theorem okO : RelOk rO := ⟨fun _ _ _ _ _ _ _ _ _ _ h => h⟩
abbrev tO (K : Fg) (W : WX) (m : ME τ (Option Int)) : TO := tG rO K W m
theorem mo_none : PO X none (tO X.K W (oNone (τ := τ))) := ⟨fun pins s σ H Q I ⟨C, ρ, t, A, p⟩ => po_none.run pins s σ H Q I (p none H (Sm.refl _ _) A.st rfl)⟩
theorem mo_some {e : Expr} {m : ME τ D} (h : PE X e (tE X.K W m)) : PO X (some e) (tO X.K W (oSome m)) := ⟨fun pins s σ H Q I ⟨C, ρ, t, A, p⟩ => (po_some h).run pins s σ H Q I (by
  refine use okO A p fun d t1 v H1 e1 s1 A1 r1 p1 => ?_
  cases d <;> first
    | exact p1.elim
    | (cases r1; exact ⟨_, rfl, p1 _ H1 (Sm.refl _ _) A1.st rfl⟩))⟩
def e3 {α β γ δ : Type} (f : α → β → γ → Option δ) (a : ME τ α) (b : ME τ β) (c : ME τ γ) : ME τ δ := fun ρ t => (a ρ t).bind fun d t => (b ρ t).bind fun e t => (c ρ t).bind fun g t => opt (f d e g) t
def dCutL : D → Option Int → Option Int → Option (List D)
  | .lst ds, lo, hi => some (cutD ds lo hi)
  | _, _, _ => none
def dCutT : D → Option Int → Option Int → Option D
  | .tup ds, lo, hi => some (.tup (cutD ds lo hi))
  | .str z, lo, hi => if lim2 z.length = true then some (.str (cutS z lo hi)) else none
  | _, _, _ => none
theorem new_fin {C : SC τ} {ρ : Rho} {t : τ} {σ : St} {H : Hp} {vs : List V} {ds : List D} {Q : VK} (A : At K C ρ t σ H) (r : Reps K (Fo C.F ρ σ) H vs ds) (p : Post rF K W C (Fo C.F ρ σ) σ H (.ok ds t) Q) : ∀ a, H a = none → Q (.ref a) (upd H a (.lst vs)) := fun a na => by
  have sp : Stp (Fo C.F ρ σ) H (fun b => Fo C.F ρ σ b ∨ b = a) (upd H a (.lst vs)) := ⟨fun b o _ e => same_upd na b o e, fun b h => h.elim .inl fun e => .inr (by rw [e]; exact na)⟩
  exact p _ _ (Sm.of_same (same_upd na)) (C.less (C.stay A.st (same_upd na)) fun _ => id) ⟨a, vs, rfl, fun z => A.dom a z na, na, upd_same, Reps.step sp r, C.step _ _ _ _ _ A.st (fun b o _ e => same_upd na b o e) sp⟩
/-- xs[lo:hi] of a list: a new list -/
theorem mf_cut {e : Expr} {lo hi : Option Expr} {p2 pos : Pos} {m : ME τ D} {ml mh : ME τ (Option Int)} (h : PE X e (tW X.K W m)) (hl : PO X lo (tO X.K W ml)) (hh : PO X hi (tO X.K W mh)) : PE X (.Subscript e (.Slice lo hi none p2) pos) (tF X.K W (e3 dCutL m ml mh)) :=
  PE.imp (pe_slice sl_list h hl hh) fun σ H Q ⟨C, ρ, t, A, p⟩ => by
    refine use okF A p fun d t1 v H1 e1 s1 A1 r1 p1 => ?_
    refine use okF A1 p1 fun l t2 l' H2 e2 s2 A2 rl p2 => ?_
    refine use okF A2 p2 fun u t3 u' H3 e3 s3 A3 ru p3 => ?_
    cases rl
    cases ru
    cases d <;> first
      | exact p3.elim
      | skip
    obtain ⟨a, vs, rfl, q, rs⟩ := (RepW.same (RepW.same r1 s2 fun _ => Fo.base) s3 fun _ => Fo.base).lstOf
    exact ⟨a, vs, rfl, q.sq, new_fin A3 (rs.cut _ _) p3⟩
theorem me_cutT {e : Expr} {lo hi : Option Expr} {p2 pos : Pos} {m : ME τ D} {ml mh : ME τ (Option Int)} (h : PE X e (tW X.K W m)) (hl : PO X lo (tO X.K W ml)) (hh : PO X hi (tO X.K W mh)) : PE X (.Subscript e (.Slice lo hi none p2) pos) (tE X.K W (e3 dCutT m ml mh)) :=
  PE.imp (pe_slice (sl_tupA.or sl_str) h hl hh) fun σ H Q ⟨C, ρ, t, A, p⟩ => by
    refine use okE A p fun d t1 v H1 e1 s1 A1 r1 p1 => ?_
    refine use okE A1 p1 fun l t2 l' H2 e2 s2 A2 rl p2 => ?_
    refine use okE A2 p2 fun u t3 u' H3 e3 s3 A3 ru p3 => ?_
    cases rl
    cases ru
    have rd := RepW.same (RepW.same r1 s2 fun _ => Fo.base) s3 fun _ => Fo.base
    cases d <;> first
      | exact p3.elim
      | skip
    · rename_i z
      unfold dCutT at p3
      dsimp only at p3
      split at p3
      · rename_i hz
        exact .inr ⟨z, rd.strOf, lim2_le hz, p3 _ H3 (Sm.refl _ _) A3.st (.str _)⟩
      · exact p3.elim
    · obtain ⟨a, vs, rfl, q, rs⟩ := rd.tupOf
      refine .inl ⟨a, vs, rfl, q.sq, fun hw => ?_, fun _ b nb => p3 _ _ (Sm.of_same (same_upd nb)) (C.stay A3.st (same_upd nb)) (Rep.newTup (rs.cut _ _) A3.dom nb)⟩
      refine p3 _ H3 (Sm.refl _ _) A3.st ?_
      show Rep X.K _ H3 (V.ref a) (.tup (cutD _ _ _))
      unfold cutD
      rw [← rs.length, hw.1, hw.2, List.drop_zero, Nat.sub_zero, rs.length, List.take_length]
      exact .tup q rs
/-! ### tuple(x), list(x) -/
def fTup : List D → Option D
  | [.lst ds] => some (.tup ds)
  | [.tup ds] => some (.tup ds)
  | _ => none
theorem c_tup : DCall K (fun xs H Q => ∃ p ys, xs = [.ref p] ∧ ((SqL K H p ys ∧ ∀ l, H l = none → Q (.ref l) (upd H l (.tup ys))) ∨ (SqT K H p ys ∧ Q (.ref p) H))) fTup := fun F0 F H xs ds z Q dm r q k => by
  unfold fTup at q
  split at q
  · cases q
    obtain ⟨v, rfl, r0⟩ := r.one
    obtain ⟨a, vs, rfl, h1, r1⟩ := r0.lstOf
    exact ⟨a, vs, rfl, .inl ⟨h1.sq, fun l nl => k _ _ (same_upd nl) (Rep.newTup r1 dm nl)⟩⟩
  · cases q
    obtain ⟨v, rfl, r0⟩ := r.one
    obtain ⟨a, vs, rfl, h1, r1⟩ := r0.tupOf
    exact ⟨a, vs, rfl, .inr ⟨h1.sq, k _ _ (Same.refl H) (.tup h1 r1)⟩⟩
  · cases q
def fLst : List D → Option (List D)
  | [.lst ds] => some ds
  | [.tup ds] => some ds
  | _ => none
/-- list(x): a new list -/
theorem mf_list {x : Str} {e : Expr} {es : List Expr} {p pos : Pos} {ms : ME τ (List D)} (hg : Gl X x) (hm : X.mg x = none) (hv : bootBuiltins x = some (.type "list"))
    (ha : PA X (e :: es) (tAW X.K W ms)) (hn : x ≠ "__name__" := by decide) (hdb : (x == ("__debug__" : Str)) = false := by decide)
    (he : starEach (e :: es) X.env = (false, eval e X.env) :: starEach es X.env := by rfl) (hpl : (backTo pos (starEach es X.env)).any (·.1) = false := by rfl) :
    PE X (.Call (.Name x p) (e :: es) [] pos) (tF X.K W (MM.e1 fLst ms)) := PE.imp (pe_callTy call_list_of hg hm hv ha hn hdb he hpl) fun σ H Q ⟨C, ρ, t, A, p⟩ => by
  refine use okF A p fun ds t1 v H1 e1 s1 A1 r1 p1 => ?_
  unfold fLst at p1
  split at p1
  · obtain ⟨v, rfl, r0⟩ := RepsW.one r1
    obtain ⟨a, vs, rfl, h1, rs⟩ := r0.lstOf
    exact ⟨a, vs, rfl, .inl h1.sq, new_fin A1 rs p1⟩
  · obtain ⟨v, rfl, r0⟩ := RepsW.one r1
    obtain ⟨a, vs, rfl, h1, rs⟩ := r0.tupOf
    exact ⟨a, vs, rfl, .inr h1.sq, new_fin A1 rs p1⟩
  · exact p1.elim
/-! ### globals -/
theorem me_glob {x : Str} {v : V} {u : Value} {d : D} {pos : Pos} (hg : Gl X x) (hm : X.mg x = some u) (r : RelV v u) (rd : ∀ F H, Rep X.K F H v d) (hd : (x == ("__debug__" : Str)) = false := by decide) : PE X (.Name x pos) (tE X.K W (eC (τ := τ) d)) := me_c (pe_glob hg hm r hd) rd
theorem me_type {x : Str} {n : String} {pos : Pos} (hg : Gl X x) (hm : X.mg x = none) (hv : bootBuiltins x = some (.type n)) (hn : x ≠ "__name__" := by decide) (hd : (x == ("__debug__" : Str)) = false := by decide) : PE X (.Name x pos) (tE X.K W (eC (τ := τ) (.ty n))) :=
  me_c (pe_bltn (v := .ty n) hg hm hv rfl hn hd) fun _ _ => .ty n
/-! ### name += e -/
def sAug (i : Nat) (f : D → D → Option D) (m : ME τ D) : MS τ := fun ρ t => match ρ[i]? with
  | some (.val x) => sDo m (fun y ρ t => match f x y with
    | some z => .nx (ρ.set i (.val z)) t
    | none => .bad) ρ t
  | _ => .bad
theorem ms_aug {s : Stmt} {i : Nat} {ti : TIp} {f : D → D → Option D} {m : ME τ D} (hf : DOp2 X.K ti f) (h : PS X s (tAug i (tE X.K W m) ti)) : PS X s (tS X.K W (sAug i f m)) := PS.imp h fun E σ H ⟨C, ρ, t, A, p⟩ => by
  unfold sAug at p
  split at p
  · rename_i x hx
    obtain ⟨v, hv, rv⟩ := A.val i x hx
    refine ⟨v, hv, ?_⟩
    refine useS A p fun y t1 w H1 e1 s1 A1 r1 p1 => ?_
    cases e : f x y with
    | none => rw [e] at p1; exact p1.elim
    | some z =>
      rw [e] at p1
      exact hf C.F _ H1 v w x y z _ A1.dom (.of (rv.same (s1.mono fun _ => Fo.base))) (.of r1) e fun v' H' sm rr => p1 _ H' (Stp.trans (Stp.of_sm (Sm.of_same (F := C.F) sm) fun _ => Fo.base) Stp.setVal) ((A1.next (Sm.of_same sm) (C.stay A1.st sm)).setVal rr)
  · exact p.elim
def dAddI : D → D → Option D := fun d e => match d, e with
  | .int i, .int j => some (.int (i + j))
  | _, _ => none
theorem o_addI : DOp2 K (ipI fun i j => i + j) dAddI := DOp2.int0 fun _ _ _ _ => .int _
theorem o_subI : DOp2 K (ipI fun i j => i - j) dSub := DOp2.int0 fun _ _ _ _ => .int _
end
/-! ### a def as it stands -/
theorem Def.mk' {τ : Type} [Sto τ] {P : Program} {w : World} {K : Fg} {mg : Str → Option Value} {base : Heap} {x qual : Str} {params : Arguments} {body : List Stmt} {scope : Scope} {dvs : List V} {kws : List (Str × V)} {fd : FuncData} {N ps : List Str} {k : Nat} {df : List D}
    (F : FunD K x qual params body scope dvs kws (He.ga K x) fd) (hm : mg x = some (.ref (He.ga K x))) (S : FnScope N ps scope) (mb : MS τ) (hb : ∃ ds dv, Vals dv ds ∧ Binds K fd ps ds ∧ ∀ F H, Reps K F H dv df)
    (hbody : ∀ (cdv : Value) (A : Around) (outer : List Env) (s : Shared) (H : Hp) (E : XK), Room k (A.deeper (envOfC qual scope s.heap.objs.size (He.ga K x) cdv)) →
      PSs (cxOf (L2.CX P w) P w K mg base N qual scope (He.ga K x) cdv A outer s H E) body (tS K (fun cls d _ H => E cls d H) mb)) : Def P w K mg base (k + 1) x ps.length df (runB N.length mb) := by
  obtain ⟨ds, dv, h1, h2, h3⟩ := hb
  exact ⟨fd, ps, ds, dv, fn_mk F S mb hbody, hm, F.kp, h2, h1, h3⟩
theorem Def.mono {τ : Type} [Sto τ] {P : Program} {w : World} {K : Fg} {mg : Str → Option Value} {base : Heap} {j k : Nat} {x : Str} {np : Nat} {df : List D} {m : List D → τ → Res τ D} (F : Def P w K mg base j x np df m) (h : j ≤ k) : Def P w K mg base k x np df m := by
  obtain ⟨fd, ps, ds, dv, F, r⟩ := F.ex
  exact ⟨fd, ps, ds, dv, F.mono h, r⟩
end MM

/-! M9: constants of the top, isinstance with two classes, raise and try as they stand in our texts. -/
namespace MM
open PySem PySem.Spec PyProof.Rows L2
/-- the module's name x is a d -/
def Glc (K : Fg) (mg : Str → Option Value) (x : Str) (d : D) : Prop := ∃ v u, mg x = some u ∧ RelV v u ∧ ∀ F H, Rep K F H v d
section
variable {X : Cx} {W : WX} {τ : Type} [Sto τ] {K : Fg}
theorem me_g {x : Str} {d : D} {pos : Pos} (g : Glc X.K X.mg x d) (hg : Gl X x) (hd : (x == ("__debug__" : Str)) = false := by decide) : PE X (.Name x pos) (tE X.K W (eC (τ := τ) d)) := by
  obtain ⟨v, u, h1, h2, h3⟩ := g
  exact me_glob hg h1 h2 h3 hd
def isi2 (d : D) (n1 n2 : String) : Option Bool := (isi d n1).bind fun b => if b = true then some true else isi d n2
/-- isinstance(x, (A, B)) -/
theorem me_isi2 {x a b : Expr} {k : Nat} {p pos tp : Pos} {m : ME τ D} {n1 n2 : String} (hg : Gl X "isinstance") (hm : X.mg "isinstance" = none) (h : PE X x (tW X.K W m)) (ha : PE X a (tC (.ty n1))) (hb : PE X b (tC (.ty n2)))
    (he1 : starEach [x, .Tuple [a, b] k tp] X.env = (false, eval x X.env) :: starEach [.Tuple [a, b] k tp] X.env := by rfl) (he2 : starEach [.Tuple [a, b] k tp] X.env = (false, eval (.Tuple [a, b] k tp) X.env) :: starEach [] X.env := by rfl)
    (he3 : starEach [a, b] X.env = (false, eval a X.env) :: starEach [b] X.env := by rfl) (he4 : starEach [b] X.env = (false, eval b X.env) :: starEach [] X.env := by rfl) (hpl : (backTo pos (starEach [.Tuple [a, b] k tp] X.env)).any (·.1) = false := by rfl) :
    PE X (.Call (.Name "isinstance" p) [x, .Tuple [a, b] k tp] [] pos) (tE X.K W (e1 (fun d => (isi2 d n1 n2).map .bl) m)) :=
  PE.imp (pe_callB call_isiT hg hm (by decide +kernel) (pa_cons h (pa_cons (pe_tup (pa_cons ha (pa_cons hb pa_nil he4) he3)) pa_nil he2) he1) (by decide) (by decide) he1 hpl) fun σ H Q ⟨C, ρ, t, A, q⟩ => by
    refine use okE A q fun d t1 v H1 e1 s1 A1 r1 p1 => ?_
    refine ⟨by show 2 ≤ sizeLine; decide, fun tq ntq => ?_⟩
    have p2 : Post rE X.K W C (Fo C.F ρ σ) σ H1 (opt ((isi2 d n1 n2).map D.bl) t1) Q := p1
    cases e : isi2 d n1 n2 with
    | none => rw [e] at p2; exact p2.elim
    | some c =>
      rw [e] at p2
      have fin : Q (.bl c) (upd H1 tq (.tup [.ty n1, .ty n2])) := p2 _ _ (Sm.of_same (same_upd ntq)) (C.stay A1.st (same_upd ntq)) (.bl c)
      unfold isi2 isi at e
      cases et : tyN d with
      | none => rw [et] at e; cases e
      | some a =>
        rw [et] at e
        have ty := tyX_of (RepW.same r1 (Sm.of_same (same_upd (o := .tup [.ty n1, .ty n2]) ntq)) fun _ => Fo.base) et
        refine ⟨v, tq, _, _, [.type n1, .type n2], c, rfl, upd_same, .cons (.ty n1) (.cons (.ty n2) .nil), ty, ?_, fin⟩
        cases e1 : kitN a n1 with
        | none =>
          have e' : ((kitN a n1).bind fun b => if b = true then some true else kitN a n2) = some c := e
          rw [e1] at e'
          cases e'
        | some b1 =>
          have e' : ((kitN a n1).bind fun b => if b = true then some true else kitN a n2) = some c := e
          rw [e1] at e'
          cases b1 with
          | true =>
            cases e'
            exact kitAny_cons (kit_ty (kitN_ok e1)) (fun z => by cases z) fun _ => rfl
          | false =>
            have e2 : kitN a n2 = some c := e'
            refine kitAny_cons (kit_ty (kitN_ok e1)) (fun _ => ?_) fun z => by cases z
            exact kitAny_cons (kit_ty (kitN_ok e2)) (fun z => by rw [z]; exact kitAny_nil) fun z => z
end
structure ExcF (K : Fg) (mg : Str → Option Value) (n : Str) : Prop where
  x : PySem.W.excIn K (He.ga K n) He.veBase "ValueError.__new__" = true
  g : mg n = some (.ref (He.ga K n))
  k : PySem.W.keepIn K (.ref (He.ga K n)) = true
  b : PySem.W.subIn K (.ref (He.ga K n)) (.type "BaseException") = some true
  t : PySem.W.typeIn K (.ref (He.ga K n)) = some (.type "type")
theorem tk_cx {P : Program} {w : World} {K : Fg} {mg : Str → Option Value} {base : Heap} {N : List Str} {qual : Str} {scope : Scope} {f : Addr} {cd : Value} {A : Around} {outer : List Env} {s : Shared} {H : Hp} {E : XK} :
    Takes (cxOf (L2.CX P w) P w K mg base N qual scope f cd A outer s H E) (fun cls d _ H => E cls d H) := takes_of rfl rfl rfl rfl
theorem po_cx {P : Program} {w : World} {K : Fg} {mg : Str → Option Value} {base : Heap} {N : List Str} {qual : Str} {scope : Scope} {f : Addr} {cd : Value} {A : Around} {outer : List Env} {s : Shared} {H : Hp} {E : XK} :
    PassesOwn (model (cxOf (L2.CX P w) P w K mg base N qual scope f cd A outer s H E).prog (cxOf (L2.CX P w) P w K mg base N qual scope f cd A outer s H E).w) (cxOf (L2.CX P w) P w K mg base N qual scope f cd A outer s H E).A (cxOf (L2.CX P w) P w K mg base N qual scope f cd A outer s H E).env (cxOf (L2.CX P w) P w K mg base N qual scope f cd A outer s H E).xe := PassesOwn.leaving
end MM

/-! M10: the deck of a law: a list [script, cells, place, count] that the law's own helpers change. -/
namespace MM
open PySem PySem.Spec PyProof.Rows L2
structure Dk where
  a : Addr
  b : Addr
  scr : D
  big : List Int
  pos : Nat
  cnt : Nat
structure DkAt (K : Fg) (F : Fp) (t : Dk) (G : Fp) (H : Hp) : Prop where
  fa : F t.a
  fb : F t.b
  ne : t.a ≠ t.b
  cells : ∃ sv, Rep K G H sv t.scr ∧ H t.a = some (.lst [sv, .ref t.b, .int (t.pos : Nat), .int (t.cnt : Nat)]) ∧ H t.b = some (.lst (t.big.map V.int))
structure DkOk (K : Fg) (C : SC Dk) : Prop where
  at_ : ∀ t G H, C.Iv t G H → DkAt K C.F t G H
  up : ∀ (t t' : Dk) (G : Fp) (H H' : Hp) (sv : V), C.Iv t G H → t'.a = t.a → t'.b = t.b → t'.scr = t.scr → H t.a = some (.lst [sv, .ref t.b, .int (t.pos : Nat), .int (t.cnt : Nat)]) → (∀ x, x ≠ t.a → x ≠ t.b → H' x = H x) →
    H' t.a = some (.lst [sv, .ref t.b, .int (t'.pos : Nat), .int (t'.cnt : Nat)]) → H' t.b = some (.lst (t'.big.map V.int)) → C.Iv t' G H'
instance : Sto Dk where
  ok := DkOk
  cmp := fun K C D0 acc nF h => {
    at_ := fun t G H i => by
      have q := h.at_ t G H i.1
      exact ⟨.inl q.fa, .inl q.fb, q.ne, q.cells⟩
    up := fun t t' G H H' sv i e1 e2 e3 ha ho h1 h2 => by
      have q := h.at_ t G H i.1
      refine ⟨h.up t t' G H H' sv i.1 e1 e2 e3 ha ho h1 h2, ?_⟩
      rw [ho D0 (fun z => nF (by rw [z]; exact q.fa)) (fun z => nF (by rw [z]; exact q.fb))]
      exact i.2 }
  ov := fun K C F H1 hF dm h => {
    at_ := fun t G H i => by
      have q := h.at_ t G H i.1
      exact ⟨hF _ q.fa, hF _ q.fb, q.ne, q.cells⟩
    up := fun t t' G H H' sv i e1 e2 e3 ha ho h1 h2 => by
      have q := h.at_ t G H i.1
      have ot : ∀ x, ¬ C.F x → H' x = H x := fun x n => ho x (fun z => n (by rw [z]; exact q.fa)) (fun z => n (by rw [z]; exact q.fb))
      refine ⟨h.up t t' G H H' sv i.1 e1 e2 e3 ha ho h1 h2, ⟨fun b o n e => ?_, i.2.1.new⟩, fun b o hb n e => ?_⟩
      · rw [ot b fun z => n (hF b z)]; exact i.2.1.keep b o n e
      · rw [ot b n]; exact i.2.2 b o hb n e }
  lend := fun K C O H1 hO dm h => {
    at_ := fun t G H i => by
      have q := h.at_ t _ H i.1
      obtain ⟨sv, r, e⟩ := q.cells
      exact ⟨q.fa, q.fb, q.ne, sv, r.anti fun _ => .inl, e⟩
    up := fun t t' G H H' sv i e1 e2 e3 ha ho h1 h2 => by
      have q := h.at_ t _ H i.1
      refine ⟨h.up t t' _ H H' sv i.1 e1 e2 e3 ha ho h1 h2, i.2.1, fun b o hb e => ?_⟩
      rw [ho b (fun z => hO b hb (by rw [z]; exact q.fa)) (fun z => hO b hb (by rw [z]; exact q.fb))]
      exact i.2.2 b o hb e }
section
variable {X : Cx} {W : WX} {K : Fg}
/-- the slot i holds the deck -/
def isDk (i : Nat) (ρ : Rho) (t : Dk) : Bool := match ρ[i]? with
  | some (.val (.at a)) => decide (a = t.a)
  | _ => false
theorem isDk_slot {i : Nat} {ρ : Rho} {t : Dk} {C : SC Dk} {σ : St} {H : Hp} (h : isDk i ρ t = true) (A : At K C ρ t σ H) : σ[i]? = some (some (.ref t.a)) := by
  unfold isDk at h
  split at h
  · rename_i a e
    obtain ⟨v, h1, h2⟩ := A.val i _ e
    cases h2
    rw [h1, of_decide_eq_true h]
  · cases h
def eDk (i j : Nat) : ME Dk D := fun ρ t => if isDk i ρ t = true then (match j with
  | 0 => .ok t.scr t
  | 2 => .ok (.int t.pos) t
  | 3 => .ok (.int t.cnt) t
  | _ => .bad) else .bad
theorem At.dk {C : SC Dk} {ρ : Rho} {t : Dk} {σ : St} {H : Hp} (A : At K C ρ t σ H) : DkAt K C.F t (Fo C.F ρ σ) H := (show DkOk K C from A.okC).at_ _ _ _ A.st
theorem me_dk {i j : Nat} {e : Expr} (h : PE X e (tOp (rIxL X.K) (tVar i) (tC (.int (j : Nat))))) : PE X e (tE X.K W (eDk i j)) := PE.imp h fun σ H Q ⟨C, ρ, t, A, p⟩ => by
  unfold eDk at p
  split at p
  · rename_i hi
    obtain ⟨sv, hs, ha, hb⟩ := A.dk.cells
    refine ⟨_, isDk_slot hi A, ?_⟩
    split at p
    · exact ⟨t.a, _, _, sv, rfl, rfl, .inl (.inl ha), atI_nat (j := 0) rfl, p _ H (Sm.refl _ _) A.st hs⟩
    · exact ⟨t.a, _, _, _, rfl, rfl, .inl (.inl ha), atI_nat (j := 2) rfl, p _ H (Sm.refl _ _) A.st (.int _)⟩
    · exact ⟨t.a, _, _, _, rfl, rfl, .inl (.inl ha), atI_nat (j := 3) rfl, p _ H (Sm.refl _ _) A.st (.int _)⟩
    · exact p.elim
  · exact p.elim
/-- len(deck[1]) -/
def eDkLen (i : Nat) : ME Dk D := fun ρ t => if isDk i ρ t = true then .ok (.int (t.big.length : Nat)) t else .bad
theorem me_dkLen {i : Nat} {e : Expr} (h : PE X e (tCB (rLen3 X.K) (tCons (tOp (rIxL X.K) (tVar i) (tC (.int 1))) tNil))) : PE X e (tE X.K W (eDkLen i)) := PE.imp h fun σ H Q ⟨C, ρ, t, A, p⟩ => by
  unfold eDkLen at p
  split at p
  · rename_i hi
    obtain ⟨sv, hs, ha, hb⟩ := A.dk.cells
    refine ⟨_, isDk_slot hi A, t.a, _, _, _, rfl, rfl, .inl (.inl ha), atI_nat (j := 1) rfl, .inl ⟨t.b, _, rfl, .inl (.inl (.inl hb)), ?_⟩⟩
    rw [List.length_map]
    exact p _ H (Sm.refl _ _) A.st (.int _)
  · exact p.elim
/-- deck[1][deck[2]] -/
def eDkAt (i : Nat) : ME Dk D := fun ρ t => if isDk i ρ t = true then (match t.big[t.pos]? with
  | some c => .ok (.int c) t
  | none => .bad) else .bad
theorem me_dkAt {i : Nat} {e : Expr} (h : PE X e (tOp (rIxL X.K) (tOp (rIxL X.K) (tVar i) (tC (.int 1))) (tOp (rIxL X.K) (tVar i) (tC (.int 2))))) : PE X e (tE X.K W (eDkAt i)) := PE.imp h fun σ H Q ⟨C, ρ, t, A, p⟩ => by
  unfold eDkAt at p
  split at p
  · rename_i hi
    split at p
    · rename_i c hc
      obtain ⟨sv, hs, ha, hb⟩ := A.dk.cells
      have si := isDk_slot hi A
      refine ⟨_, si, t.a, _, _, _, rfl, rfl, .inl (.inl ha), atI_nat (j := 1) rfl, _, si, t.a, _, _, _, rfl, rfl, .inl (.inl ha), atI_nat (j := 2) rfl, t.b, _, _, _, rfl, rfl, .inl (.inl hb), atI_nat (v := V.int c) ?_, p _ H (Sm.refl _ _) A.st (.int _)⟩
      rw [List.getElem?_map, hc]
      rfl
    · exact p.elim
  · exact p.elim
/-- deck[1][deck[2]] = e -/
def sDkBig (i : Nat) (m : ME Dk D) : MS Dk := sDo m fun d ρ t => match d with
  | .int c => if isDk i ρ t = true ∧ t.pos < t.big.length then .nx ρ { t with big := t.big.set t.pos c } else .bad
  | _ => .bad
theorem dk_write {C : SC Dk} {ρ : Rho} {t t' : Dk} {σ : St} {H H' : Hp} {sv : V} (A : At K C ρ t σ H) (e1 : t'.a = t.a) (e2 : t'.b = t.b) (e3 : t'.scr = t.scr) (ha : H t.a = some (.lst [sv, .ref t.b, .int (t.pos : Nat), .int (t.cnt : Nat)])) (ho : ∀ x, x ≠ t.a → x ≠ t.b → H' x = H x)
    (h1 : H' t.a = some (.lst [sv, .ref t.b, .int (t'.pos : Nat), .int (t'.cnt : Nat)])) (h2 : H' t.b = some (.lst (t'.big.map V.int))) : At K C ρ t' σ H' ∧ Sm C.F H H' := by
  have q := A.dk
  have sm : Sm C.F H H' := fun b o n e => by rw [ho b (fun z => n (by rw [z]; exact q.fa)) (fun z => n (by rw [z]; exact q.fb))]; exact e
  exact ⟨A.next sm ((show DkOk K C from A.okC).up t t' _ H H' sv A.st e1 e2 e3 ha ho h1 h2), sm⟩
theorem ms_dkBig {s : Stmt} {i : Nat} {m : ME Dk D} (h : PS X s (tAsg (tE X.K W m) (gSub (tOp (rIxL X.K) (tVar i) (tC (.int 1))) (tOp (rIxL X.K) (tVar i) (tC (.int 2))) rSetL))) : PS X s (tS X.K W (sDkBig i m)) := PS.imp h fun E σ H ⟨C, ρ, t, A, p⟩ => by
  refine useS A p fun d t1 v H1 e1 s1 A1 r1 p1 => ?_
  cases d <;> first
    | exact p1.elim
    | skip
  rename_i c
  cases r1
  dsimp only at p1
  split at p1
  · rename_i hi
    obtain ⟨sv, hs, ha, hb⟩ := A1.dk.cells
    have si := isDk_slot hi.1 A1
    have ne := A1.dk.ne
    refine ⟨_, si, t1.a, _, _, _, rfl, rfl, .inl (.inl ha), atI_nat (j := 1) rfl, _, si, t1.a, _, _, _, rfl, rfl, .inl (.inl ha), atI_nat (j := 2) rfl, t1.b, _, _, t1.pos, rfl, rfl, hb, ?_, ?_⟩
    · unfold ixN
      rw [if_pos (by omega), List.length_map, if_pos (by omega)]
      simp
    · have e : (t1.big.map V.int).set t1.pos (V.int c) = (t1.big.set t1.pos c).map V.int := by rw [List.map_set]
      rw [e]
      obtain ⟨A2, sm⟩ := dk_write (t' := { t1 with big := t1.big.set t1.pos c }) (H' := upd H1 t1.b (.lst ((t1.big.set t1.pos c).map V.int))) A1 rfl rfl rfl ha (fun x _ n => upd_ne n) (by rw [upd_ne ne]; exact ha) upd_same
      exact p1 σ _ (Stp.of_sm sm fun _ => Fo.base) A2
  · exact p1.elim
/-- deck[j] = e, j 2 or 3 -/
def sDkSet (i j : Nat) (m : ME Dk D) : MS Dk := sDo m fun d ρ t => match d with
  | .int c => if isDk i ρ t = true ∧ 0 ≤ c then (match j with
    | 2 => .nx ρ { t with pos := c.toNat }
    | 3 => .nx ρ { t with cnt := c.toNat }
    | _ => .bad) else .bad
  | _ => .bad
theorem ms_dkSet {s : Stmt} {i j : Nat} {m : ME Dk D} (h : PS X s (tAsg (tE X.K W m) (gSub (tVar i) (tC (.int (j : Nat))) rSetL))) : PS X s (tS X.K W (sDkSet i j m)) := PS.imp h fun E σ H ⟨C, ρ, t, A, p⟩ => by
  refine useS A p fun d t1 v H1 e1 s1 A1 r1 p1 => ?_
  cases d <;> first
    | exact p1.elim
    | skip
  rename_i c
  cases r1
  dsimp only at p1
  split at p1
  · rename_i hi
    obtain ⟨sv, hs, ha, hb⟩ := A1.dk.cells
    have si := isDk_slot hi.1 A1
    have ne := A1.dk.ne
    have ec : c = (c.toNat : Nat) := by omega
    refine ⟨_, si, ?_⟩
    split at p1
    · refine ⟨t1.a, _, _, 2, rfl, rfl, ha, rfl, ?_⟩
      obtain ⟨A2, sm⟩ := dk_write (t' := { t1 with pos := c.toNat }) (H' := upd H1 t1.a (.lst [sv, .ref t1.b, .int c, .int (t1.cnt : Nat)])) A1 rfl rfl rfl ha (fun x n _ => upd_ne n) (by rw [upd_same]; rw [← ec]) (by rw [upd_ne (Ne.symm ne)]; exact hb)
      exact p1 σ _ (Stp.of_sm sm fun _ => Fo.base) A2
    · refine ⟨t1.a, _, _, 3, rfl, rfl, ha, rfl, ?_⟩
      obtain ⟨A2, sm⟩ := dk_write (t' := { t1 with cnt := c.toNat }) (H' := upd H1 t1.a (.lst [sv, .ref t1.b, .int (t1.pos : Nat), .int c])) A1 rfl rfl rfl ha (fun x n _ => upd_ne n) (by rw [upd_same]; rw [← ec]) (by rw [upd_ne (Ne.symm ne)]; exact hb)
      exact p1 σ _ (Stp.of_sm sm fun _ => Fo.base) A2
    · exact p1.elim
  · exact p1.elim
end
end MM

/-! M11: try with one clause whose suite tells what the exception is; texts times numbers; the end of a law. -/
namespace MM
open PySem PySem.Spec PyProof.Rows L2
section
variable {X : Cx} {W : WX} {τ : Type} [Sto τ] {K : Fg}
theorem PSs.pure {sts : List Stmt} {t : TS} {P : Prop} (h : P → PSs X sts t) : PSs X sts (fun E σ H => P ∧ t E σ H) := ⟨fun pins s σ H D I ⟨p, q⟩ => (h p).run pins s σ H D I q⟩
theorem Fo.setNo {F : Fp} {ρ : Rho} {σ : St} {i : Nat} {v : Option V} {b : Addr} (h : Fo F (ρ.set i .no) (σ.set i v) b) : Fo F ρ σ b := by
  rcases h with h | ⟨j, xs, ⟨h1, hm⟩, h2⟩
  · exact .inl h
  · rcases set_at h1 with ⟨_, e, _⟩ | ⟨ne, h1⟩
    · cases e; cases hm
    · rw [List.getElem?_set_ne ne] at h2
      exact .inr ⟨j, xs, ⟨h1, hm⟩, h2⟩
/-- a slot is forgotten, whatever it holds -/
theorem At.clear {C : SC τ} {ρ : Rho} {t : τ} {σ : St} {H : Hp} (A : At K C ρ t σ H) (i : Nat) (v : Option V) : At K C (ρ.set i .no) t (σ.set i v) H where
  okC := A.okC
  st := C.less A.st fun _ => Fo.setNo
  len := by simp [A.len]
  val := fun j e h => by
    rcases set_at h with ⟨_, e1, _⟩ | ⟨ne, h⟩
    · cases e1
    · obtain ⟨w, h1, h2⟩ := A.val j e h
      exact ⟨w, by rw [List.getElem?_set_ne ne]; exact h1, h2.anti fun _ => Fo.setNo⟩
  mine := fun j xs hh => by
    obtain ⟨h, hm⟩ := hh
    rcases set_at h with ⟨_, e1, _⟩ | ⟨ne, h⟩
    · cases e1; cases hm
    · obtain ⟨a, vs, h1, h2, h3, h4⟩ := A.mine j xs ⟨h, hm⟩
      exact ⟨a, vs, by rw [List.getElem?_set_ne ne]; exact h1, h2, h3, h4.anti fun _ => Fo.setNo⟩
  dis := fun j k xs ys hh1 hh2 e => by
    obtain ⟨h1, m1⟩ := hh1
    obtain ⟨h2, m2⟩ := hh2
    rcases set_at h1 with ⟨_, e1, _⟩ | ⟨n1, h1⟩
    · cases e1; cases m1
    · rcases set_at h2 with ⟨_, e2, _⟩ | ⟨n2, h2⟩
      · cases e2; cases m2
      · rw [List.getElem?_set_ne n1, List.getElem?_set_ne n2] at e
        exact A.dis j k xs ys ⟨h1, m1⟩ ⟨h2, m2⟩ e
theorem Stp.setNo {F : Fp} {ρ : Rho} {σ : St} {i : Nat} {v : Option V} {H : Hp} : Stp (Fo F ρ σ) H (Fo F (ρ.set i .no) (σ.set i v)) H := Stp.less fun _ => Fo.setNo
/-- the items of a suite's list: each tells a truth about the exception at a, that stands in slot i -/
def tIts (i : Nat) (a : Addr) (bs : List Bool) : TA := fun σ H Q => σ[i]? = some (some (.ref a)) ∧ Q (bs.map V.bl) H
theorem its_nil {i : Nat} {a : Addr} : PA X [] (tIts i a []) := PA.imp pa_nil fun σ H Q ⟨_, p⟩ => p
theorem its_cons {i : Nat} {a : Addr} {b : Bool} {bs : List Bool} {e : Expr} {es : List Expr} (h : PE X e (fun σ H Q => σ[i]? = some (some (.ref a)) ∧ Q (.bl b) H)) (hs : PA X es (tIts i a bs)) (hst : starEach (e :: es) X.env = (false, eval e X.env) :: starEach es X.env := by rfl) :
    PA X (e :: es) (tIts i a (b :: bs)) := PA.imp (pa_cons h hs hst) fun σ H Q ⟨e, p⟩ => ⟨e, e, p⟩
/-- isinstance(e, C) of the exception in hand -/
theorem its_is {a D : Addr} {oe : Obj} {pn : List (Addr × Obj)} {i : Nat} {b : Bool} {c : V} {cv : Value} {p pos : Pos} {e1 e2 : Expr} (EC : ExcC X.K D) (hz : Zc (.ref D) none oe) (hf : ∃ vs, oe.data = .fields vs) (hg : Gl (X.suite a ((a, oe) :: pn)) "isinstance") (hm : X.mg "isinstance" = none)
    (h1 : PE (X.suite a ((a, oe) :: pn)) e1 (tVar i)) (h2 : PE (X.suite a ((a, oe) :: pn)) e2 (tC c)) (hc : ∀ u, RelV c u → u = cv) (hk : PySem.W.kitOne X.K (.ref D) cv = some b)
    (hst : starEach [e1, e2] (X.suite a ((a, oe) :: pn)).env = (false, eval e1 (X.suite a ((a, oe) :: pn)).env) :: starEach [e2] (X.suite a ((a, oe) :: pn)).env := by rfl) (hst2 : starEach [e2] (X.suite a ((a, oe) :: pn)).env = (false, eval e2 (X.suite a ((a, oe) :: pn)).env) :: starEach [] (X.suite a ((a, oe) :: pn)).env := by rfl)
    (hpl : (backTo pos (starEach [e2] (X.suite a ((a, oe) :: pn)).env)).any (·.1) = false := by rfl) :
    PE (X.suite a ((a, oe) :: pn)) (.Call (.Name "isinstance" p) [e1, e2] [] pos) (fun σ H Q => σ[i]? = some (some (.ref a)) ∧ Q (.bl b) H) :=
  PE.imp (pe_callB (call_isE EC hz hf) hg hm (by decide +kernel) (pa_cons h1 (pa_cons h2 pa_nil hst2) hst) (by decide) (by decide) hst hpl) fun σ H Q ⟨e, q⟩ => ⟨_, e, c, cv, b, rfl, hc, hk, q⟩
/-- try: body, except n0 as (slot i): slot j = a list of truths -/
def sTryL (mb : MS τ) (n0 : Str) (i j : Nat) (bs : List Bool) : MS τ := fun ρ t => match mb ρ t with
  | .ex n none ρ' t' => if n = n0 ∧ i < ρ'.length then .nx ((ρ'.set j (.val (.lst (bs.map D.bl)))).set i .no) t' else .bad
  | .ex _ _ _ _ => .bad
  | r => r
theorem reps_bl {F : Fp} {H : Hp} : ∀ bs : List Bool, Reps K F H (bs.map V.bl) (bs.map D.bl)
  | [] => .nil
  | b :: bs => .cons (.bl b) (reps_bl bs)
theorem ms_tryL {x n : Str} {c : Value} {i j : Nat} {body : List Stmt} {b0 : Stmt} {np pos pos' : Pos} {mb : MS τ} {n0 : Str} {bs : List Bool} (hs : X.stack = X.env :: X.outer) (hf : X.env.frame = some X.env.locals) (hN : X.N.Nodup) (hi : X.N[i]? = some n) (hln : X.env.kindOf n = some .local) (hc : Names X x c)
    (tk : Takes X W) (hij : i ≠ j) (hlen : bs.length ≤ 1000) (hex : PySem.W.exmOne X.K (.ref (He.ga X.K n0)) c = some true)
    (hb : ∀ (W : WX) (pn : List (Addr × Obj)) (xe : Value → Shared → Prop), Takes (X.tr pn xe) W → PassesOwn (model X.prog X.w) X.A X.env xe → PSs (X.tr pn xe) body (tS X.K W mb))
    (hsu : ∀ (a : Addr) (oe : Obj) (pn : List (Addr × Obj)), Zc (.ref (He.ga X.K n0)) none oe → (∃ vs, oe.data = .fields vs) → PS (X.suite a ((a, oe) :: pn)) b0 (tAsg (tLst (tIts i a bs)) (gName j))) :
    PS X (.Try body [.ExceptHandler (some (.Name x np)) (some n) [b0] pos'] [] [] pos) (tS X.K W (sTryL mb n0 i j bs)) := by
  refine PS.imp (ps_try_as (tb := fun W => tS X.K W mb) (ts := fun a cls d E σ H => (cls = .ref (He.ga X.K n0) ∧ d = none) ∧ tAsg (tLst (tIts i a bs)) (gName j) E σ H) hs hf hN hi hln hc tk hb fun a oe cls d pn hz hv => PSs.pure fun ⟨e1, e2⟩ => by
    subst e1 e2
    exact pss_one (hsu a oe pn hz hv)) fun E σ H ⟨C, ρ, t, A, p⟩ => ?_
  refine ⟨C, ρ, t, A, ?_⟩
  unfold sTryL at p
  cases e : mb ρ t with
  | ex m fs ρ' t' =>
    rw [e] at p
    cases fs with
    | some q => exact p.elim
    | none =>
      dsimp only at p
      split at p
      · rename_i em
        obtain ⟨em, il⟩ := em
        subst em
        intro cls dd σ' H' s' A' x
        obtain ⟨ec, ed⟩ := x
        have ed' : dd = none := ed
        subst ec ed'
        refine ⟨true, hex, fun _ a na => ⟨⟨rfl, rfl⟩, ?_, by rw [List.length_map]; exact Nat.le_of_lt (small1000 hlen), fun q nq => ?_⟩, fun z => by cases z⟩
        · exact List.getElem?_set_self (by rw [A'.len]; exact il)
        · have A1 := A'.clear i (some (V.ref a))
          have sm : Sm C.F H' (upd H' q (.lst (bs.map V.bl))) := fun b o _ e => by rw [upd_ne (fun z => by rw [z, nq] at e; cases e)]; exact e
          have sm2 : ∀ F : Fp, Sm F H' (upd H' q (.lst (bs.map V.bl))) := fun F b o _ e => by rw [upd_ne (fun z => by rw [z, nq] at e; cases e)]; exact e
          have A2 := A1.next sm (C.stay A1.st (fun b o e => sm2 (fun _ => False) b o (fun z => z) e))
          have nf : ¬ Fo C.F (ρ'.set i .no) (σ'.set i (some (V.ref a))) q := fun z => A1.dom q z nq
          have A3 := A2.setVal (i := j) (v := .ref q) (d := .lst (bs.map D.bl)) (.lst ⟨nf, .inl upd_same⟩ (reps_bl bs))
          have A4 := A3.clear i none
          have er : (((ρ'.set i Slot.no).set j (.val (.lst (bs.map D.bl)))).set i .no) = (ρ'.set j (.val (.lst (bs.map D.bl)))).set i .no := by rw [List.set_comm _ _ hij, List.set_set]
          rw [er] at A4
          refine p _ _ ?_ A4
          refine s'.trans ⟨fun b o n e => sm2 (fun _ => False) b o (fun z => z) e, fun b h => ?_⟩
          rw [← er] at h
          exact .inl (Fo.setNo (Fo.setVal (Fo.setNo h)))
      · exact p.elim
  | nx ρ' t' => rw [e] at p; exact p
  | rt d t' => rw [e] at p; exact p
  | bk ρ' t' => rw [e] at p; exact p
  | ct ρ' t' => rw [e] at p; exact p
  | bad => rw [e] at p; exact p
end
end MM

/-! M12: a text times a number, int of a long text, small dict displays. -/
namespace MM
open PySem PySem.Spec PyProof.Rows L2 PySem.NumText PySem.Calls
/-! ### text times number -/
def repS (x : Str) (n : Int) : Str := Txt.mul x n
def mulSOk (x : Str) (n : Int) : Bool := decide (2 ≤ n) && decide (n ≤ 1000000) && decide (1 ≤ x.length) && decide (x.length * n.toNat ≤ 1000000)
def dMulS : D → D → Option D := fun d e => match d, e with
  | .str x, .int n => if mulSOk x n = true then some (.str (repS x n)) else none
  | _, _ => none
def rMulS : R2 := fun v u H Q => ∃ x n, v = .str x ∧ u = .int n ∧ mulSOk x n = true ∧ Q (.str (repS x n)) H
section
variable {X : Cx} {W : WX} {τ : Type} [Sto τ] {K : Fg}
theorem sizeLine_big : 1000000 < sizeLine := by decide
theorem op_mulS : OpR X (binaryOp .Mult) rMulS := by
  intro pins s σ H x y v u Q I rx ry h
  obtain ⟨a, n, rfl, rfl, hc, q⟩ := h
  obtain ⟨t, rfl⟩ := rx
  obtain ⟨t', rfl⟩ := ry
  unfold mulSOk at hc
  simp only [Bool.and_eq_true, decide_eq_true_eq] at hc
  obtain ⟨⟨⟨h2, h3⟩, h4⟩, h5⟩ := hc
  have hd : a.length * n.toNat < sizeLine := Nat.lt_of_le_of_lt h5 sizeLine_big
  refine PySem.SB.mul ⟨?_, fun _ _ => ?_, fun _ _ => ?_⟩ fun t1 k => ⟨.str (repS a n), H, I.tok _, ⟨_, rfl⟩, q⟩
  · rw [decide_eq_false (by omega), decide_eq_false (by omega)] <;> rfl
  · have e1 : (a.length : Int) ≤ 1000000 := by
      have : a.length ≤ a.length * n.toNat := Nat.le_mul_of_pos_right _ (by omega)
      omega
    have : (1000000 : Int) ≤ (2 ^ 63 - 1) / n := by
      rw [Int.le_ediv_iff_mul_le (by omega)]
      have : (1000000 : Int) * n ≤ 1000000 * 1000000 := Int.mul_le_mul_of_nonneg_left h3 (by decide)
      omega
    omega
  · exact decide_eq_false (by show ¬ a.length * n.toNat > sizeLine; omega)
theorem o_mulS : DOp2 K rMulS dMulS := fun F0 F H x y d e z Q dm rx ry q k => by
  unfold dMulS at q
  split at q
  · split at q
    · rename_i hc
      cases q
      exact ⟨_, _, rx.strOf, ry.intOf, hc, k _ _ (Same.refl H) (.str _)⟩
    · cases q
  · cases q
/-! ### int of a text -/
def allDig (x : Str) : Bool := x.cps.toList.all fun c => decide (48 ≤ c) && decide (c ≤ 57)
theorem allDig_ok {x : Str} (h : allDig x = true) : AllDigits x.cps.toList := fun c hc => by
  have := List.all_eq_true.mp h c hc
  simp only [Bool.and_eq_true, decide_eq_true_eq] at this
  exact this
def fIntS : List D → Option D
  | [.str x] => if decide (x.length ≤ 640) = true then (PySem.intText? x).map .int else if (allDig x && decide (x.length ≤ 4300)) = true then some (.int ((digitsVal x.cps.toList : Nat) : Int)) else none
  | _ => none
abbrev NoLim (K : Fg) : Prop := PySem.W.nsIn K cStatics "sys.int_max_str_digits" = some none
def rIntS : List V → Hp → VK → Prop := fun xs H Q => ∃ a n, xs = [.str a] ∧ ((PySem.intText? a = some n ∧ a.length ≤ 640) ∨ (¬ a.length ≤ 640 ∧ a.length ≤ 4300 ∧ allDig a = true ∧ n = ((digitsVal a.cps.toList : Nat) : Int))) ∧ Q (.int n) H
theorem c_intS : DCall K rIntS fIntS := fun F0 F H xs ds z Q dm r q k => by
  unfold fIntS at q
  split at q
  · obtain ⟨v, rfl, r1⟩ := r.one
    split at q
    · rename_i x hl
      cases e : PySem.intText? x with
      | none => rw [e] at q; cases q
      | some n =>
        rw [e] at q
        cases q
        exact ⟨_, n, by rw [r1.strOf], .inl ⟨e, of_decide_eq_true hl⟩, k _ _ (Same.refl H) (.int _)⟩
    · rename_i x hl
      split at q
      · rename_i h2
        cases q
        obtain ⟨h3, h4⟩ := Bool.and_eq_true_iff.mp h2
        exact ⟨_, _, by rw [r1.strOf], .inr ⟨fun z => hl (decide_eq_true z), of_decide_eq_true h4, h3, rfl⟩, k _ _ (Same.refl H) (.int _)⟩
      · cases q
  · cases q
def px10 : List Nat → Option Nat
  | 48 :: d :: _ => if d == 120 || d == 88 then some 16 else if d == 111 || d == 79 then some 8 else (if d == 98 || d == 66 then some 2 else none)
  | _ => none
theorem read_long {cs : List Nat} (h : AllDigits cs) (hne : cs ≠ []) (hl : cs.length ≤ 4300) : (int_private% "readNumeral") 4300 10 cs = (int_private% "Numeral.value") ((digitsVal cs : Nat) : Int) := by
  refine (readNumeral_eq 4300 10 cs).trans ?_
  have hb : ∀ l : List Nat, AllDigits l → based 10 l = (10, false, l) := fun l hl => by
    unfold based
    split
    · rename_i p e
      have e' : px10 l = some p := e
      unfold px10 at e'
      have hp : p ≠ 10 := by
        split at e'
        · split at e'
          · cases e'; decide
          · split at e'
            · cases e'; decide
            · split at e'
              · cases e'; decide
              · cases e'
        · cases e'
      have hne : ((10 : Nat) == 0 || (10 : Nat) == p) = false := Bool.or_eq_false_iff.mpr ⟨rfl, beq_eq_false_iff_ne.mpr fun z => hp z.symm⟩
      rw [if_neg (by rw [hne]; intro z; cases z)]
    · rfl
  have hs : sign cs = (false, cs) := by
    cases cs with
    | nil => rfl
    | cons c cs => exact sign_of (by have := h.head; omega) (by have := h.head; omega)
  rw [dropWhile_digits h, hs]
  show judge 4300 false (based 10 cs).1 (based 10 cs).2.1 (digits? (based 10 cs).1 (((based 10 cs).2.2.reverse.dropWhile blank).reverse)) = _
  rw [hb cs h]
  show judge 4300 false 10 false (digits? 10 ((cs.reverse.dropWhile blank).reverse)) = _
  rw [dropWhile_digits h.reverse, List.reverse_reverse, digits_of h hne]
  have hsz := push_size cs #[]
  unfold judge
  dsimp only
  rw [if_neg (by
    rw [hsz]
    simp only [Array.size_empty]
    intro z
    have := of_decide_eq_true (Bool.and_eq_true_iff.mp z).2
    omega), if_neg (by
    rw [hsz]
    simp only [Array.size_empty]
    intro z
    have := of_decide_eq_true (Bool.and_eq_true_iff.mp z).2
    omega)]
  have hv := push_foldl cs #[]
  rw [hv]
  rfl
theorem wp_textL {M : Model} {A : Around} {E : Value → Shared → Prop} {s : Shared} {Q : Value → Shared → Prop} {v : Value} {text : List Nat} {n : Int} (hk : K.In s.heap) (e : NoLim K)
    (hs : ¬ (text.takeWhile (· != 0)).length ≤ 640) (hr : (int_private% "readNumeral") 4300 10 (text.takeWhile (· != 0)) = (int_private% "Numeral.value") n)
    (ha : ((text.takeWhile (· != 0)).length == text.length) = true) (h : Q (.int n s.toks) { s with toks := s.toks + 1 }) :
    wpAny M A ((int_private% "intFromText") v text 10) Q E s := by
  obtain ⟨hp, g, d, tk, os⟩ := s
  have lk := PySem.W.looks_nsIn (M := M) hk e
  show wpAny M A (ite _ _ _) Q E _
  rw [if_neg hs]
  unfold Builtin.intMaxStrDigits
  refine wpAny_bind (wpAny_bind (lk.here ?_))
  dsimp only
  refine wpAny_pure ?_
  rw [hr]
  dsimp only
  rw [if_pos ha]
  repeat (any_goals (first
    | assumption
    | wp_step))
structure HidL (p : Prop) : Prop where
  out : p
theorem meets_long {x : PySem.Str} {u : Tok} (e : NoLim K) (hd : allDig x = true) (h6 : ¬ x.length ≤ 640) (h4 : x.length ≤ 4300) :
    Meets (Builtin.«int.__new__» ⟨[.type "int", .str x u], []⟩) (fun _ R s => K.In s.heap ∧ R (.ok (.ret (.int ((digitsVal x.cps.toList : Nat) : Int) s.toks))) { s with toks := s.toks + 1 }) := by
  intro prog w A R s hR
  obtain ⟨hk, hR⟩ := hR
  have ad := allDig_ok hd
  obtain ⟨e1, e2⟩ := numText_signs (x := x) fun c hc => .inr (ad c hc)
  have len : x.cps.toList.length = x.length := Array.length_toList
  obtain ⟨hp, g, d, tk, os⟩ := s
  have f1 := F.conv_sub_int
  have f2 := F.madeHere_int
  have f3 := PySem.W.KIN.str_int
  have f4 := PySem.W.KIN.str_idx
  have f5 := PySem.W.KIN.str_trunc
  have f6 : typeOf (.str x u) = pure (.type "str") := rfl
  have hs : ¬ (numSeenOf x).length ≤ 640 := by rw [e2, len]; exact h6
  have hr : (int_private% "readNumeral") 4300 10 (numSeenOf x) = (int_private% "Numeral.value") ((digitsVal x.cps.toList : Nat) : Int) := by
    rw [e2]
    exact read_long ad (fun z => by rw [z] at len; simp at len; omega) (by rw [len]; exact h4)
  have ha : ((numSeenOf x).length == (numTextOf x).length) = true := by rw [e1, e2]; exact beq_self_eq_true _
  have hh := HidL.mk (And.intro hs (And.intro hr (And.intro ha (And.intro hk e))))
  clear hs hr ha e1 e2 len h6 h4 hd ad hk e
  repeat (any_goals (first
    | assumption
    | ((with_reducible show wpAny _ _ ((int_private% "intFromText") _ _ _) _ _ _); refine wp_textL hh.out.2.2.2.1 hh.out.2.2.2.2 hh.out.1 hh.out.2.1 hh.out.2.2.1 ?_)
    | wp_step))
theorem call_intS (e : NoLim X.K) : CallR X (.type "int") (rIntS) := by
  intro pins s σ H xs us Q I rs h
  obtain ⟨a, n, rfl, hn, h⟩ := h
  cases rs with
  | cons r1 rs =>
    cases rs
    obtain ⟨t, rfl⟩ := r1
    rcases hn with ⟨hn, hl⟩ | ⟨h6, h4, hd, rfl⟩
    · exact PySem.W.KIN.call_text hn hl ⟨.int n, H, I.tok _, ⟨_, rfl⟩, h⟩
    · exact call_int_1 (meets_long e hd h6 h4) ⟨I.kIn, rfl, ⟨.int _, H, I.tok _, ⟨_, rfl⟩, h⟩⟩
/-! ### small dict displays -/
def tAtm (g : St → Option V) : TE := fun σ H Q => ∃ v, g σ = some v ∧ Q v H
structure Atm (X : Cx) (e : Expr) (m : Rho → Option D) : Prop where
  run : ∃ g, PE X e (tAtm g) ∧ ∀ (τ : Type) (_ : Sto τ) (C : SC τ) (ρ : Rho) (t : τ) (σ : St) (H : Hp), At X.K C ρ t σ H → ∀ d, m ρ = some d → ∃ v, g σ = some v ∧ Rep X.K (Fo C.F ρ σ) H v d
def aVar (i : Nat) : Rho → Option D := fun ρ => match ρ[i]? with
  | some (.val d) => some d
  | _ => none
def aC (d : D) : Rho → Option D := fun _ => some d
theorem atm_var {e : Expr} {i : Nat} (h : PE X e (tVar i)) : Atm X e (aVar i) := ⟨fun σ => σ[i]?.join, PE.imp h fun σ H Q ⟨v, h1, h2⟩ => ⟨v, by
    have h1 : σ[i]?.join = some v := h1
    cases q : σ[i]? with
    | none => rw [q] at h1; cases h1
    | some w => rw [q] at h1; rw [show w = some v from h1], h2⟩, fun τ _ C ρ t σ H A d e => by
  unfold aVar at e
  split at e
  · rename_i d' hr
    cases e
    obtain ⟨v, h1, h2⟩ := A.val i _ hr
    exact ⟨v, by show σ[i]?.join = some v; rw [h1]; rfl, h2⟩
  · cases e⟩
theorem atm_c {e : Expr} {v : V} {d : D} (h : PE X e (tC v)) (r : ∀ F H, Rep X.K F H v d) : Atm X e (aC d) := ⟨fun _ => some v, PE.imp h fun σ H Q ⟨w, h1, h2⟩ => by cases h1; exact h2, fun τ _ C ρ t σ H A d e => by cases e; exact ⟨v, rfl, r _ _⟩⟩
theorem atm_str {x : Str} {k : Nat} {pos : Pos} : Atm X (.Constant (.str x) k pos) (aC (.str x)) := atm_c pe_str fun _ _ => .str _
theorem atm_int {i : Int} {k : Nat} {pos : Pos} : Atm X (.Constant (.int i) k pos) (aC (.int i)) := atm_c pe_int fun _ _ => .int _
def eDct0 : ME τ D := fun _ t => .ok (.dct [] []) t
def eDct1 (k v : Rho → Option D) : ME τ D := fun ρ t => match k ρ, v ρ with
  | some a, some b => if (keyOf a).isSome = true then .ok (.dct [a] [b]) t else .bad
  | _, _ => .bad
theorem me_dct0 {pos : Pos} : PE X (.Dict [] [] pos) (tE X.K W (eDct0 (τ := τ))) := PE.imp pe_dnewK fun σ H Q ⟨C, ρ, t, A, p⟩ q nq =>
  p _ _ (Sm.of_same (same_upd nq)) (C.stay A.st (same_upd nq)) (.dK (kvs := []) (fun z => A.dom q z nq) upd_same .nil)
theorem me_dct1 {k v : Expr} {mk mv : Rho → Option D} {pos : Pos} (hk : Atm X k mk) (hv : Atm X v mv) : PE X (.Dict [some k] [v] pos) (tE X.K W (eDct1 (τ := τ) mk mv)) := by
  obtain ⟨gk, pk, rk⟩ := hk.run
  obtain ⟨gv, pv, rv⟩ := hv.run
  refine PE.imp (pe_disp (pps_cons pk pv pps_nil) rfl rfl (by simp) (by simp)) fun σ H Q ⟨C, ρ, t, A, p⟩ q nq => ?_
  unfold eDct1 at p
  split at p
  · rename_i a b ea eb
    split at p
    · rename_i ok
      obtain ⟨w1, h1, r1⟩ := rk _ _ C ρ t σ H A a ea
      obtain ⟨w2, h2, r2⟩ := rv _ _ C ρ t σ H A b eb
      have fin : ∀ key : Key, kV key = w1 → keyD key = a → Q (.ref q) (upd (upd H q (.dK [])) q (.dK (mergeK [] [(key, w2)]))) := fun key ek ed => by
        have em : mergeK [] [(key, w2)] = [(key, w2)] := rfl
        have same : Same H (upd (upd H q (.dK [])) q (.dK [(key, w2)])) := fun b o e => by rw [upd_ne (ne_of_none e nq), upd_ne (ne_of_none e nq)]; exact e
        rw [em]
        refine p _ _ (Sm.of_same same) (C.stay A.st same) ?_
        rw [← ed]
        exact .dK (kvs := [(key, w2)]) (fun z => A.dom q z nq) upd_same (.cons (r2.same (Sm.of_same same)) .nil)
      refine ⟨w1, h1, w2, h2, upd_same, ?_⟩
      cases a <;> first
        | (cases ok; done)
        | skip
      · cases r1
        exact ⟨[(.inl _, w2)], rfl, by simp, fin _ rfl rfl⟩
      · cases r1
        exact ⟨[(.inr _, w2)], rfl, by simp, fin _ rfl rfl⟩
    · exact p.elim
  · exact p.elim
end
end MM

/-! M13: the making of the deck, the law's own def, the head's hook, the end. -/
namespace MM
open PySem PySem.Spec PyProof.Rows L2
abbrev MSd := Rho → Option (D × List Int)
section
variable {X : Cx} {W : WX} {K : Fg}
def SPostD (K : Fg) (C : SC Unit) (F1 : Fp) (H : Hp) (r : Option (D × List Int)) (Q : VK) : Prop := match r with
  | some (d, big) => ∀ sv a b H', Stp F1 H (fun x => C.F x ∨ x = a ∨ x = b) H' → Rep K (fun x => C.F x ∨ x = a ∨ x = b) H' sv d → a ≠ b → H' a = some (.lst [sv, .ref b, .int 0, .int 0]) → H' b = some (.lst (big.map V.int)) → Q (.ref a) H'
  | none => False
theorem SPostD.rebase {C : SC Unit} {F1 F2 : Fp} {H H1 : Hp} {r : Option (D × List Int)} {Q : VK} (h : SPostD K C F1 H r Q) (s : Stp F1 H F2 H1) : SPostD K C F2 H1 r Q := by
  cases r with
  | none => exact h
  | some p =>
    obtain ⟨d, big⟩ := p
    exact fun sv a b H' s' r ne ha hb => h sv a b H' (s.trans s') r ne ha hb
def tSd (K : Fg) (m : MSd) : TS := fun E σ H => ∃ (C : SC Unit) (ρ : Rho), At K C ρ () σ H ∧ SPostD K C (Fo C.F ρ σ) H (m ρ) E.rt
def seqD (a : MS Unit) (b : MSd) : MSd := fun ρ => match a ρ () with
  | .nx ρ' _ => b ρ'
  | _ => none
theorem mss_consD {s : Stmt} {r : List Stmt} {a : MS Unit} {b : MSd} (h1 : PS X s (tS X.K W a)) (h2 : PSs X r (tSd X.K b)) : PSs X (s :: r) (tSd X.K (seqD a b)) := PSs.imp (pss_cons h1 h2) fun E σ H ⟨C, ρ, A, p⟩ => by
  refine ⟨C, ρ, (), A, ?_⟩
  unfold seqD at p
  cases e : a ρ () with
  | nx ρ' t' =>
    rw [e] at p
    exact fun σ' H' s' A' => ⟨C, ρ', A', SPostD.rebase p s'⟩
  | rt d t' => rw [e] at p; exact p.elim
  | bk ρ' t' => rw [e] at p; exact p.elim
  | ct ρ' t' => rw [e] at p; exact p.elim
  | ex n fs ρ' t' => rw [e] at p; exact p.elim
  | bad => rw [e] at p; exact p.elim
theorem mss_oneD {s : Stmt} {b : MSd} (h : PS X s (tSd X.K b)) : PSs X [s] (tSd X.K b) := pss_one h
def intsD : List D → Option (List Int)
  | [] => some []
  | .int i :: r => (intsD r).map (i :: ·)
  | _ => none
theorem intsD_ok {F : Fp} {H : Hp} : ∀ {vs : List V} {ds : List D} {ns : List Int}, Reps K F H vs ds → intsD ds = some ns → vs = ns.map V.int
  | _, _, ns, .nil, e => by cases e; rfl
  | _, _, ns, .cons (v := v) (vs := vs) (d := d) (ds := ds) r t, e => by
    cases d <;> first
      | (cases e; done)
      | skip
    rename_i i
    cases q : intsD ds with
    | none =>
      have e' : (intsD ds).map (i :: ·) = some ns := e
      rw [q] at e'; cases e'
    | some l =>
      have e' : (intsD ds).map (i :: ·) = some ns := e
      rw [q] at e'
      cases e'
      cases r
      rw [intsD_ok t q]
      rfl
def retD (i : Nat) (m : ME Unit (List D)) : MSd := fun ρ => match aVar i ρ, m ρ () with
  | some d, .ok ds _ => (intsD ds).map fun l => (d, l)
  | _, _ => none
theorem ms_retDk {i : Nat} {n c : Expr} {j1 j2 : Nat} {p1 p2 pos pos' : Pos} {m : ME Unit (List D)} (hn : PE X n (tVar i)) (hc : PE X c (tF X.K W m)) (h1 : starEach [n, c, .Constant (.int 0) j1 p1, .Constant (.int 0) j2 p2] X.env = (false, eval n X.env) :: starEach [c, .Constant (.int 0) j1 p1, .Constant (.int 0) j2 p2] X.env := by rfl)
    (h2 : starEach [c, .Constant (.int 0) j1 p1, .Constant (.int 0) j2 p2] X.env = (false, eval c X.env) :: starEach [.Constant (.int 0) j1 p1, .Constant (.int 0) j2 p2] X.env := by rfl) :
    PS X (.Return (some (.List [n, c, .Constant (.int 0) j1 p1, .Constant (.int 0) j2 p2] pos)) pos') (tSd X.K (retD i m)) :=
  PS.imp (ps_ret (pe_lst (pa_cons hn (pa_cons hc (pa_cons pe_int (pa_cons pe_int pa_nil))  h2) h1))) fun E σ H ⟨C, ρ, A, p⟩ => by
    unfold retD aVar at p
    split at p
    · rename_i d ds u ed em
      split at ed
      · rename_i d' hr
        cases ed
        cases el : intsD ds with
        | none => rw [el] at p; exact p.elim
        | some l =>
          rw [el] at p
          obtain ⟨v, h1, h2⟩ := A.val i _ hr
          refine ⟨v, h1, C, ρ, (), A, ?_⟩
          rw [em]
          intro y H1 sm iv r
          obtain ⟨b, vs, rfl, nb, hb0, hb1, rr, _⟩ := r
          have ev := intsD_ok rr el
          subst ev
          refine ⟨by show 4 ≤ sizeLine; decide, fun a na => ?_⟩
          have ne : a ≠ b := fun z => by rw [z, hb1] at na; cases na
          have key : ∀ x, x = a → Fo C.F ρ σ x ∨ H x = none := fun x e => by
            by_cases q : Fo C.F ρ σ x
            · exact .inl q
            · right
              cases z : H x with
              | none => rfl
              | some o =>
                have := sm x o (fun w => q (.inl w)) z
                rw [e, na] at this; cases this
          have st : Stp (Fo C.F ρ σ) H (fun x => C.F x ∨ x = a ∨ x = b) (upd H1 a (.lst [v, .ref b, .int 0, .int 0])) := ⟨fun x o n e => by
            have e1 := sm x o (fun w => n (.inl w)) e
            rw [upd_ne (fun z => by rw [z, na] at e1; cases e1)]
            exact e1, fun x h => by
            rcases h with h | h | h
            · exact .inl (.inl h)
            · exact key x h
            · rw [h]; exact .inr hb0⟩
          exact p v a b _ st (h2.step st) ne upd_same (by rw [upd_ne (Ne.symm ne)]; exact hb1)
      · cases ed
    · exact p.elim
end
def spDk (np : Nat) (K : Fg) (m : List D → Option (D × List Int)) : Sp := fun vs H Q _ => ∃ (C : SC Unit) (ds : List D), C.Iv () C.F H ∧ Reps K C.F H vs ds ∧ ds.length = np ∧ SPostD K C C.F H (m ds) Q
def runD (n : Nat) (mb : MSd) : List D → Option (D × List Int) := fun ds => mb (ds.map Slot.val ++ List.replicate (n - ds.length) .no)
theorem fn_mkD {P : Program} {w : World} {K : Fg} {mg : Str → Option Value} {base : Heap} {x qual : Str} {params : Arguments} {body : List Stmt} {scope : Scope} {dvs : List V} {kws : List (Str × V)} {f : Addr} {fd : FuncData} {N ps : List Str} {k : Nat}
    (F : FunD K x qual params body scope dvs kws f fd) (S : FnScope N ps scope) (mb : MSd)
    (hb : ∀ (cdv : Value) (A : Around) (outer : List Env) (s : Shared) (H : Hp) (E : XK), Room k (A.deeper (envOfC qual scope s.heap.objs.size f cdv)) →
      PSs (cxOf (L2.CX P w) P w K mg base N qual scope f cdv A outer s H E) body (tSd K mb)) : FnOk P w K mg base (L2.CX P w) (k + 1) f fd ps (spDk ps.length K (runD N.length mb)) := by
  have hpl : ps.length ≤ N.length := by have := congrArg List.length S.pre; rw [List.length_take] at this; omega
  refine F.ok S (fun vs H Q E ⟨C, ds, _, r, hl, _⟩ => r.length.trans hl) fun cdv A outer s H vs Q E hr ⟨C, ds, iv, r, hl, p⟩ => ⟨_, hb cdv A outer s H E hr, C, _, At.start trivial iv r (by rw [hl]; exact hpl), ?_⟩
  unfold runD at p
  exact SPostD.rebase p ⟨fun b o n e => e, fun b h => .inl (FoStart h)⟩
structure DefD (P : Program) (w : World) (K : Fg) (mg : Str → Option Value) (base : Heap) (k : Nat) (x : Str) (np : Nat) (m : List D → Option (D × List Int)) : Prop where
  ex : ∃ (fd : FuncData) (ps : List Str) (ds : List Value), FnOk P w K mg base (L2.CX P w) k (He.ga K x) fd ps (spDk np K m) ∧ mg x = some (.ref (He.ga K x)) ∧ PySem.W.keepIn K (.ref (He.ga K x)) = true ∧ Binds K fd ps ds ∧ Vals [] ds
theorem DefD.mk' {P : Program} {w : World} {K : Fg} {mg : Str → Option Value} {base : Heap} {x qual : Str} {params : Arguments} {body : List Stmt} {scope : Scope} {dvs : List V} {kws : List (Str × V)} {fd : FuncData} {N ps : List Str} {k : Nat}
    (F : FunD K x qual params body scope dvs kws (He.ga K x) fd) (hm : mg x = some (.ref (He.ga K x))) (S : FnScope N ps scope) (mb : MSd) (hb : ∃ ds, Vals [] ds ∧ Binds K fd ps ds)
    (hbody : ∀ (cdv : Value) (A : Around) (outer : List Env) (s : Shared) (H : Hp) (E : XK), Room k (A.deeper (envOfC qual scope s.heap.objs.size (He.ga K x) cdv)) →
      PSs (cxOf (L2.CX P w) P w K mg base N qual scope (He.ga K x) cdv A outer s H E) body (tSd K mb)) : DefD P w K mg base (k + 1) x ps.length (runD N.length mb) := by
  obtain ⟨ds, h1, h2⟩ := hb
  exact ⟨fd, ps, ds, fn_mkD F S mb hbody, hm, F.kp, h2, h1⟩
theorem DefD.mono {P : Program} {w : World} {K : Fg} {mg : Str → Option Value} {base : Heap} {j k : Nat} {x : Str} {np : Nat} {m : List D → Option (D × List Int)} (F : DefD P w K mg base j x np m) (h : j ≤ k) : DefD P w K mg base k x np m := by
  obtain ⟨fd, ps, ds, F, r⟩ := F.ex
  exact ⟨fd, ps, ds, F.mono h, r⟩

/-! ### the deck as state -/
theorem stp_or {G G' S : Fp} {H H' : Hp} (s : Stp G H G' H') (h : ∀ b o, S b → H b = some o → H' b = some o) : Stp (fun x => G x ∨ S x) H (fun x => G' x ∨ S x) H' :=
  ⟨fun b o n e => s.keep b o (fun z => n (.inl z)) e, fun b h => h.elim (fun z => (s.new b z).elim (fun z => .inl (.inl z)) .inr) fun z => .inl (.inr z)⟩
structure DkIv (K : Fg) (a b : Addr) (t : Dk) (G : Fp) (H : Hp) : Prop where
  ea : t.a = a
  eb : t.b = b
  ne : a ≠ b
  cells : ∃ sv, Rep K (fun x => G x ∨ (x = a ∨ x = b)) H sv t.scr ∧ H a = some (.lst [sv, .ref b, .int (t.pos : Nat), .int (t.cnt : Nat)]) ∧ H b = some (.lst (t.big.map V.int))
def SC.dk (K : Fg) (a b : Addr) : SC Dk where
  F := fun x => x = a ∨ x = b
  Iv := DkIv K a b
  dom := fun t G H x h hx => by
    obtain ⟨sv, _, h2, h3⟩ := h.cells
    rcases hx with rfl | rfl
    · rw [h2]; intro z; cases z
    · rw [h3]; intro z; cases z
  step := fun t G H G' H' h1 h2 s => by
    obtain ⟨sv, r, e1, e2⟩ := h1.cells
    exact ⟨h1.ea, h1.eb, h1.ne, sv, r.step (stp_or s h2), h2 _ _ (.inl rfl) e1, h2 _ _ (.inr rfl) e2⟩
theorem dkOk (K : Fg) (a b : Addr) : DkOk K (SC.dk K a b) where
  at_ := fun t G H i => by
    obtain ⟨sv, r, e1, e2⟩ := i.cells
    refine ⟨.inl i.ea, .inr i.eb, by rw [i.ea, i.eb]; exact i.ne, sv, r.anti fun _ => .inl, by rw [i.ea, i.eb]; exact e1, by rw [i.eb]; exact e2⟩
  up := fun t t' G H H' sv i ea eb es ha ho h1 h2 => by
    obtain ⟨sv', r, e1, e2⟩ := i.cells
    have esv : sv' = sv := by
      rw [i.ea, e1] at ha
      injection ha with ha
      injection ha with ha
      injection ha with ha
    subst esv
    rw [i.ea] at h1 ho
    rw [i.eb] at h1 h2 ho
    refine ⟨by rw [ea]; exact i.ea, by rw [eb]; exact i.eb, i.ne, sv', ?_, h1, h2⟩
    rw [es]
    exact r.same fun x o n e => by rw [ho x (fun z => n (.inr (.inl z))) (fun z => n (.inr (.inr z)))]; exact e
/-- behind the making: the slot i holds the deck -/
theorem At.toDk {K : Fg} {C : SC Unit} {ρ : Rho} {σ : St} {H H' : Hp} {sv : V} {a b : Addr} {i : Nat} {d : D} {big : List Int} (A : At K C ρ () σ H) (hF : ∀ x, ¬ C.F x) (hno : ∀ (j : Nat) (x : Slot), ¬ (ρ[j]? = some x ∧ x.mine = true))
    (s : Stp (Fo C.F ρ σ) H (fun x => C.F x ∨ x = a ∨ x = b) H') (r : Rep K (fun x => C.F x ∨ x = a ∨ x = b) H' sv d) (ne : a ≠ b) (ha : H' a = some (.lst [sv, .ref b, .int 0, .int 0])) (hb : H' b = some (.lst (big.map V.int))) :
    At K (SC.dk K a b) (ρ.set i (.val (.at a))) ⟨a, b, d, big, 0, 0⟩ (σ.set i (some (.ref a))) H' := by
  have hno' : ∀ (j : Nat) (x : Slot), ¬ ((ρ.set i (.val (.at a)))[j]? = some x ∧ x.mine = true) := fun j xs ⟨h, hm⟩ => by
    rcases set_at h with ⟨_, e, _⟩ | ⟨_, h⟩
    · cases e; cases hm
    · exact hno j xs ⟨h, hm⟩
  have sub : ∀ x, Fo (SC.dk K a b).F (ρ.set i (.val (.at a))) (σ.set i (some (.ref a))) x → C.F x ∨ x = a ∨ x = b := fun x h => by
    rcases h with h | ⟨j, xs, h, _⟩
    · exact .inr h
    · exact absurd h (hno' j xs)
  exact {
    okC := dkOk K a b
    st := ⟨rfl, rfl, ne, sv, r.anti fun x h => h.elim (sub x) .inr, ha, hb⟩
    len := by simp [A.len]
    val := fun j e h => by
      rcases set_at h with ⟨rfl, e1, hl⟩ | ⟨nj, h⟩
      · cases e1
        exact ⟨_, List.getElem?_set_self (by rw [A.len]; exact hl), .at a⟩
      · obtain ⟨w, h1, h2⟩ := A.val j e h
        exact ⟨w, by rw [List.getElem?_set_ne nj]; exact h1, (h2.step s).anti sub⟩
    mine := fun j xs h => absurd h (hno' j xs)
    dis := fun j k xs ys h => absurd h (hno' j xs) }
/-- the law's first statement makes the deck from the script, the rest runs over it -/
def lawIs (n : Nat) (m : List D → Option (D × List Int)) (rest : MS Dk) (ns : List Int) : Prop := ∃ d big, m [.scr ns] = some (d, big) ∧ ∀ a b, ∃ t, rest ((Slot.val (.scr ns) :: List.replicate (n - 1) .no).set 1 (.val (.at a))) ⟨a, b, d, big, 0, 0⟩ = .rt (.bl true) t
def spLaw (K : Fg) (n : Nat) (m : List D → Option (D × List Int)) (rest : MS Dk) : Sp := fun vs H Q _ => ∃ (a : Addr) (ns : List Int), vs = [.ref a] ∧ SqL K H a (ns.map V.int) ∧ lawIs n m rest ns ∧ ∀ H', Q (.bl true) H'
section
variable {P : Program} {w : World} {K : Fg} {mg : Str → Option Value} {base : Heap}
theorem start_none {n : Nat} {d : D} {j : Nat} {x : Slot} : ¬ ((Slot.val d :: List.replicate n .no)[j]? = some x ∧ x.mine = true) := by
  rintro ⟨h, hm⟩
  cases j with
  | zero => cases h; cases hm
  | succ j =>
    rw [List.getElem?_cons_succ, List.getElem?_replicate] at h
    split at h
    · cases h; cases hm
    · cases h
theorem law_fn {fd : FuncData} {N : List Str} {params : Arguments} {s0 : Stmt} {r : List Stmt} {scope : Scope} {dvs : List V} {kws : List (Str × V)} {k : Nat} {m : List D → Option (D × List Int)} {rest : MS Dk} {nd : Str}
    (F : FunD K "law" "law" params (s0 :: r) scope dvs kws (He.ga K "law") fd) (S : FnScope N ["_law_script"] scope) (hn : 2 ≤ N.length)
    (D0 : DefD P w K mg base k nd 1 m)
    (h0 : ∀ (cdv : Value) (A : Around) (outer : List Env) (s : Shared) (H : Hp) (E : XK), Room k (A.deeper (envOfC "law" scope s.heap.objs.size (He.ga K "law") cdv)) →
      PS (cxOf (L2.CX P w) P w K mg base N "law" scope (He.ga K "law") cdv A outer s H E) s0 (tAsg (tCallSD (spDk 1 K m) [] (WE fun cls d _ H => E cls d H) (tCons (tVar 0) tNil)) (gName 1)))
    (hr : ∀ (cdv : Value) (A : Around) (outer : List Env) (s : Shared) (H : Hp) (E : XK), Room k (A.deeper (envOfC "law" scope s.heap.objs.size (He.ga K "law") cdv)) →
      PSs (cxOf (L2.CX P w) P w K mg base N "law" scope (He.ga K "law") cdv A outer s H E) r (tS K (fun cls d _ H => E cls d H) rest)) :
    FnOk P w K mg base (L2.CX P w) (k + 1) (He.ga K "law") fd ["_law_script"] (spLaw K N.length m rest) := by
  refine F.ok S (fun vs H Q E ⟨a, ns, e, _⟩ => by rw [e]; rfl) fun cdv A outer s H vs Q E hrm ⟨a, ns, e, hs, good, hq⟩ => ⟨_, pss_cons (h0 cdv A outer s H E hrm) (hr cdv A outer s H E hrm), ?_⟩
  subst e
  obtain ⟨d, big, em, good⟩ := good
  have dm : Dom (fun _ => False) H := fun b h => h.elim
  have iv0 : (SC.pure (fun _ => False) H dm).Iv () (fun _ => False) H := ⟨Stp.refl _ _, fun _ _ _ e => e⟩
  have rs : Rep K (fun _ => False) H (.ref a) (.scr ns) := .scr (by
    rcases hs with hs | hs
    · exact .inl ⟨fun z => z, hs⟩
    · exact .inr hs)
  have A0 : At K (SC.pure (fun _ => False) H dm) (Slot.val (.scr ns) :: List.replicate (N.length - 1) .no) () (start N [.ref a]) H := At.start (ds := [.scr ns]) trivial iv0 (.cons rs .nil) (by simp; omega)
  refine ⟨.ref a, rfl, SC.pure (fun _ => False) H dm, [.scr ns], iv0, .cons rs .nil, rfl, ?_⟩
  rw [em]
  intro sv x y H' st r ne hx hy
  have A1 := A0.toDk (i := 1) (fun _ z => z) (fun j xs => start_none) ⟨fun b o n e => st.keep b o (fun z => z) e, fun b h => (st.new b h).elim False.elim .inr⟩ r ne hx hy
  obtain ⟨t, et⟩ := good x y
  refine ⟨_, _, _, A1, ?_⟩
  rw [et]
  intro v H2 _ _ r2
  cases r2
  exact hq H2
end
/-! ### the head -/
abbrev Chk := List (Fg → Bool)
def obsM (chk : Chk) (fn : List He.DefD) (K : Fg) : He.AlD := ((chk.all fun f => f K) && fn.all fun d => d.ok K, fn.map fun d => He.fnW K d.at_)
def SaysM (chk : Chk) (fn : List He.DefD) (K : Fg) : Prop := obsM chk fn K = He.valD fn
def asM (g : Addr → Option Obj) (n : Nat) : List Addr := He.asD g n ++ [cStatics]
def obsMG (n : Nat) (chk : Chk) (fn : List He.DefD) (g : Addr → Option Obj) : He.AlD := obsM chk fn (He.frG g (asM g n))
def hookM (n : Nat) (chk : Chk) (fn : List He.DefD) : PySem.W.Hook where
  α := He.AlD
  obs := fun s => obsMG n chk fn s.heap.get?
  val := fun _ => He.valD fn
  says := fun _ h => ∃ K : Fg, K.In h ∧ SaysM chk fn K
  of := fun _ _ e => ⟨_, He.frG_in, e⟩
  keeps := fun _ _ _ ⟨K, hK, c⟩ k => ⟨K, PySem.W.Frag.In.keeps hK k, c⟩
theorem obsMG_eq {n : Nat} {chk : Chk} {fn : List He.DefD} {g : Addr → Option Obj} {s : Shared} (h : ∀ a, g a = s.heap.get? a) : obsMG n chk fn g = (hookM n chk fn).obs s := by
  have e : g = s.heap.get? := funext h
  rw [e] <;> rfl
section
variable {chk : Chk} {fn : List He.DefD} {K : Fg}
theorem SaysM.fact (c : SaysM chk fn K) (i : Nat) {f : Fg → Bool} (h : chk[i]? = some f := by rfl) : f K = true := by
  have c1 := (He.ba (show ((chk.all fun f => f K) && fn.all fun d => d.ok K) = true from congrArg (fun z : He.AlD => z.1) c)).1
  exact List.all_eq_true.mp c1 f (List.mem_of_getElem? h)
theorem SaysM.def_ (c : SaysM chk fn K) (i : Nat) {d : He.DefD} (h : fn[i]? = some d := by rfl) : ∃ fd, FunD K d.name d.qual d.params d.body d.scope (d.dvs K) (d.kws K) (He.fAd K d.at_) fd := by
  have c2 := (He.ba (show ((chk.all fun f => f K) && fn.all fun d => d.ok K) = true from congrArg (fun z : He.AlD => z.1) c)).2
  have e : fn.map (fun d => He.fnW K d.at_) = fn.map He.DefD.val := congrArg (fun z : He.AlD => z.2) c
  have e2 : (fn.map fun d => He.fnW K d.at_)[i]? = (fn.map He.DefD.val)[i]? := by rw [e]
  rw [List.getElem?_map, List.getElem?_map, h] at e2
  exact He.DefD.funD (Option.some.inj e2) (List.all_eq_true.mp c2 d (List.mem_of_getElem? h))
end
end MM

/-! M14: the facts of the head as checks; the end's walk. -/
namespace MM
open PySem PySem.Spec PyProof.Rows L2
def cGlo (x : Str) : Fg → Bool := fun K => He.Fa.ok K (.glo x)
def cFree (x : Str) : Fg → Bool := fun K => He.Fa.ok K (.free x)
def cExc (x : Str) : Fg → Bool := fun K => He.Fa.ok K (.exc x) && He.Fa.ok K (.glo x)
def cExcC (x : Str) : Fg → Bool := fun K => decide (PySem.W.findIn K (.ref (He.ga K x)) "__getattribute__" = some (some (.builtin "BaseException.__getattribute__"))) && (decide (PySem.W.findIn K (.ref (He.ga K x)) "__getattr__" = some none) &&
  (decide (PySem.W.subIn K (.ref (He.ga K x)) (.type "BaseException") = some true) && (PySem.W.hasDictIn K (He.ga K x) && (decide (PySem.W.findIn K (.ref (He.ga K x)) "__class__" = some (some (.builtin "object.__class__"))) &&
  (decide (PySem.W.specialIn K (.builtin "object.__class__") "__get__" = some (some (.builtin "getset_descriptor.__get__"))) && (decide (PySem.W.takesIn K (.builtin "object.__class__") = some true) && decide (PySem.W.mroIn K (He.ga K x) (.type "object") = some true)))))))
def cKit (x : Str) (c : Fg → Value) (b : Bool) : Fg → Bool := fun K => decide (PySem.W.kitOne K (.ref (He.ga K x)) (c K) = some b)
def cExm (x : Str) (c : Fg → Value) (b : Bool) : Fg → Bool := fun K => decide (PySem.W.exmOne K (.ref (He.ga K x)) (c K) = some b)
def cLim : Fg → Bool := fun K => decide (PySem.W.nsIn K cStatics "sys.int_max_str_digits" = some none)
section
variable {K : Fg} {h : Heap} {mg : Str → Option Value}
theorem cGlo_ok {x : Str} (X : K.In h) (G : h.Ns mainGlobals mg) (c : cGlo x K = true) : mg x = some (.ref (He.ga K x)) := He.glo_ok X G c
theorem cFree_ok {x : Str} (X : K.In h) (G : h.Ns mainGlobals mg) (c : cFree x K = true) : mg x = none := He.free_ok X G c
theorem cExc_ok {x : Str} (X : K.In h) (G : h.Ns mainGlobals mg) (c : cExc x K = true) : ExcF K mg x := by
  obtain ⟨c, g⟩ := He.ba c
  have c' : (PySem.W.excIn K (He.ga K x) He.veBase "ValueError.__new__" && (PySem.W.keepIn K (.ref (He.ga K x)) && (decide (PySem.W.subIn K (.ref (He.ga K x)) (.type "BaseException") = some true) && decide (PySem.W.typeIn K (.ref (He.ga K x)) = some (.type "type"))))) = true := c
  obtain ⟨c1, c'⟩ := He.ba c'
  obtain ⟨c2, c'⟩ := He.ba c'
  obtain ⟨c3, c4⟩ := He.ba c'
  exact ⟨c1, He.glo_ok X G g, c2, of_decide_eq_true c3, of_decide_eq_true c4⟩
theorem cExcC_ok {x : Str} (c : cExcC x K = true) : ExcC K (He.ga K x) := by
  unfold cExcC at c
  obtain ⟨c1, c⟩ := He.ba c
  obtain ⟨c2, c⟩ := He.ba c
  obtain ⟨c3, c⟩ := He.ba c
  obtain ⟨c4, c⟩ := He.ba c
  obtain ⟨c5, c⟩ := He.ba c
  obtain ⟨c6, c⟩ := He.ba c
  obtain ⟨c7, c8⟩ := He.ba c
  exact ⟨of_decide_eq_true c1, of_decide_eq_true c2, of_decide_eq_true c3, c4, of_decide_eq_true c5, of_decide_eq_true c6, of_decide_eq_true c7, of_decide_eq_true c8⟩
theorem cKit_ok {x : Str} {v : Fg → Value} {b : Bool} (c : cKit x v b K = true) : PySem.W.kitOne K (.ref (He.ga K x)) (v K) = some b := of_decide_eq_true c
theorem cExm_ok {x : Str} {v : Fg → Value} {b : Bool} (c : cExm x v b K = true) : PySem.W.exmOne K (.ref (He.ga K x)) (v K) = some b := of_decide_eq_true c
theorem cLim_ok (c : cLim K = true) : NoLim K := of_decide_eq_true c
end
/-! ### module constants -/
mutual
def isDV (K : Fg) : Nat → Value → D → Bool
  | _, .none, .non => true
  | _, .bool b, .bl c => b == c
  | _, .int i _, .int j => decide (i = j)
  | _, .str x _, .str y => decide (x = y)
  | n + 1, .ref a, .tup ds => (match K.lookup a with
    | some ⟨.type c, _, .seq its _, _⟩ => decide (c = "tuple") && (decide (its.size ≤ sizeLine) && isDVs K n its.toList ds)
    | _ => false)
  | _, _, _ => false
def isDVs (K : Fg) : Nat → List Value → List D → Bool
  | _, [], [] => true
  | n, v :: vs, d :: ds => isDV K n v d && isDVs K n vs ds
  | _, _, _ => false
end
mutual
theorem isDV_ok {K : Fg} : ∀ (n : Nat) (v : Value) (d : D), isDV K n v d = true → ∃ x : V, RelV x v ∧ ∀ F H, Rep K F H x d := by
  intro n v d h
  unfold isDV at h
  split at h
  · exact ⟨.non, rfl, fun _ _ => .non⟩
  · rename_i b c
    have e : b = c := eq_of_beq h
    subst e
    exact ⟨.bl b, rfl, fun _ _ => .bl _⟩
  · rename_i i t j
    have e : i = j := of_decide_eq_true h
    subst e
    exact ⟨.int i, ⟨t, rfl⟩, fun _ _ => .int _⟩
  · rename_i i t j
    have e : i = j := of_decide_eq_true h
    subst e
    exact ⟨.str i, ⟨t, rfl⟩, fun _ _ => .str _⟩
  · rename_i n a ds
    split at h
    · rename_i c od its m sl q
      obtain ⟨h1, h⟩ := He.ba h
      obtain ⟨h2, h3⟩ := He.ba h
      obtain ⟨xs, r1, r2⟩ := isDVs_ok n its.toList ds h3
      exact ⟨.ref a, rfl, fun F H => .tup (.inr ⟨_, its, m, q, congrArg Value.type (of_decide_eq_true h1), rfl, of_decide_eq_true h2, r1⟩) (r2 F H)⟩
    · cases h
  · cases h
theorem isDVs_ok {K : Fg} : ∀ (n : Nat) (vs : List Value) (ds : List D), isDVs K n vs ds = true → ∃ xs : List V, Vals xs vs ∧ ∀ F H, Reps K F H xs ds := by
  intro n vs ds h
  unfold isDVs at h
  split at h
  · exact ⟨[], .nil, fun _ _ => .nil⟩
  · rename_i v vs d ds
    obtain ⟨h1, h2⟩ := He.ba h
    obtain ⟨x, r1, r2⟩ := isDV_ok n v d h1
    obtain ⟨xs, q1, q2⟩ := isDVs_ok n vs ds h2
    exact ⟨x :: xs, .cons r1 q1, fun F H => .cons (r2 F H) (q2 F H)⟩
  · cases h
end
def cVal (x : Str) (d : D) : Fg → Bool := fun K => match PySem.W.nsIn K mainGlobals x with
  | some (some v) => isDV K 8 v d
  | _ => false
theorem cVal_ok {K : Fg} {h : Heap} {mg : Str → Option Value} {x : Str} {d : D} (X : K.In h) (G : h.Ns mainGlobals mg) (c : cVal x d K = true) : Glc K mg x d := by
  unfold cVal at c
  split at c
  · rename_i v e
    obtain ⟨y, r1, r2⟩ := isDV_ok 8 v d c
    exact ⟨y, v, PySem.W.mg_of X G e, r1, r2⟩
  · cases c
theorem glc_rep {K : Fg} {mg : Str → Option Value} {x : Str} {d : D} (g : Glc K mg x d) (e : mg x = some (.ref (He.ga K x))) : ∀ F H, Rep K F H (.ref (He.ga K x)) d := by
  obtain ⟨v, u, h1, h2, h3⟩ := g
  rw [e] at h1
  cases h1
  cases v with
  | ref a => cases h2; exact h3
  | _ => first
    | (cases h2; done)
    | (obtain ⟨_, h2⟩ := h2; cases h2)
/-! ### the end -/
theorem room_k {k : Nat} (h : k ≤ 60) : Room k callerA := Room.mono (k := 60) ⟨rfl, by decide, by decide⟩ h
theorem pe_deck {X : Cx} {W : WX} {k : Nat} {x : Str} {m : List D → Option (D × List Int)} {e : Expr} {p pos : Pos} {t : TA} (Df : DefD X.prog X.w X.K X.mg X.base k x 1 m) (hr : Room k X.A) (tk : Takes X W) (hg : Gl X x) (ha : PA X [e] t)
    (hdb : (x == ("__debug__" : Str)) = false := by decide) (he : starEach [e] X.env = (false, eval e X.env) :: starEach [] X.env := by rfl) (hpl : (backTo pos (starEach [] X.env)).any (·.1) = false := by rfl) :
    PE X (.Call (.Name x p) [e] [] pos) (tCallSD (spDk 1 X.K m) [] (WE W) t) := by
  obtain ⟨fd, ps, ds, F, hm, hk, hb, hd⟩ := Df.ex
  exact pe_callSD F hr hg hm hk hb hd (fun σ => passAt tk σ) ha hdb he hpl
theorem walk_mm {l : PySem.W.OpenLaw} {n k nn : Nat} {q : Program} {loose : List Str} {XP : (Str → Option Value) → Heap → Prop} {chk : Chk} {fn : List He.DefD} {d : DefRec} {N : Nat} {m : List D → Option (D × List Int)} {rest : MS Dk}
    (hn : l.most = some n) (hn2 : n ≤ sizeLine) (hdf : d.params.defaults = []) (hname : d.name = "law") (hr : Room k callerA)
    (F : ∀ (w : World) (mg : Str → Option Value) (K : Fg) (h : Heap), K.In h → h.Ns mainGlobals mg → SaysM chk fn K → mg "law" = some (.ref (He.ga K "law")) ∧
      ∃ fd : FuncData, (∀ (s : Shared) (u : Value), BindsTo s fd ⟨[u], []⟩ [("_law_script", u)]) ∧ ∀ base : Heap, FnOk l.prog w K mg base (L2.CX l.prog w) k (He.ga K "law") fd ["_law_script"] (spLaw K N m rest))
    (good : ∀ ns : List Int, ns.length ≤ n → (∀ z ∈ ns, Builtin.Int.intBits z ≤ 1048576) → lawIs N m rest ns) :
    PySem.W.WalkO q loose XP (hookM nn chk fn).says l.row.toRowW d [] (fun f vs => PySem.call f vs) := by
  refine Att.attach_callB hn hdf fun w s₀ s₁ mg mb fa o pm cd doc a vs ns G Y ho hd hcd hmg hobj hints hlen hbits hg => ?_
  obtain ⟨K, KX, sm⟩ := Y
  obtain ⟨e1, fd, hb, hF⟩ := F w mg K _ KX G.T.g sm
  rw [hname, e1] at hmg
  injection hmg with hmg
  injection hmg with hmg
  subst hmg
  refine law_call KX G.T.g G.T.b G.T.builtins G.T.nolimit hg hobj hints (Nat.le_trans hlen hn2) hr (fun base _ _ => hF base) hb (fun H _ hS => ⟨a, ns, rfl, hS, good ns hlen hbits, fun _ => rfl⟩) fun H e s' => ?_
  rintro ⟨a, B, H', cls, dd, _, _, _, _, _, _, _, z⟩
  exact z
end MM

/-! M15: how to reason about the mirrors: what holds behind an expression, a statement. -/
namespace MM
open PySem PySem.Spec PyProof.Rows L2
section
variable {τ : Type}
/-- r answers, and then Q -/
def oE {α : Type} (r : Res τ α) (Q : α → τ → Prop) (X : Str → Fds → τ → Prop) : Prop := match r with
  | .ok a t => Q a t
  | .ex n fs t => X n fs t
  | .bad => False
structure Pt (τ : Type) where
  nx : Rho → τ → Prop
  rt : D → τ → Prop
  ex : Str → Fds → Rho → τ → Prop := fun _ _ _ _ => False
  bk : Rho → τ → Prop := fun _ _ => False
  ct : Rho → τ → Prop := fun _ _ => False
def oS (r : Fl τ) (P : Pt τ) : Prop := match r with
  | .nx ρ t => P.nx ρ t
  | .rt d t => P.rt d t
  | .ex n fs ρ t => P.ex n fs ρ t
  | .bk ρ t => P.bk ρ t
  | .ct ρ t => P.ct ρ t
  | .bad => False
section
variable {α β γ δ : Type} {Q : α → τ → Prop} {X : Str → Fds → τ → Prop} {P : Pt τ}
@[simp] theorem oE_ok {a : α} {t : τ} : oE (.ok a t) Q X = Q a t := rfl
@[simp] theorem oE_ex {n : Str} {fs : Fds} {t : τ} : oE (α := α) (.ex n fs t) Q X = X n fs t := rfl
@[simp] theorem oE_bad : oE (α := α) .bad Q X = False := rfl
@[simp] theorem oE_bind {r : Res τ β} {k : β → τ → Res τ α} : oE (r.bind k) Q X = oE r (fun b t => oE (k b t) Q X) X := by cases r <;> rfl
@[simp] theorem oE_opt {o : Option α} {t : τ} : oE (opt o t) Q X = ∃ a, o = some a ∧ Q a t := by
  cases o with
  | none => simp [opt, oE]
  | some a => simp [opt, oE]
@[simp] theorem oE_ite {c : Prop} [Decidable c] {a b : Res τ α} : oE (if c then a else b) Q X = ((c → oE a Q X) ∧ (¬ c → oE b Q X)) := by
  by_cases h : c <;> simp [h]
theorem oE_imp {r : Res τ α} {Q' : α → τ → Prop} {X' : Str → Fds → τ → Prop} (h : oE r Q' X') (i : ∀ a t, Q' a t → Q a t) (ix : ∀ n fs t, X' n fs t → X n fs t) : oE r Q X := by
  cases r with
  | ok a t => exact i _ _ h
  | ex n fs t => exact ix _ _ _ h
  | bad => exact h
theorem oE_eq {r : Res τ α} {v : α} {u : τ} (h : oE r (fun a t => a = v ∧ t = u) (fun _ _ _ => False)) : r = .ok v u := by
  cases r with
  | ok a t => obtain ⟨rfl, rfl⟩ := h; rfl
  | ex n fs t => exact h.elim
  | bad => exact h.elim
theorem oE_eqx {r : Res τ α} {n : Str} {fs : Fds} {u : τ} (h : oE r (fun a t => False) (fun m gs t => m = n ∧ gs = fs ∧ t = u)) : r = .ex n fs u := by
  cases r with
  | ok a t => exact h.elim
  | ex m gs t => obtain ⟨rfl, rfl, rfl⟩ := h; rfl
  | bad => exact h.elim
theorem oE_ex' {r : Res τ α} (h : oE r Q (fun _ _ _ => False)) : ∃ a t, r = .ok a t ∧ Q a t := by
  cases r with
  | ok a t => exact ⟨a, t, rfl, h⟩
  | ex n fs t => exact h.elim
  | bad => exact h.elim
theorem oS_imp {r : Fl τ} {P' : Pt τ} (h : oS r P') (i1 : ∀ ρ t, P'.nx ρ t → P.nx ρ t) (i2 : ∀ d t, P'.rt d t → P.rt d t) (i3 : ∀ n fs ρ t, P'.ex n fs ρ t → P.ex n fs ρ t) (i4 : ∀ ρ t, P'.bk ρ t → P.bk ρ t) (i5 : ∀ ρ t, P'.ct ρ t → P.ct ρ t) : oS r P := by
  cases r with
  | nx => exact i1 _ _ h
  | rt => exact i2 _ _ h
  | ex => exact i3 _ _ _ _ h
  | bk => exact i4 _ _ h
  | ct => exact i5 _ _ h
  | bad => exact h
theorem oS_cut {r : Fl τ} (M : Rho → τ → Prop) (h : oS r { P with nx := M }) (k : ∀ ρ t, M ρ t → P.nx ρ t) : oS r P :=
  oS_imp h k (fun _ _ h => h) (fun _ _ _ _ h => h) (fun _ _ h => h) (fun _ _ h => h)
/-! expressions -/
variable {ρ : Rho} {t : τ}
@[simp] theorem oE_var {i : Nat} {Q : D → τ → Prop} : oE (eVar i ρ t) Q X = (match ρ[i]? with | some (.val d) => Q d t | _ => False) := by
  unfold eVar; split <;> simp_all [oE]
@[simp] theorem oE_varW {i : Nat} {Q : D → τ → Prop} : oE (eVarW i ρ t) Q X = (match ρ[i]? with | some (.val d) => Q d t | some (.own xs) => Q (.lst xs) t | some (.dct ks xs) => Q (.dct ks xs) t | _ => False) := by
  unfold eVarW; split <;> simp_all [oE]
@[simp] theorem oE_c {d : D} {Q : D → τ → Prop} : oE (eC d ρ t) Q X = Q d t := rfl
@[simp] theorem oE_e1 {f : β → Option α} {a : ME τ β} : oE (e1 f a ρ t) Q X = oE (a ρ t) (fun d t => ∃ z, f d = some z ∧ Q z t) X := by unfold e1; simp
@[simp] theorem oE_e2 {f : β → γ → Option α} {a : ME τ β} {b : ME τ γ} : oE (e2 f a b ρ t) Q X = oE (a ρ t) (fun d t => oE (b ρ t) (fun e t => ∃ z, f d e = some z ∧ Q z t) X) X := by unfold e2; simp
@[simp] theorem oE_e3 {f : β → γ → δ → Option α} {a : ME τ β} {b : ME τ γ} {c : ME τ δ} : oE (e3 f a b c ρ t) Q X = oE (a ρ t) (fun d t => oE (b ρ t) (fun e t => oE (c ρ t) (fun g t => ∃ z, f d e g = some z ∧ Q z t) X) X) X := by unfold e3; simp
@[simp] theorem oE_not {a : ME τ Bool} {Q : Bool → τ → Prop} : oE (tNot1 a ρ t) Q X = oE (a ρ t) (fun b t => Q (!b) t) X := by unfold tNot1; simp
@[simp] theorem oE_and {a b : ME τ Bool} {Q : Bool → τ → Prop} : oE (tAnd2 a b ρ t) Q X = oE (a ρ t) (fun c t => (c = true → oE (b ρ t) Q X) ∧ (¬ c = true → Q false t)) X := by unfold tAnd2; simp
@[simp] theorem oE_or {a b : ME τ Bool} {Q : Bool → τ → Prop} : oE (tOr2 a b ρ t) Q X = oE (a ρ t) (fun c t => (c = true → Q true t) ∧ (¬ c = true → oE (b ρ t) Q X)) X := by unfold tOr2; simp
@[simp] theorem oE_andE {a b : ME τ D} {Q : D → τ → Prop} : oE (eAnd2 a b ρ t) Q X = oE (a ρ t) (fun d t => ∃ c, asB d = some c ∧ ((c = true → oE (b ρ t) Q X) ∧ (¬ c = true → Q (.bl false) t))) X := by unfold eAnd2; simp
@[simp] theorem oE_orE {a b : ME τ D} {Q : D → τ → Prop} : oE (eOr2 a b ρ t) Q X = oE (a ρ t) (fun d t => ∃ c, asB d = some c ∧ ((c = true → Q (.bl true) t) ∧ (¬ c = true → oE (b ρ t) Q X))) X := by unfold eOr2; simp
@[simp] theorem oE_notE {a : ME τ D} {Q : D → τ → Prop} : oE (eNot1 a ρ t) Q X = oE (a ρ t) (fun d t => ∃ c, asB d = some c ∧ Q (.bl (!c)) t) X := by unfold eNot1; simp
@[simp] theorem oE_if {c : ME τ Bool} {a b : ME τ α} : oE (eIf c a b ρ t) Q X = oE (c ρ t) (fun k t => (k = true → oE (a ρ t) Q X) ∧ (¬ k = true → oE (b ρ t) Q X)) X := by unfold eIf; simp
@[simp] theorem oE_nil {Q : List α → τ → Prop} : oE (aNil ρ t) Q X = Q [] t := rfl
@[simp] theorem oE_cons {a : ME τ α} {b : ME τ (List α)} {Q : List α → τ → Prop} : oE (aCons a b ρ t) Q X = oE (a ρ t) (fun d t => oE (b ρ t) (fun ds t => Q (d :: ds) t) X) X := by unfold aCons; simp
@[simp] theorem oE_tup {a : ME τ (List D)} {Q : D → τ → Prop} : oE (eTup a ρ t) Q X = oE (a ρ t) (fun ds t => ds.length ≤ 16777216 ∧ Q (.tup ds) t) X := by
  unfold eTup; rw [oE_e1]; congr; funext ds t; unfold lim
  by_cases h : ds.length ≤ 16777216 <;> simp [h]
@[simp] theorem ex_lim {ds : List α} {Q : List α → Prop} : (∃ z, lim ds = some z ∧ Q z) ↔ ds.length ≤ 16777216 ∧ Q ds := by
  unfold lim
  by_cases h : ds.length ≤ 16777216 <;> simp [h]
@[simp] theorem oE_lst {a : ME τ (List D)} {Q : D → τ → Prop} : oE (eLst a ρ t) Q X = oE (a ρ t) (fun ds t => Q (.lst ds) t) X := by unfold eLst; simp
@[simp] theorem oE_call {m : List D → Unit → Res Unit D} {df : List D} {a : ME τ (List D)} {Q : D → τ → Prop} : oE (eCall m df a ρ t) Q X = oE (a ρ t) (fun ds t => oE (m (ds ++ df) ()) (fun d _ => Q d t) (fun n fs _ => X n fs t)) X := by
  unfold eCall; rw [oE_bind]; congr; funext ds t
  cases m (ds ++ df) () <;> rfl
@[simp] theorem oE_callS {m : List D → τ → Res τ D} {df : List D} {a : ME τ (List D)} {Q : D → τ → Prop} : oE (eCallS m df a ρ t) Q X = oE (a ρ t) (fun ds t => oE (m (ds ++ df) t) Q X) X := by unfold eCallS; simp
@[simp] theorem oE_oNone {Q : Option Int → τ → Prop} : oE (oNone ρ t) Q X = Q none t := rfl
@[simp] theorem oE_oSome {a : ME τ D} {Q : Option Int → τ → Prop} : oE (oSome a ρ t) Q X = oE (a ρ t) (fun d t => ∃ i, d = .int i ∧ Q (some i) t) X := by
  unfold oSome; rw [oE_e1]; congr; funext d t
  cases d <;> simp
@[simp] theorem oE_dct0 {Q : D → τ → Prop} : oE (eDct0 ρ t) Q X = Q (.dct [] []) t := rfl
@[simp] theorem oE_dct1 {k v : Rho → Option D} {Q : D → τ → Prop} : oE (eDct1 k v ρ t) Q X = (∃ a, k ρ = some a ∧ ∃ b, v ρ = some b ∧ (keyOf a).isSome = true ∧ Q (.dct [a] [b]) t) := by
  unfold eDct1
  cases k ρ with
  | none => simp
  | some a =>
    cases v ρ with
    | none => simp
    | some b =>
      by_cases h : (keyOf a).isSome = true <;> simp [h]
@[simp] theorem aC_eq {d : D} : aC d ρ = some d := rfl
@[simp] theorem aVar_eq {i : Nat} : aVar i ρ = (match ρ[i]? with | some (.val d) => some d | _ => none) := rfl
@[simp] theorem keyOf_int {i : Int} : keyOf (.int i) = some (.inl i) := rfl
@[simp] theorem keyOf_str {i : Str} : keyOf (.str i) = some (.inr i) := rfl
@[simp] theorem oE_run {n : Nat} {b : MS τ} {ds : List D} {Q : D → τ → Prop} : oE (runB n b ds t) Q X = oS (b (ds.map Slot.val ++ List.replicate (n - ds.length) .no) t) { nx := fun _ t => Q .non t, rt := Q, ex := fun n fs _ t => X n fs t } := by
  unfold runB; cases b (ds.map Slot.val ++ List.replicate (n - ds.length) .no) t <;> rfl
/-! statements -/
@[simp] theorem oS_nx : oS (.nx ρ t) P = P.nx ρ t := rfl
@[simp] theorem oS_rt {d : D} : oS (.rt d t) P = P.rt d t := rfl
@[simp] theorem oS_bk : oS (.bk ρ t) P = P.bk ρ t := rfl
@[simp] theorem oS_ct : oS (.ct ρ t) P = P.ct ρ t := rfl
@[simp] theorem oS_ex {n : Str} {fs : Fds} : oS (.ex n fs ρ t) P = P.ex n fs ρ t := rfl
@[simp] theorem oS_bad : oS .bad P = False := rfl
@[simp] theorem oS_ite {c : Prop} [Decidable c] {a b : Fl τ} : oS (if c then a else b) P = ((c → oS a P) ∧ (¬ c → oS b P)) := by
  by_cases h : c <;> simp [h]
/-- the statements behind (not looked into till Nxt is unfolded) -/
def Nxt (b : MS τ) (ρ : Rho) (t : τ) (P : Pt τ) : Prop := oS (b ρ t) P
@[simp] theorem oS_seq {a b : MS τ} : oS (sSeq a b ρ t) P = oS (a ρ t) { P with nx := fun ρ t => Nxt b ρ t P } := by
  unfold sSeq Nxt; cases a ρ t <;> rfl
@[simp] theorem oS_skip : oS (sSkip ρ t) P = P.nx ρ t := rfl
@[simp] theorem oS_brk : oS (sBrk ρ t) P = P.bk ρ t := rfl
@[simp] theorem oS_cnt : oS (sCnt ρ t) P = P.ct ρ t := rfl
theorem oS_do {m : ME τ α} {k : α → Rho → τ → Fl τ} : oS (sDo m k ρ t) P = oE (m ρ t) (fun a t => oS (k a ρ t) P) (fun n fs t => P.ex n fs ρ t) := by
  unfold sDo; cases m ρ t <;> rfl
@[simp] theorem oS_asg {i : Nat} {m : ME τ D} : oS (sAsg (gN i) m ρ t) P = oE (m ρ t) (fun d t => P.nx (ρ.set i (.val d)) t) (fun n fs t => P.ex n fs ρ t) := by
  unfold sAsg; rw [oS_do]; rfl
@[simp] theorem oS_asgT {gs : Tgts} {m : ME τ D} : oS (sAsg (gT gs) m ρ t) P = oE (m ρ t) (fun d t => ∃ ρ', gT gs ρ d = some ρ' ∧ P.nx ρ' t) (fun n fs t => P.ex n fs ρ t) := by
  unfold sAsg; rw [oS_do]; congr; funext d t
  cases gT gs ρ d <;> simp
@[simp] theorem gNil_eq : gNil ρ [] = some ρ := rfl
@[simp] theorem gCons_eq {g : Tgt} {gs : Tgts} {d : D} {ds : List D} : gCons g gs ρ (d :: ds) = (g ρ d).bind fun ρ' => gs ρ' ds := rfl
@[simp] theorem gN_eq {i : Nat} {d : D} : gN i ρ d = some (ρ.set i (.val d)) := rfl
@[simp] theorem gT_tup {gs : Tgts} {ds : List D} : gT gs ρ (.tup ds) = gs ρ ds := rfl
@[simp] theorem oS_app {i : Nat} {m : ME τ D} : oS (sApp i m ρ t) P = (match ρ[i]? with | some (.own xs) => oE (m ρ t) (fun d t => xs.length < 16777216 ∧ P.nx (ρ.set i (.own (xs ++ [d]))) t) (fun n fs t => P.ex n fs ρ t) | _ => False) := by
  have key : ∀ o : Option Slot, oS ((match o with
      | some (.own xs) => sDo m (fun d ρ t => if xs.length < 16777216 then .nx (ρ.set i (.own (xs ++ [d]))) t else .bad) ρ t
      | _ => .bad) : Fl τ) P = (match o with | some (.own xs) => oE (m ρ t) (fun d t => xs.length < 16777216 ∧ P.nx (ρ.set i (.own (xs ++ [d]))) t) (fun n fs t => P.ex n fs ρ t) | _ => False) := fun o => by
    cases o with
    | none => rfl
    | some s =>
      cases s with
      | no => rfl
      | val d => rfl
      | dct _ _ => rfl
      | own xs =>
        dsimp only
        rw [oS_do]
        congr; funext d t
        by_cases h : xs.length < 16777216 <;> simp [h]
  exact key (ρ[i]?)
theorem oS_asgG {g : Tgt} {m : ME τ D} : oS (sAsg g m ρ t) P = oE (m ρ t) (fun d t => ∃ ρ', g ρ d = some ρ' ∧ P.nx ρ' t) (fun n fs t => P.ex n fs ρ t) := by
  unfold sAsg; rw [oS_do]; congr; funext d t
  cases g ρ d <;> simp
@[simp] theorem oS_own {i : Nat} {m : ME τ (List D)} : oS (sOwn i m ρ t) P = oE (m ρ t) (fun ds t => P.nx (ρ.set i (.own ds)) t) (fun n fs t => P.ex n fs ρ t) := by
  unfold sOwn; rw [oS_do]; rfl
@[simp] theorem oS_frz {i : Nat} {m : MS τ} : oS (sFrz i m ρ t) P = (match ρ[i]? with | some (.own xs) => oS (m (ρ.set i (.val (.lst xs))) t) P | some (.dct ks xs) => oS (m (ρ.set i (.val (.dct ks xs))) t) P | _ => oS (m ρ t) P) := by
  unfold sFrz; split <;> simp_all
@[simp] theorem oS_ret {m : ME τ D} : oS (sRet m ρ t) P = oE (m ρ t) P.rt (fun n fs t => P.ex n fs ρ t) := by
  unfold sRet; rw [oS_do]; rfl
@[simp] theorem oS_retN : oS (sRetN ρ t) P = P.rt .non t := rfl
@[simp] theorem oS_expr {m : ME τ D} : oS (sExpr m ρ t) P = oE (m ρ t) (fun _ t => P.nx ρ t) (fun n fs t => P.ex n fs ρ t) := by
  unfold sExpr; rw [oS_do]; rfl
@[simp] theorem oS_if {c : ME τ Bool} {a b : MS τ} : oS (sIf c a b ρ t) P = oE (c ρ t) (fun k t => (k = true → oS (a ρ t) P) ∧ (¬ k = true → oS (b ρ t) P)) (fun n fs t => P.ex n fs ρ t) := by
  unfold sIf; rw [oS_do]; simp
@[simp] theorem oS_par {i j : Nat} {a b : ME τ D} : oS (sPar i j a b ρ t) P = oE (a ρ t) (fun d t => oE (b ρ t) (fun e t => P.nx ((ρ.set i (.val d)).set j (.val e)) t) (fun n fs t => P.ex n fs ρ t)) (fun n fs t => P.ex n fs ρ t) := by
  unfold sPar; rw [oS_do]; simp
@[simp] theorem oS_raise {n : Str} : oS (sRaise n ρ t) P = P.ex n none ρ t := rfl
@[simp] theorem oS_for {m : ME τ (List D)} {g : Tgt} {b : MS τ} : oS (sFor m g b ρ t) P = oE (m ρ t) (fun ds t => oS (loopF g b ds ρ t) P) (fun n fs t => P.ex n fs ρ t) := by
  unfold sFor; rw [oS_do]
theorem oS_loop_nil {g : Tgt} {b : MS τ} : oS (loopF g b [] ρ t) P = P.nx ρ t := rfl
theorem oS_loop_cons {g : Tgt} {b : MS τ} {d : D} {ds : List D} : oS (loopF g b (d :: ds) ρ t) P = ∃ ρ1, g ρ d = some ρ1 ∧ oS (b ρ1 t) { P with nx := fun ρ t => oS (loopF g b ds ρ t) P, ct := fun ρ t => oS (loopF g b ds ρ t) P, bk := P.nx } := by
  rw [show loopF g b (d :: ds) = fun ρ t => match g ρ d with
    | some ρ1 => (match b ρ1 t with
      | .nx ρ' t' => loopF g b ds ρ' t'
      | .ct ρ' t' => loopF g b ds ρ' t'
      | .bk ρ' t' => .nx ρ' t'
      | r => r)
    | none => .bad from rfl]
  cases e : g ρ d with
  | none => simp [e]
  | some ρ1 =>
    simp only [e, Option.some.injEq, exists_eq_left']
    cases e2 : b ρ1 t <;> simp
@[simp] theorem oS_tryL {mb : MS τ} {n : Str} {i j : Nat} {bs : List Bool} : oS (sTryL mb n i j bs ρ t) P = oS (mb ρ t) { P with ex := fun m fs ρ t => m = n ∧ fs = none ∧ i < ρ.length ∧ P.nx ((ρ.set j (.val (.lst (bs.map D.bl)))).set i .no) t } := by
  unfold sTryL
  cases mb ρ t with
  | ex m fs ρ' t' =>
    cases fs with
    | some q => simp
    | none =>
      dsimp only
      rw [oS_ite]
      simp only [oS_nx, oS_bad, oS_ex]
      exact propext ⟨fun h => by
        by_cases q : m = n ∧ i < ρ'.length
        · exact ⟨q.1, by first | trivial | rfl, q.2, h.1 q⟩
        · exact (h.2 q).elim, fun h => ⟨fun _ => h.2.2.2, fun q => q ⟨h.1, h.2.2.1⟩⟩⟩
  | _ => rfl
theorem oS_rtEx {r : Fl τ} {R : D → τ → Prop} (h : oS r { nx := fun _ _ => False, rt := R }) : ∃ d t, r = .rt d t ∧ R d t := by
  cases r with
  | rt d t => exact ⟨d, t, rfl, h⟩
  | _ => exact h.elim
theorem compL_ok {g : Tgt} {tt : ME Unit Bool} {te : ME Unit D} {ρ : Rho} {p : D → Prop} : ∀ ds : List D, (∀ d ∈ ds, ∃ ρ1, g ρ d = some ρ1 ∧ ∃ b, tt ρ1 () = .ok b () ∧ (b = true → ∃ y, te ρ1 () = .ok y () ∧ p y)) →
    ∃ ys, compL g tt te ρ ds () = .ok ys () ∧ ∀ y ∈ ys, p y
  | [], _ => ⟨[], rfl, fun y h => by cases h⟩
  | d :: ds, h => by
    obtain ⟨ρ1, e1, b, e2, h3⟩ := h d List.mem_cons_self
    obtain ⟨ys, e4, h4⟩ := compL_ok (p := p) ds fun d hd => h d (List.mem_cons_of_mem _ hd)
    unfold compL
    rw [e1]
    dsimp only
    rw [e2]
    cases b with
    | false => exact ⟨ys, e4, h4⟩
    | true =>
      obtain ⟨y, e5, h5⟩ := h3 rfl
      refine ⟨y :: ys, ?_, fun z hz => by rcases List.mem_cons.mp hz with rfl | hz; exact h5; exact h4 z hz⟩
      simp [noEx, e5, e4]
theorem intsD_all : ∀ ys : List D, (∀ y ∈ ys, ∃ i, y = .int i) → ∃ l, intsD ys = some l
  | [], _ => ⟨[], rfl⟩
  | y :: ys, h => by
    obtain ⟨i, rfl⟩ := h y List.mem_cons_self
    obtain ⟨l, e⟩ := intsD_all ys fun y hy => h y (List.mem_cons_of_mem _ hy)
    exact ⟨i :: l, by show (intsD ys).map (i :: ·) = _; rw [e]; rfl⟩
/-- a for with an invariant of what is still to come -/
theorem oS_loop {g : Tgt} {b : MS τ} (I : List D → Rho → τ → Prop) : ∀ (ds : List D) (ρ : Rho) (t : τ), I ds ρ t →
    (∀ d ds ρ t, I (d :: ds) ρ t → ∃ ρ1, g ρ d = some ρ1 ∧ oS (b ρ1 t) { P with nx := I ds, ct := I ds, bk := P.nx }) → (∀ ρ t, I [] ρ t → P.nx ρ t) → oS (loopF g b ds ρ t) P
  | [], ρ, t, h, _, hn => hn ρ t h
  | d :: ds, ρ, t, h, hs, hn => by
    rw [oS_loop_cons]
    obtain ⟨ρ1, e, h1⟩ := hs d ds ρ t h
    exact ⟨ρ1, e, oS_imp h1 (fun ρ t h => oS_loop I ds ρ t h hs hn) (fun _ _ h => h) (fun _ _ _ _ h => h) (fun _ _ h => h) (fun ρ t h => oS_loop I ds ρ t h hs hn)⟩
/-- a while with an invariant that falls -/
theorem oS_while [Sto τ] {c : ME τ Bool} {b : MS τ} (I : Nat → Rho → τ → Prop) (hs : ∀ n ρ t, I n ρ t → oE (c ρ t) (fun k t => (k = true → oS (b ρ t) { P with nx := fun ρ t => ∃ m, m < n ∧ I m ρ t, ct := fun ρ t => ∃ m, m < n ∧ I m ρ t, bk := P.nx }) ∧ (¬ k = true → P.nx ρ t)) (fun n fs t => P.ex n fs ρ t)) :
    ∀ (n : Nat) (ρ : Rho) (t : τ), I n ρ t → oS (sWhile c b ρ t) P := by
  intro n
  induction n using Nat.strongRecOn with
  | _ n ih =>
    intro ρ t h
    rw [sWhile_turn, oS_do]
    refine oE_imp (hs n ρ t h) (fun k t1 h1 => ?_) fun _ _ _ h => h
    rw [oS_ite]
    refine ⟨fun hk => ?_, fun hk => h1.2 hk⟩
    have h2 := h1.1 hk
    cases e : b ρ t1 <;> rw [e] at h2
    · obtain ⟨m, hm, h3⟩ := h2; exact ih m hm _ _ h3
    · exact h2
    · exact h2
    · obtain ⟨m, hm, h3⟩ := h2; exact ih m hm _ _ h3
    · exact h2
    · exact h2
end
end
section
variable {Q : D → Dk → Prop} {X : Str → Fds → Dk → Prop} {P : Pt Dk} {ρ : Rho} {t : Dk} {i j : Nat} {m : ME Dk D}
@[simp] theorem isDk_eq : isDk i ρ t = (match ρ[i]? with | some (.val (.at a)) => decide (a = t.a) | _ => false) := rfl
@[simp] theorem oE_dk0 : oE (eDk i 0 ρ t) Q X = (isDk i ρ t = true ∧ Q t.scr t) := by unfold eDk; by_cases h : isDk i ρ t = true <;> simp only [h, if_true, if_false, true_and, false_and, oE_ok, oE_bad, Bool.false_eq_true]
@[simp] theorem oE_dk2 : oE (eDk i 2 ρ t) Q X = (isDk i ρ t = true ∧ Q (.int t.pos) t) := by unfold eDk; by_cases h : isDk i ρ t = true <;> simp only [h, if_true, if_false, true_and, false_and, oE_ok, oE_bad, Bool.false_eq_true]
@[simp] theorem oE_dk3 : oE (eDk i 3 ρ t) Q X = (isDk i ρ t = true ∧ Q (.int t.cnt) t) := by unfold eDk; by_cases h : isDk i ρ t = true <;> simp only [h, if_true, if_false, true_and, false_and, oE_ok, oE_bad, Bool.false_eq_true]
@[simp] theorem oE_dkLen : oE (eDkLen i ρ t) Q X = (isDk i ρ t = true ∧ Q (.int (t.big.length : Nat)) t) := by unfold eDkLen; by_cases h : isDk i ρ t = true <;> simp only [h, if_true, if_false, true_and, false_and, oE_ok, oE_bad, Bool.false_eq_true]
@[simp] theorem oE_dkAt : oE (eDkAt i ρ t) Q X = (isDk i ρ t = true ∧ ∃ c, t.big[t.pos]? = some c ∧ Q (.int c) t) := by
  unfold eDkAt
  by_cases h : isDk i ρ t = true
  · simp only [h, if_true, true_and]
    cases e : t.big[t.pos]? <;> simp
  · simp only [h, if_false, false_and, oE_bad, Bool.false_eq_true]
@[simp] theorem oS_dkBig : oS (sDkBig i m ρ t) P = oE (m ρ t) (fun d t => ∃ c, d = .int c ∧ isDk i ρ t = true ∧ t.pos < t.big.length ∧ P.nx ρ { t with big := t.big.set t.pos c }) (fun n fs t => P.ex n fs ρ t) := by
  unfold sDkBig; rw [oS_do]; congr; funext d t
  cases d <;> simp only [oS_bad, reduceCtorEq, false_and, exists_false, D.int.injEq, exists_eq_left']
  rename_i c
  by_cases h : isDk i ρ t = true ∧ t.pos < t.big.length
  · rw [if_pos h]; simp only [oS_nx, h.1, h.2, true_and]
  · rw [if_neg h]; simp only [oS_bad]; exact (propext ⟨fun z => z.elim, fun z => h ⟨z.1, z.2.1⟩⟩)
@[simp] theorem oS_dkSet2 : oS (sDkSet i 2 m ρ t) P = oE (m ρ t) (fun d t => ∃ c, d = .int c ∧ isDk i ρ t = true ∧ 0 ≤ c ∧ P.nx ρ { t with pos := c.toNat }) (fun n fs t => P.ex n fs ρ t) := by
  unfold sDkSet; rw [oS_do]; congr; funext d t
  cases d <;> simp only [oS_bad, reduceCtorEq, false_and, exists_false, D.int.injEq, exists_eq_left']
  rename_i c
  by_cases h : isDk i ρ t = true ∧ 0 ≤ c
  · rw [if_pos h]; simp only [oS_nx, h.1, h.2, true_and]
  · rw [if_neg h]; simp only [oS_bad]; exact (propext ⟨fun z => z.elim, fun z => h ⟨z.1, z.2.1⟩⟩)
@[simp] theorem oS_dkSet3 : oS (sDkSet i 3 m ρ t) P = oE (m ρ t) (fun d t => ∃ c, d = .int c ∧ isDk i ρ t = true ∧ 0 ≤ c ∧ P.nx ρ { t with cnt := c.toNat }) (fun n fs t => P.ex n fs ρ t) := by
  unfold sDkSet; rw [oS_do]; congr; funext d t
  cases d <;> simp only [oS_bad, reduceCtorEq, false_and, exists_false, D.int.injEq, exists_eq_left']
  rename_i c
  by_cases h : isDk i ρ t = true ∧ 0 ≤ c
  · rw [if_pos h]; simp only [oS_nx, h.1, h.2, true_and]
  · rw [if_neg h]; simp only [oS_bad]; exact (propext ⟨fun z => z.elim, fun z => h ⟨z.1, z.2.1⟩⟩)
end
/-! operators -/
@[simp] theorem asB_bl {b : Bool} : asB (.bl b) = some b := rfl
@[simp] theorem dLt_int {i j : Int} : dLt (.int i) (.int j) = some (.bl (decide (i < j))) := rfl
@[simp] theorem dLe_int {i j : Int} : dLe (.int i) (.int j) = some (.bl (decide (i ≤ j))) := rfl
@[simp] theorem dGt_int {i j : Int} : dGt (.int i) (.int j) = some (.bl (decide (j < i))) := rfl
@[simp] theorem dGe_int {i j : Int} : dGe (.int i) (.int j) = some (.bl (decide (j ≤ i))) := rfl
@[simp] theorem dAdd_int {i j : Int} : dAdd (.int i) (.int j) = some (.int (i + j)) := rfl
@[simp] theorem dSub_int {i j : Int} : dSub (.int i) (.int j) = some (.int (i - j)) := rfl
@[simp] theorem ex_asc {α : Sort _} {a : α} {c : Prop} {Q : α → Prop} : (∃ z, (z = a ∧ c) ∧ Q z) ↔ c ∧ Q a := ⟨fun ⟨z, ⟨e, hc⟩, q⟩ => ⟨hc, e ▸ q⟩, fun ⟨hc, q⟩ => ⟨a, ⟨rfl, hc⟩, q⟩⟩
@[simp] theorem ex_asc0 {α : Sort _} {a : α} {c : Prop} : (∃ z, z = a ∧ c) ↔ c := ⟨fun ⟨z, _, hc⟩ => hc, fun hc => ⟨a, rfl, hc⟩⟩
@[simp] theorem dMul_some {i j : Int} {z : D} : (dMulI (.int i) (.int j) = some z) = (z = .int (i * j) ∧ mulOk i j = true) := by
  unfold dMulI; by_cases h : mulOk i j = true <;> simp [h, eq_comm]
@[simp] theorem dDiv_some {i j : Int} {z : D} : (dDiv (.int i) (.int j) = some z) = (z = .int (i.fdiv j) ∧ divOk i j = true) := by
  unfold dDiv; by_cases h : divOk i j = true <;> simp [h, eq_comm]
@[simp] theorem dMod_some {i j : Int} {z : D} : (dMod (.int i) (.int j) = some z) = (z = .int (i.fmod j) ∧ j ≠ 0) := by
  unfold dMod modOk; by_cases h : j ≠ 0 <;> simp [h, eq_comm]
@[simp] theorem dPow_some {i j : Int} {z : D} : (dPow (.int i) (.int j) = some z) = (z = .int (i ^ j.toNat) ∧ powOk i j = true) := by
  unfold dPow; by_cases h : powOk i j = true <;> simp [h, eq_comm]
@[simp] theorem ex_addL {xs ys : List D} {Q : D → Prop} : (∃ z, dAdd (.lst xs) (.lst ys) = some z ∧ Q z) ↔ xs.length + ys.length ≤ 16777216 ∧ Q (.lst (xs ++ ys)) := by
  unfold dAdd lim2; by_cases h : xs.length + ys.length ≤ 16777216 <;> simp [h]
@[simp] theorem ex_addT {xs ys : List D} {Q : D → Prop} : (∃ z, dAdd (.tup xs) (.tup ys) = some z ∧ Q z) ↔ xs.length + ys.length ≤ 16777216 ∧ Q (.tup (xs ++ ys)) := by
  unfold dAdd lim2; by_cases h : xs.length + ys.length ≤ 16777216 <;> simp [h]
@[simp] theorem ex_strI {i : Int} {Q : D → Prop} : (∃ z, fStrI [.int i] = some z ∧ Q z) ↔ i.natAbs.log2 < 1920 ∧ Q (.str (strOf i)) := by
  unfold fStrI; by_cases h : i.natAbs.log2 < 1920 <;> simp [h]
theorem rng_red {j : Int} {Q : List D → Prop} : (∃ z, (if -(2 ^ 62) ≤ j ∧ j < 2 ^ 62 then some (rngD 0 j.toNat) else none) = some z ∧ Q z) ↔ (-(2 ^ 62) ≤ j ∧ j < 2 ^ 62) ∧ Q (rngD 0 j.toNat) := by
  generalize (2 : Int) ^ 62 = P
  by_cases h : -P ≤ j ∧ j < P
  · rw [if_pos h]; exact ⟨fun ⟨z, e, q⟩ => ⟨h, by cases e; exact q⟩, fun q => ⟨_, rfl, q.2⟩⟩
  · rw [if_neg h]; exact ⟨fun ⟨z, e, q⟩ => (by cases e), fun q => absurd q.1 h⟩
@[simp] theorem ex_rng {j : Int} {Q : List D → Prop} : (∃ z, fRng1 [.int j] = some z ∧ Q z) ↔ (-4611686018427387904 ≤ j ∧ j < 4611686018427387904) ∧ Q (rngD 0 j.toNat) := rng_red
@[simp] theorem dNeg_int {i : Int} : dNeg (.int i) = some (.int (-i)) := rfl
theorem abs_if (i : Int) : (if i < 0 then -i else i) = (i.natAbs : Int) := by split <;> omega
@[simp] theorem fAbs_int {i : Int} : fAbs [.int i] = some (.int (i.natAbs : Int)) := by show some (D.int (if i < 0 then -i else i)) = _; rw [abs_if]
@[simp] theorem fLen_lst {xs : List D} : fLen [.lst xs] = some (.int (xs.length : Nat)) := rfl
@[simp] theorem fLen_tup {xs : List D} : fLen [.tup xs] = some (.int (xs.length : Nat)) := rfl
@[simp] theorem fLen_scr {xs : List Int} : fLen [.scr xs] = some (.int (xs.length : Nat)) := rfl
@[simp] theorem dIx_lst {xs : List D} {i : Int} : dIx (.lst xs) (.int i) = atI xs i := rfl
@[simp] theorem dIx_tup {xs : List D} {i : Int} : dIx (.tup xs) (.int i) = atI xs i := rfl
@[simp] theorem dIx_scr {xs : List Int} {i : Int} : dIx (.scr xs) (.int i) = (atI xs i).map .int := rfl
@[simp] theorem itD_lst {xs : List D} : itD (.lst xs) = some xs := rfl
@[simp] theorem itD_tup {xs : List D} : itD (.tup xs) = some xs := rfl
@[simp] theorem itD_scr {xs : List Int} : itD (.scr xs) = some (xs.map .int) := rfl
@[simp] theorem dCutL_lst {xs : List D} {lo hi : Option Int} : dCutL (.lst xs) lo hi = some (cutD xs lo hi) := rfl
@[simp] theorem truth_bl {b : Bool} : truth (.bl b) = some b := rfl
@[simp] theorem truth_int {i : Int} : truth (.int i) = some (i != 0) := rfl
theorem eqD_int {i j : Int} : eqD (.int i) (.int j) = some (decide (i = j)) := by
  simp [eqD, py, SeqAt.shaped, PyData.canLay0, PyData.depth, PyData.eqv]
  rfl
@[simp] theorem dEq_int {i j : Int} : dEq (.int i) (.int j) = some (.bl (decide (i = j))) := by unfold dEq; rw [eqD_int]; rfl
@[simp] theorem dNe_int {i j : Int} : dNe (.int i) (.int j) = some (.bl (!decide (i = j))) := by unfold dNe; rw [eqD_int]; rfl
theorem eqD_pair {i j k l : Int} : eqD (.tup [.int i, .int j]) (.tup [.int k, .int l]) = some (decide (i = k) && decide (j = l)) := by
  simp [eqD, py, pys, SeqAt.shaped, PyData.canLay0, PyData.canLayAll0, PyData.depth, PyData.depthAll, PyData.eqv, PyData.eqvAll]
  rfl
@[simp] theorem dEq_pair {i j k l : Int} : dEq (.tup [.int i, .int j]) (.tup [.int k, .int l]) = some (.bl (decide (i = k) && decide (j = l))) := by unfold dEq; rw [eqD_pair]; rfl
@[simp] theorem dNe_pair {i j k l : Int} : dNe (.tup [.int i, .int j]) (.tup [.int k, .int l]) = some (.bl (!(decide (i = k) && decide (j = l)))) := by unfold dNe; rw [eqD_pair]; rfl
theorem eqD_bl {i j : Bool} : eqD (.bl i) (.bl j) = some (i == j) := by
  simp [eqD, py, SeqAt.shaped, PyData.canLay0, PyData.depth, PyData.eqv]
@[simp] theorem dEq_bl {i j : Bool} : dEq (.bl i) (.bl j) = some (.bl (i == j)) := by unfold dEq; rw [eqD_bl]; rfl
@[simp] theorem dNe_bl {i j : Bool} : dNe (.bl i) (.bl j) = some (.bl (!(i == j))) := by unfold dNe; rw [eqD_bl]; rfl
theorem mem_cutD {x : D} {xs : List D} {lo hi : Option Int} (h : x ∈ cutD xs lo hi) : x ∈ xs := List.mem_of_mem_drop (List.mem_of_mem_take h)
theorem len_cutD {xs : List D} {lo hi : Option Int} : (cutD xs lo hi).length ≤ xs.length := by
  unfold cutD
  rw [List.length_take, List.length_drop]
  omega
theorem small_mul {i j : Int} {a b : Nat} (h1 : i.natAbs < 2 ^ a) (h2 : j.natAbs < 2 ^ b) (ha : 0 < a) (hb : 0 < b) (h : a + b ≤ 1000000) : mulOk i j = true := by
  have x := PySem.Flt.log2_lt_of ha h1
  have y := PySem.Flt.log2_lt_of hb h2
  unfold mulOk
  exact decide_eq_true (by omega)
theorem small_div {i j : Int} {b : Nat} (h : j ≠ 0) (h2 : j.natAbs < 2 ^ b) (hb : 0 < b) (h9 : b ≤ 9000) : divOk i j = true := by
  have y := PySem.Flt.log2_lt_of hb h2
  unfold divOk
  exact decide_eq_true ⟨h, by omega⟩
end MM

/-! M16: starred targets, enumerate, zip, int of a truth, all, any, sum, max, min, sorted of whole numbers. -/
namespace MM
open PySem PySem.Spec PyProof.Rows L2
section
variable {prog : Program} {w : World} {A : Around} {E : Value → Shared → Prop} {s : Shared}
/-- the starred part of an unpacking: a new list -/
def midOf (its : List Value) (i n : Nat) : List Value := (its.drop i).take (its.length + 1 - n)
def endOf (its : List Value) (i n : Nat) : List Value := (its.drop i).drop (its.length + 1 - n)
theorem un_tail {I l : Addr} {items : Array Value} {n i : Nat} {T : String} {St : Nat → Heap → Prop} {Q : List Value → Shared → Prop} {h1 : Heap} (hi : i < n) (hn : n ≤ items.size + 1) (hz : items.size ≤ 16384)
    (hT : T = "str_ascii_iterator" ∨ T = "str_iterator" ∨ T = "list_iterator" ∨ T = "tuple_iterator") (W : Walks prog w A.in1 I [I, l] [I] items.size (fun j v => items[j]? = some v) St) (hty : ∀ j (u : Shared), St j u.heap → u.TypeIs (.ref I) T) (st : St i h1)
    (hI : I < h1.objs.size) (hl : l < h1.objs.size)
    (h : ∀ (h2 : Heap) (tk : Nat), (∀ b o, b ≠ I → h1.get? b = some o → h2.get? b = some o) → Q (items.toList.take i ++ [.ref h2.objs.size] ++ endOf items.toList i n) { s with heap := h2.push { cls := .type "list", data := .seq (midOf items.toList i n).toArray }, toks := tk }) :
    wpAny (model prog w) A (do
      let rest ← holding (items.toList.take i) (collect (.ref I))
      let after := n - 1 - i
      if rest.length < after then
        rule "unpack.star.too-few"
        raiseError "ValueError" s!"not enough values to unpack (expected at least {n - 1}, got {i + rest.length})"
      let mid := rest.length - after
      return items.toList.take i ++ [← newList (rest.take mid)] ++ rest.drop mid) Q E { s with heap := h1 } := by
  have len : items.toList.length = items.size := Array.length_toList
  have dl : (items.toList.drop i).length = items.size - i := by rw [List.length_drop, len]
  refine wpAny_bind (wpAny_holding (PySem.W.kun_collect (s := { s with heap := h1 }) hT W hty (k := i) (by omega) st hI hl (fun h2 tk hk => ?_) (by rw [sizeLine_eq]; omega)))
  have hm : (items.toList.drop i).length - (n - 1 - i) = items.toList.length + 1 - n := by omega
  dsimp only
  rw [if_neg (by omega), hm]
  exact wpAny_bind (wpAny_newList (wpAny_pure (h h2 tk hk)) (by rw [List.length_take, dl, sizeLine_eq]; omega))
theorem un_starL {l : Addr} {items : Array Value} {n i : Nat} {Q : List Value → Shared → Prop} (hL : s.heap.IsList l items) (hh : A.handled = none) (hi : i < n) (hn : n ≤ items.size + 1) (hz : items.size ≤ 16384)
    (h : ∀ (h2 : Heap) (tk : Nat), (∀ b o, s.heap.get? b = some o → h2.get? b = some o) → Q (items.toList.take i ++ [.ref h2.objs.size] ++ endOf items.toList i n) { s with heap := h2.push { cls := .type "list", data := .seq (midOf items.toList i n).toArray }, toks := tk }) :
    wpAny (model prog w) A (unpackItems (.ref l) n (some i)) Q E s := by
  have hlt : l ≠ s.heap.objs.size := by obtain ⟨o, ho, _⟩ := hL; exact Nat.ne_of_lt (Heap.lt_size ho)
  unfold unpackItems notIterableAtAll
  refine wpAny_bind (wpAny_bind (wpAny_specialOf hL.typeIs slot_list_iter.lookup (wpAny_pure ?_)))
  simp only [Bool.false_eq_true, if_false]
  refine wpAny_bind (wpAny_holding (wpAny_pyIter_list hL ?_))
  refine wpAny_bind (wpAny_holding (PySem.W.kun_draw hlt i 0 _ _ ⟨_, Heap.get?_push_size _ rfl, rfl, rfl⟩ (hL.push _) (by omega) fun h1 it1 sb => ?_))
  have l1 : h1.IsList l items := (hL.push _).extBut sb.extBut hlt
  rw [Nat.zero_add] at it1
  rw [List.drop_zero]
  have z : (items.toList.take i).length = i := by rw [List.length_take, Array.length_toList]; omega
  rw [if_neg (by rw [z]; omega)]
  have bI : s.heap.objs.size < h1.objs.size := by obtain ⟨o, ho, _⟩ := it1; exact Heap.lt_size ho
  have bl : l < h1.objs.size := by obtain ⟨o, ho, _⟩ := l1; exact Heap.lt_size ho
  exact un_tail (s := s) hi hn hz (.inr (.inr (.inl rfl))) (Walks.list (A := A.in1) hh s.heap.objs.size l hlt items) (fun j u st => st.1.typeIs) ⟨it1, l1⟩ bI bl fun h2 tk hk =>
    h h2 tk fun b o e => hk b o (Nat.ne_of_lt (Heap.lt_size e)) (sb.extBut b o (Nat.ne_of_lt (Heap.lt_size e)) (Heap.get?_push_of_some _ e))
theorem un_starT {l : Addr} {items : Array Value} {n i : Nat} {Q : List Value → Shared → Prop} (hL : IsTup s.heap l items) (hh : A.handled = none) (hi : i < n) (hn : n ≤ items.size + 1) (hz : items.size ≤ 16384)
    (h : ∀ (h2 : Heap) (tk : Nat), (∀ b o, s.heap.get? b = some o → h2.get? b = some o) → Q (items.toList.take i ++ [.ref h2.objs.size] ++ endOf items.toList i n) { s with heap := h2.push { cls := .type "list", data := .seq (midOf items.toList i n).toArray }, toks := tk }) :
    wpAny (model prog w) A (unpackItems (.ref l) n (some i)) Q E s := by
  have hlt : l ≠ s.heap.objs.size := by obtain ⟨o, ho, _⟩ := hL; exact Nat.ne_of_lt (Heap.lt_size ho)
  unfold unpackItems notIterableAtAll
  refine wpAny_bind (wpAny_bind (wpAny_specialOf hL.typeIs slot_tuple_iter.lookup (wpAny_pure ?_)))
  simp only [Bool.false_eq_true, if_false]
  refine wpAny_bind (wpAny_holding (iter_tuple hL ?_))
  refine wpAny_bind (wpAny_holding (draw_tuple hlt i 0 _ _ ⟨_, Heap.get?_push_size _ rfl, rfl, rfl⟩ (hL.push _) (by omega) fun h1 it1 sb => ?_))
  have l1 : IsTup h1 l items := (hL.push _).extBut sb.extBut hlt
  rw [Nat.zero_add] at it1
  rw [List.drop_zero]
  have z : (items.toList.take i).length = i := by rw [List.length_take, Array.length_toList]; omega
  rw [if_neg (by rw [z]; omega)]
  have bI : s.heap.objs.size < h1.objs.size := by obtain ⟨o, ho, _⟩ := it1; exact Heap.lt_size ho
  have bl : l < h1.objs.size := by obtain ⟨o, ho, _⟩ := l1; exact Heap.lt_size ho
  exact un_tail (s := s) hi hn hz (.inr (.inr (.inr rfl))) (Walks.tuple (A := A.in1) hh s.heap.objs.size l hlt items) (fun j u st => st.1.typeIs) ⟨it1, l1⟩ bI bl fun h2 tk hk =>
    h h2 tk fun b o e => hk b o (Nat.ne_of_lt (Heap.lt_size e)) (sb.extBut b o (Nat.ne_of_lt (Heap.lt_size e)) (Heap.get?_push_of_some _ e))
end
def midV (xs : List V) (i n : Nat) : List V := (xs.drop i).take (xs.length + 1 - n)
def endV (xs : List V) (i n : Nat) : List V := (xs.drop i).drop (xs.length + 1 - n)
def gStarV (K : Fg) (n i : Nat) (t : TGs) : TG := fun v σ H Q => ∃ a xs, v = .ref a ∧ (SqL K H a xs ∨ SqT K H a xs) ∧ n ≤ xs.length + 1 ∧ xs.length ≤ 16384 ∧
  ∀ D, H D = none → t (xs.take i ++ [.ref D] ++ endV xs i n) σ (upd H D (.lst (midV xs i n))) Q
theorem take_drop_rel {xs : List V} {us : List Value} (r : Vals xs us) (i n : Nat) : Vals (midV xs i n) (midOf us i n) ∧ Vals (endV xs i n) (endOf us i n) ∧ Vals (xs.take i) (us.take i) := by
  have l := r.length
  unfold midV midOf endV endOf
  rw [← l]
  exact ⟨(r.drop i).take _, (r.drop i).drop _, r.take i⟩
theorem pg_star {X : Cx} {es es0 : List Expr} {k : Nat} {pos : Pos} {t : TGs} {n i : Nat} (hc : X.calm = true) (h : PGs X es0 t) (he : (assignEach es X.env).map (·.2) = (assignEach es0 X.env).map (·.2) := by rfl) (hn : (assignEach es X.env).length = n := by rfl)
    (hst : (assignEach es X.env).findIdx? (·.1) = some i := by rfl) (hi : i < n := by decide) : PG X (.Tuple es k pos) (gStarV X.K n i t) := by
  refine ⟨fun pins s σ H v u Q I r hw => ?_⟩
  obtain ⟨a, xs, e1, hq, hl, hz, hw⟩ := hw
  subst e1
  cases r
  have fin : ∀ (its : List Value), Vals xs its → ∀ (h2 : Heap) (tk : Nat), (∀ b o, s.heap.get? b = some o → h2.get? b = some o) →
      wpAny (model X.prog X.w) X.A (assignInOrder ((assignEach es X.env).map (·.2)) (its.take i ++ [.ref h2.objs.size] ++ endOf its i n)) (fun _ s' => ∃ σ' H', Inv X pins σ' H' s' ∧ Q σ' H') X.xe { s with heap := h2.push { cls := .type "list", data := .seq (midOf its i n).toArray }, toks := tk } := fun its rv h2 tk up => by
    obtain ⟨r1, r2, r3⟩ := take_drop_rel rv i n
    have I2 : Inv X pins σ H { s with heap := h2 } := I.kept (t' := s.toks) up
    have hf : H h2.objs.size = none := I2.hok.fresh (Nat.le_refl _)
    have I3 := I2.laid (t' := tk) (h' := h2.push { cls := .type "list", data := .seq (midOf its i n).toArray }) (a := h2.objs.size) (o := .lst (midV xs i n)) (fun b u e => Heap.get?_push_of_some _ e) (Nat.le_refl _)
      ⟨by unfold midV; rw [List.length_take, List.length_drop]; have : (16384 : Nat) ≤ sizeLine := by decide
          omega, midOf its i n, 0, r1, Heap.get?_push_size _ rfl⟩
    rw [he]
    exact h.run pins _ σ _ _ _ Q I3 ((r3.append (.cons (show RelV (.ref h2.objs.size) (.ref h2.objs.size) from rfl) .nil)).append r2) (hw _ hf)
  rw [PyProof.Rows.assign_Tuple]
  refine wpAny_bind (wpAny_standAt ?_)
  unfold unpack
  rw [hn, hst]
  rcases hq with hq | hq
  · obtain ⟨its, rv, pl, _⟩ := I.list hq
    have hsz : its.toArray.size = xs.length := by simp [rv.length]
    refine wpAny_bind (wpAny_holding (un_starL pl.isList (I.ok.hd hc) hi (by rw [hsz]; exact hl) (by rw [hsz]; exact hz) fun h2 tk up => ?_))
    exact fin its rv h2 tk up
  · obtain ⟨its, rv, pl, _⟩ := I.tuple hq
    have hsz : its.toArray.size = xs.length := by simp [rv.length]
    refine wpAny_bind (wpAny_holding (un_starT pl (I.ok.hd hc) hi (by rw [hsz]; exact hl) (by rw [hsz]; exact hz) fun h2 tk up => ?_))
    exact fin its rv h2 tk up
section
variable {X : Cx} {W : WX} {τ : Type} [Sto τ] {K : Fg}
/-- (a, *b, c) = a list or a tuple; the starred one takes a new list. i: its place, n: how many targets -/
def starD (ds : List D) (i n : Nat) : Option (List D) := if n ≤ ds.length + 1 ∧ ds.length ≤ 16384 then some (ds.take i ++ [.lst ((ds.drop i).take (ds.length + 1 - n))] ++ (ds.drop i).drop (ds.length + 1 - n)) else none
def gStar (i n : Nat) (gs : Tgts) : Tgt := fun ρ d => match d with
  | .lst ds => (starD ds i n).bind fun es => gs ρ es
  | .tup ds => (starD ds i n).bind fun es => gs ρ es
  | _ => none
theorem Reps.mid {F : Fp} {H : Hp} {xs : List V} {ds : List D} (r : Reps K F H xs ds) (i n : Nat) : Reps K F H (midV xs i n) ((ds.drop i).take (ds.length + 1 - n)) := by
  unfold midV; rw [r.length]; exact (r.drop i).take _
theorem Reps.fin {F : Fp} {H : Hp} {xs : List V} {ds : List D} (r : Reps K F H xs ds) (i n : Nat) : Reps K F H (endV xs i n) ((ds.drop i).drop (ds.length + 1 - n)) := by
  unfold endV; rw [r.length]; exact (r.drop i).drop _
def unstar : Expr → Expr
  | .Starred e _ => e
  | e => e
theorem mg_star {es : List Expr} {k n i : Nat} {pos : Pos} {gs : Tgts} {vs : List Nat} (hc : X.calm = true) (h : PGs X (es.map unstar) (tTgs τ X.K gs vs)) (he : (assignEach es X.env).map (·.2) = (assignEach (es.map unstar) X.env).map (·.2) := by rfl)
    (hn : (assignEach es X.env).length = n := by rfl) (hst : (assignEach es X.env).findIdx? (·.1) = some i := by rfl) (hi : i < n := by decide) : PG X (.Tuple es k pos) (tTg τ X.K (gStar i n gs) vs) :=
  PG.imp (pg_star hc h he hn hst hi) fun v σ H Q ⟨C, ρ, t, d, A, r, ρ', e, k⟩ => by
    have fin : ∀ (xs : List V) (ds : List D), Reps X.K (Fo C.F ρ σ) H xs ds → (starD ds i n).bind (fun es => gs ρ es) = some ρ' → n ≤ xs.length + 1 ∧ xs.length ≤ 16384 ∧ ∀ q, H q = none → tTgs τ X.K gs vs (xs.take i ++ [.ref q] ++ endV xs i n) σ (upd H q (.lst (midV xs i n))) Q := fun xs ds rs e => by
      unfold starD at e
      have lr := rs.length
      by_cases c : n ≤ ds.length + 1 ∧ ds.length ≤ 16384
      · rw [if_pos c] at e
        have e' : gs ρ (ds.take i ++ [.lst ((ds.drop i).take (ds.length + 1 - n))] ++ (ds.drop i).drop (ds.length + 1 - n)) = some ρ' := e
        refine ⟨by omega, by omega, fun q nq => ?_⟩
        have sm : Same H (upd H q (.lst (midV xs i n))) := same_upd nq
        have A1 : At X.K C ρ t σ (upd H q (.lst (midV xs i n))) := A.next (Sm.of_same sm) (C.stay A.st sm)
        have rs1 := rs.same (Sm.of_same (F := Fo C.F ρ σ) sm)
        have nq' : ¬ Fo C.F ρ σ q := fun z => A.dom q z nq
        have mid : Rep X.K (Fo C.F ρ σ) (upd H q (.lst (midV xs i n))) (.ref q) (.lst ((ds.drop i).take (ds.length + 1 - n))) := .lst ⟨nq', .inl upd_same⟩ (rs1.mid i n)
        refine ⟨C, ρ, t, _, A1, ((rs1.take i).append (.cons mid .nil)).append (rs1.fin i n), ρ', e', fun σ' H' f m s A' => k σ' H' f (fun b o e => m b o (sm b o e)) ?_ A'⟩
        exact (Stp.of_sm (Sm.of_same (F := C.F) sm) fun _ => .inl).trans s
      · rw [if_neg c] at e; cases e
    cases r with
    | tup tf rs => obtain ⟨h1, h2, h3⟩ := fin _ _ rs e; exact ⟨_, _, rfl, .inr tf.sq, h1, h2, h3⟩
    | lst tf rs => obtain ⟨h1, h2, h3⟩ := fin _ _ rs e; exact ⟨_, _, rfl, .inl tf.sq, h1, h2, h3⟩
    | _ => cases e
end
end MM

/-! M17: enumerate, zip, int of a truth, all, any, sum, max, min, sorted of whole numbers. -/
namespace MM
open PySem PySem.Spec PyProof.Rows L2 RZ
section
variable {X : Cx} {W : WX} {τ : Type} [Sto τ] {K : Fg}
/-! ### enumerate, zip -/
def enumD (ds : List D) : List D := ds.mapIdx fun i d => .tup [.int (i : Nat), d]
def fEnum : List D → Option (List D)
  | [.lst ds] => some (enumD ds)
  | _ => none
theorem rIt_enum {I : Fp → Hp → Prop} {F0 F : Fp} {H H' : Hp} {a : Addr} {vs : List V} {ds : List D} (hl : LstF K F H' a vs) (r : Reps K F H' vs ds) : rIt K I F0 F H H' (Ite K a) (enumD ds) := by
  have w : Walk (Ite K a) (enumD ds).length (fun H => SqL K H a vs) (YPair (fun i => some (.int (i : Nat))) (fun i => vs[i]?)) := by
    rw [show (enumD ds).length = vs.length by unfold enumD; rw [List.length_mapIdx, r.length]]
    exact walk_enum
  refine ⟨_, _, w, fun H2 s => (hl.step ⟨s, fun _ z => .inl z⟩).sq, fun Fc i H2 x H3 hi s dm y => ?_⟩
  obtain ⟨T, x0, y0, rfl, nT, rfl, e1, e2⟩ := y
  cases e1
  obtain ⟨d, ed, q⟩ := (r.step s).getV e2
  exact ⟨same_upd nT, .tup [.int (i : Nat), d], by unfold enumD; rw [List.getElem?_mapIdx, ed]; rfl, Rep.newTup (.cons (.int _) (.cons q .nil)) dm nT⟩
theorem mi_enum {e : Expr} {p pos tpos : Pos} {elts : List Expr} {kk : Nat} {m : ME τ (List D)} (hg : Gl X "enumerate") (hm : X.mg "enumerate" = none) (ha : PA X [e] (tA X.K W m)) (hs : starEach [e] X.env = [(false, eval e X.env)] := by rfl) :
    PI X (.Tuple elts kk tpos) (.Call (.Name "enumerate" p) [e] [] pos) (tI X.K W (e1 fEnum m)) := PI.imp (pi_enum hg hm ha hs) fun σ H R ⟨C, ρ, t, A, p⟩ => by
  refine use okI A p fun d t1 v H1 e1 s1 A1 r1 p1 => ?_
  unfold fEnum at p1
  split at p1
  · cases r1 with
    | cons r1 r2 =>
      cases r2
      cases r1 with
      | lst hl rs => exact ⟨_, _, rfl, hl.sq, p1 _ H1 (Sm.refl _ _) A1.st (rIt_enum hl rs)⟩
  · exact p1.elim
def zipD (xs ys : List D) : List D := List.zipWith (fun x y => .tup [x, y]) xs ys
def fZip : List D → Option (List D)
  | [.lst xs, .lst ys] => some (zipD xs ys)
  | [.tup xs, .tup ys] => some (zipD xs ys)
  | _ => none
theorem zip_get {xs ys : List D} {i : Nat} {d e : D} (h1 : xs[i]? = some d) (h2 : ys[i]? = some e) : (zipD xs ys)[i]? = some (.tup [d, e]) := by
  unfold zipD
  rw [List.getElem?_zipWith, h1, h2]
theorem rIt_zip {I : Fp → Hp → Prop} {F0 F : Fp} {H H' : Hp} {a b : Addr} {vs ws : List V} {ds es : List D} (hl : LstF K F H' a vs) (r : Reps K F H' vs ds) (hl2 : LstF K F H' b ws) (r2 : Reps K F H' ws es) : rIt K I F0 F H H' (Itz K a b) (zipD ds es) := by
  have w : Walk (Itz K a b) (zipD ds es).length (fun H => SqL K H a vs ∧ SqL K H b ws) (YPair (fun i => vs[i]?) (fun i => ws[i]?)) := walk_zip (by unfold zipD; rw [List.length_zipWith, r.length, r2.length])
  refine ⟨_, _, w, fun H2 s => ⟨(hl.step ⟨s, fun _ z => .inl z⟩).sq, (hl2.step ⟨s, fun _ z => .inl z⟩).sq⟩, fun Fc i H2 x H3 hi s dm y => ?_⟩
  obtain ⟨T, x0, y0, rfl, nT, rfl, e1, e2⟩ := y
  obtain ⟨d, ed, q⟩ := (r.step s).getV e1
  obtain ⟨e, ee, q2⟩ := (r2.step s).getV e2
  exact ⟨same_upd nT, .tup [d, e], zip_get ed ee, Rep.newTup (.cons q (.cons q2 .nil)) dm nT⟩
theorem walk_zipT {xs ys : List V} {a b : Addr} {n : Nat} (hn : n = min xs.length ys.length) : Walk (ItzT K a b) n (fun H => SqT K H a xs ∧ SqT K H b ys) (YPair (fun i => xs[i]?) (fun i => ys[i]?)) := by
  subst hn
  refine ⟨fun i _ hi q => ?_, fun _ q => ⟨xs, ys, q.1, q.2, by omega⟩, fun i H v H' hi q y => ?_⟩
  · have h1 : i < xs.length := by omega
    have h2 : i < ys.length := by omega
    exact ⟨xs, ys, xs[i], ys[i], q.1, q.2, by simp [h1], by simp [h2]⟩
  · obtain ⟨T, x, z, h1, h2, h3, h4, h5⟩ := y
    exact ⟨T, x, z, h1, h2, h3, h4 xs q.1, h5 ys q.2⟩
theorem rIt_zipT {I : Fp → Hp → Prop} {F0 F : Fp} {H H' : Hp} {a b : Addr} {vs ws : List V} {ds es : List D} (hl : TupF K F H' a vs) (r : Reps K F H' vs ds) (hl2 : TupF K F H' b ws) (r2 : Reps K F H' ws es) : rIt K I F0 F H H' (ItzT K a b) (zipD ds es) := by
  have w : Walk (ItzT K a b) (zipD ds es).length (fun H => SqT K H a vs ∧ SqT K H b ws) (YPair (fun i => vs[i]?) (fun i => ws[i]?)) := walk_zipT (by unfold zipD; rw [List.length_zipWith, r.length, r2.length])
  refine ⟨_, _, w, fun H2 s => ⟨(hl.step ⟨s, fun _ z => .inl z⟩).sq, (hl2.step ⟨s, fun _ z => .inl z⟩).sq⟩, fun Fc i H2 x H3 hi s dm y => ?_⟩
  obtain ⟨T, x0, y0, rfl, nT, rfl, e1, e2⟩ := y
  obtain ⟨d, ed, q⟩ := (r.step s).getV e1
  obtain ⟨e, ee, q2⟩ := (r2.step s).getV e2
  exact ⟨same_upd nT, .tup [d, e], zip_get ed ee, Rep.newTup (.cons q (.cons q2 .nil)) dm nT⟩
theorem mi_zip {e e2 : Expr} {p pos tpos : Pos} {elts : List Expr} {kk : Nat} {m : ME τ (List D)} (hg : Gl X "zip") (hm : X.mg "zip" = none) (ha : PA X [e, e2] (tA X.K W m))
    (hs : starEach [e, e2] X.env = (false, eval e X.env) :: starEach [e2] X.env := by rfl) (hpl : (backTo pos (starEach [e2] X.env)).any (·.1) = false := by rfl) :
    PI X (.Tuple elts kk tpos) (.Call (.Name "zip" p) [e, e2] [] pos) (tI X.K W (MM.e1 fZip m)) := PI.imp (pi_zipA hg hm ha hs hpl) fun σ H R ⟨C, ρ, t, A, p⟩ => by
  refine use okI A p fun d t1 v H1 e1 s1 A1 r1 p1 => ?_
  unfold fZip at p1
  split at p1
  · cases r1 with
    | cons r1 r2 =>
      cases r2 with
      | cons r2 r3 =>
        cases r3
        cases r1 with
        | lst hl rs =>
          cases r2 with
          | lst hl2 rs2 => exact ⟨_, _, _, _, rfl, .inl ⟨hl.sq, hl2.sq, p1 _ H1 (Sm.refl _ _) A1.st (rIt_zip hl rs hl2 rs2)⟩⟩
  · cases r1 with
    | cons r1 r2 =>
      cases r2 with
      | cons r2 r3 =>
        cases r3
        cases r1 with
        | tup hl rs =>
          cases r2 with
          | tup hl2 rs2 => exact ⟨_, _, _, _, rfl, .inr ⟨hl.sq, hl2.sq, p1 _ H1 (Sm.refl _ _) A1.st (rIt_zipT hl rs hl2 rs2)⟩⟩
  · exact p1.elim
/-! ### int( .. ) -/
def fIntA : List D → Option D
  | [.int i] => some (.int i)
  | [.bl b] => some (.int (if b then 1 else 0))
  | [.str x] => fIntS [.str x]
  | _ => none
def rIntA : List V → Hp → VK → Prop := fun xs H Q => ((∃ i, xs = [.int i] ∧ Q (.int i) H) ∨ ∃ k, xs = [.bl k] ∧ Q (.int (if k then 1 else 0)) H) ∨ rIntS xs H Q
theorem call_intA (e : NoLim X.K) : CallR X (.type "int") rIntA := by
  intro pins s σ H xs us Q I rs h
  rcases h with h | h
  · exact call_int1 pins s σ H xs us Q I rs h
  · exact call_intS e pins s σ H xs us Q I rs h
theorem c_intA : DCall K rIntA fIntA := fun F0 F H xs ds z Q dm r q k => by
  unfold fIntA at q
  split at q
  · cases q
    obtain ⟨v, rfl, r1⟩ := r.one
    exact .inl (.inl ⟨_, by rw [r1.intOf], k _ _ (Same.refl H) (.int _)⟩)
  · cases q
    obtain ⟨v, rfl, r1⟩ := r.one
    exact .inl (.inr ⟨_, by rw [r1.blOf], k _ _ (Same.refl H) (.int _)⟩)
  · exact .inr (c_intS F0 F H xs _ z Q dm r q k)
  · cases q
/-! ### over lists -/
def blsD : List D → Option (List Bool)
  | [] => some []
  | .bl b :: r => (blsD r).map (b :: ·)
  | _ => none
theorem blsD_ok {F : Fp} {H : Hp} : ∀ {vs : List V} {ds : List D} {bs : List Bool}, Reps K F H vs ds → blsD ds = some bs → vs = bs.map V.bl
  | _, _, _, .nil, e => by cases e; rfl
  | _, _, bs, .cons (v := v) (vs := vs) (d := d) (ds := ds) r t, e => by
    cases d <;> first
      | (cases e; done)
      | skip
    rename_i b
    have e' : (blsD ds).map (b :: ·) = some bs := e
    cases q : blsD ds with
    | none => rw [q] at e'; cases e'
    | some l =>
      rw [q] at e'
      cases e'
      cases r
      rw [blsD_ok t q]
      rfl
def fAll : List D → Option D
  | [.lst ds] => (blsD ds).map fun bs => .bl (bs.all id)
  | _ => none
def fAny : List D → Option D
  | [.lst ds] => (blsD ds).map fun bs => .bl (bs.any id)
  | _ => none
def fSum : List D → Option D
  | [.lst ds] => (intsD ds).map fun ns => .int ns.sum
  | _ => none
def fMaxL : List D → Option D
  | [.lst ds] => (intsD ds).bind fun ns => ns.max?.map .int
  | _ => none
def fMinL : List D → Option D
  | [.lst ds] => (intsD ds).bind fun ns => ns.min?.map .int
  | _ => none
theorem c_all : DCall K (rAll K) fAll := fun F0 F H xs ds z Q dm r q k => by
  unfold fAll at q
  split at q
  · obtain ⟨v, rfl, r0⟩ := r.one
    obtain ⟨a, vs, rfl, h1, rs⟩ := r0.lstOf
    rename_i ds
    cases e : blsD ds with
    | none => rw [e] at q; cases q
    | some bs =>
      rw [e] at q; cases q
      have ev := blsD_ok rs e
      subst ev
      exact ⟨a, bs, rfl, h1.sq, k _ _ (Same.refl H) (.bl _)⟩
  · cases q
theorem c_any : DCall K (rAny K) fAny := fun F0 F H xs ds z Q dm r q k => by
  unfold fAny at q
  split at q
  · obtain ⟨v, rfl, r0⟩ := r.one
    obtain ⟨a, vs, rfl, h1, rs⟩ := r0.lstOf
    rename_i ds
    cases e : blsD ds with
    | none => rw [e] at q; cases q
    | some bs =>
      rw [e] at q; cases q
      have ev := blsD_ok rs e
      subst ev
      exact ⟨a, bs, rfl, h1.sq, k _ _ (Same.refl H) (.bl _)⟩
  · cases q
theorem c_sum : DCall K (rSum K) fSum := fun F0 F H xs ds z Q dm r q k => by
  unfold fSum at q
  split at q
  · obtain ⟨v, rfl, r0⟩ := r.one
    obtain ⟨a, vs, rfl, h1, rs⟩ := r0.lstOf
    rename_i ds
    cases e : intsD ds with
    | none => rw [e] at q; cases q
    | some bs =>
      rw [e] at q; cases q
      have ev := intsD_ok rs e
      subst ev
      exact ⟨a, bs, rfl, h1.sq, k _ _ (Same.refl H) (.int _)⟩
  · cases q
theorem c_maxL : DCall K (rMax K) fMaxL := fun F0 F H xs ds z Q dm r q k => by
  unfold fMaxL at q
  split at q
  · obtain ⟨v, rfl, r0⟩ := r.one
    obtain ⟨a, vs, rfl, h1, rs⟩ := r0.lstOf
    rename_i ds
    cases e : intsD ds with
    | none => rw [e] at q; cases q
    | some ns =>
      rw [e] at q
      have q' : ns.max?.map D.int = some z := q
      cases em : ns.max? with
      | none => rw [em] at q'; cases q'
      | some m =>
        rw [em] at q'; cases q'
        have ev := intsD_ok rs e
        subst ev
        obtain ⟨hm, hx⟩ := List.max?_eq_some_iff.mp em
        refine ⟨a, ns, rfl, h1.sq, List.length_pos_of_mem hm, fun m' h1' h2' => ?_⟩
        have : m' = m := Int.le_antisymm (hx _ h1') (h2' _ hm)
        subst this
        exact k _ _ (Same.refl H) (.int _)
  · cases q
theorem c_minL : DCall K (rMin K) fMinL := fun F0 F H xs ds z Q dm r q k => by
  unfold fMinL at q
  split at q
  · obtain ⟨v, rfl, r0⟩ := r.one
    obtain ⟨a, vs, rfl, h1, rs⟩ := r0.lstOf
    rename_i ds
    cases e : intsD ds with
    | none => rw [e] at q; cases q
    | some ns =>
      rw [e] at q
      have q' : ns.min?.map D.int = some z := q
      cases em : ns.min? with
      | none => rw [em] at q'; cases q'
      | some m =>
        rw [em] at q'; cases q'
        have ev := intsD_ok rs e
        subst ev
        obtain ⟨hm, hx⟩ := List.min?_eq_some_iff.mp em
        refine ⟨a, ns, rfl, h1.sq, List.length_pos_of_mem hm, fun m' h1' h2' => ?_⟩
        have : m' = m := Int.le_antisymm (h2' _ hm) (hx _ h1')
        subst this
        exact k _ _ (Same.refl H) (.int _)
  · cases q
/-- sorted(list of whole numbers): a new list -/
def sortI (ns : List Int) : List Int := ns.mergeSort fun a b => decide (a ≤ b)
theorem sortI_eq {ns ms : List Int} (hp : ms.Perm ns) (hs : ms.Pairwise (· ≤ ·)) : ms = sortI ns := by
  have p2 : (sortI ns).Perm ns := List.mergeSort_perm ..
  have s2 : (sortI ns).Pairwise (· ≤ ·) := (List.pairwise_mergeSort (le := fun a b : Int => decide (a ≤ b)) (fun a b c h1 h2 => by simp at *; omega) (fun a b => by simp; omega) ns).imp fun h => of_decide_eq_true h
  exact List.Perm.eq_of_pairwise (le := (· ≤ ·)) (fun a b _ _ h1 h2 => Int.le_antisymm h1 h2) hs s2 (hp.trans p2.symm)
def fSortI : List D → Option (List D)
  | [.lst ds] => (intsD ds).map fun ns => (sortI ns).map .int
  | _ => none
theorem reps_int {F : Fp} {H : Hp} : ∀ ns : List Int, Reps K F H (ns.map V.int) (ns.map D.int)
  | [] => .nil
  | n :: ns => .cons (.int n) (reps_int ns)
theorem mf_sortI {e : Expr} {es : List Expr} {p pos : Pos} {ms : ME τ (List D)} (hg : Gl X "sorted") (hm : X.mg "sorted" = none)
    (ha : PA X (e :: es) (tAW X.K W ms))
    (he : starEach (e :: es) X.env = (false, eval e X.env) :: starEach es X.env := by rfl) (hpl : (backTo pos (starEach es X.env)).any (·.1) = false := by rfl) :
    PE X (.Call (.Name "sorted" p) (e :: es) [] pos) (tF X.K W (MM.e1 fSortI ms)) := PE.imp (pe_callB cr_sortedI hg hm (by decide +kernel) ha (by decide) (by decide) he hpl) fun σ H Q ⟨C, ρ, t, A, p⟩ => by
  refine use okF A p fun ds t1 v H1 e1 s1 A1 r1 p1 => ?_
  unfold fSortI at p1
  split at p1
  · obtain ⟨v, rfl, r0⟩ := RepsW.one r1
    obtain ⟨a, vs, rfl, h1, rs⟩ := r0.lstOf
    rename_i ds
    cases e : intsD ds with
    | none => rw [e] at p1; exact p1.elim
    | some ns =>
      rw [e] at p1
      have ev := intsD_ok rs e
      subst ev
      refine ⟨a, ns, rfl, h1.sq, fun ns' q hp hs nq => ?_⟩
      have := sortI_eq hp hs
      subst this
      exact new_fin A1 (reps_int (sortI ns)) p1 q nq
  · exact p1.elim
end
/-! ### in the reasoning about mirrors -/
@[simp] theorem fEnum_lst {ds : List D} : fEnum [.lst ds] = some (enumD ds) := rfl
@[simp] theorem fZip_lst {xs ys : List D} : fZip [.lst xs, .lst ys] = some (zipD xs ys) := rfl
@[simp] theorem fZip_tup {xs ys : List D} : fZip [.tup xs, .tup ys] = some (zipD xs ys) := rfl
@[simp] theorem fIntA_int {i : Int} : fIntA [.int i] = some (.int i) := rfl
@[simp] theorem fIntA_bl {b : Bool} : fIntA [.bl b] = some (.int (if b then 1 else 0)) := rfl
@[simp] theorem fIntA_str {x : Str} : fIntA [.str x] = fIntS [.str x] := rfl
@[simp] theorem fAll_lst {ds : List D} : fAll [.lst ds] = (blsD ds).map fun bs => .bl (bs.all id) := rfl
@[simp] theorem fAny_lst {ds : List D} : fAny [.lst ds] = (blsD ds).map fun bs => .bl (bs.any id) := rfl
@[simp] theorem blsD_nil : blsD [] = some [] := rfl
@[simp] theorem blsD_cons {b : Bool} {r : List D} : blsD (.bl b :: r) = (blsD r).map (b :: ·) := rfl
end MM

/-! M18: calls that may read lists which are still to be changed. -/
namespace MM
open PySem PySem.Spec PyProof.Rows L2
mutual
/-- no list, dict, object, place within -/
def hard : D → Bool
  | .non => true
  | .bl _ => true
  | .int _ => true
  | .str _ => true
  | .ty _ => true
  | .cls _ => true
  | .at _ => true
  | .tup ds => hards ds
  | _ => false
def hards : List D → Bool
  | [] => true
  | d :: ds => hard d && hards ds
end
section
variable {K : Fg} {F F2 : Fp} {H : Hp}
/-- what may be changed -/
def looseB : HO → Bool
  | .lst _ => true
  | .dK _ => true
  | .dT _ => true
  | .ext _ => true
  | _ => false
def Loo (H : Hp) (b : Addr) : Prop := ∃ u, H b = some u ∧ looseB u = true
theorem OwnR.loose {K : Fg} {F : Fp} {H : Hp} {a : Addr} {u : HO} {x : Slot} (r : OwnR K F H a u x) : looseB u = true := by
  cases r with
  | lst _ => rfl
  | dct r => cases r <;> rfl
mutual
theorem Rep.hard : ∀ {v : V} {d : D}, Rep K F H v d → hard d = true → (∀ b, F2 b → F b ∨ Loo H b) → Rep K F2 H v d
  | _, _, .non, _, _ => .non
  | _, _, .bl _, _, _ => .bl _
  | _, _, .int _, _, _ => .int _
  | _, _, .str _, _, _ => .str _
  | _, _, .ty _, _, _ => .ty _
  | _, _, .cls _, _, _ => .cls _
  | _, _, .at _, _, _ => .at _
  | _, _, .tup (a := a) tf rs, e, h => by
    unfold MM.hard at e
    refine .tup ?_ (Reps.hard rs e h)
    rcases tf with ⟨n, rd⟩ | tk
    · refine .inl ⟨fun z => ?_, rd⟩
      rcases h a z with q | ⟨xs, q⟩
      · exact n q
      · rcases rd with rd | ⟨o, rd⟩ <;> (rw [q.1] at rd; cases rd; cases q.2)
    · exact .inr tk
  | _, _, .lst _ _, e, _ => by unfold MM.hard at e; cases e
  | _, _, .dK _ _ _, e, _ => by unfold MM.hard at e; cases e
  | _, _, .dX _ _ _ _ _ _, e, _ => by unfold MM.hard at e; cases e
  | _, _, .obj _ _ _, e, _ => by unfold MM.hard at e; cases e
  | _, _, .scr _, e, _ => by unfold MM.hard at e; cases e
theorem Reps.hard : ∀ {vs : List V} {ds : List D}, Reps K F H vs ds → hards ds = true → (∀ b, F2 b → F b ∨ Loo H b) → Reps K F2 H vs ds
  | _, _, .nil, _, _ => .nil
  | _, _, .cons r t, e, h => by
    unfold hards at e
    obtain ⟨e1, e2⟩ := Bool.and_eq_true_iff.mp e
    exact .cons (Rep.hard r e1 h) (Reps.hard t e2 h)
end
end
section
variable {X : Cx} {W : WX} {τ : Type} [Sto τ] {K : Fg}
theorem At.ownAt {C : SC τ} {ρ : Rho} {t : τ} {σ : St} {H : Hp} (A : At K C ρ t σ H) : ∀ b, (∃ (i : Nat) (x : Slot), (ρ[i]? = some x ∧ x.mine = true) ∧ σ[i]? = some (some (.ref b))) → ¬ C.F b ∧ Loo H b := fun b ⟨i, xs, h1, h2⟩ => by
  obtain ⟨a, vs, e, n, q, r⟩ := A.mine i xs h1
  rw [e] at h2
  cases h2
  exact ⟨n, vs, q, r.loose⟩
/-- such a call of a def that leaves what is live -/
def eCallW (m : List D → Unit → Res Unit D) (df : List D) (a : ME τ (List D)) : ME τ D := fun ρ t => (a ρ t).bind fun ds t => match m (ds ++ df) () with
  | .ok d _ => if hard d = true then .ok d t else .bad
  | .ex n none _ => .ex n none t
  | _ => .bad
theorem callW_red {np j : Nat} {K : Fg} {m : List D → Unit → Res Unit D} {df : List D} {dvs : List V} {a : ME τ (List D)} {σ : St} {H : Hp} {Q : VK} (hd : ∀ F H, Reps K F H dvs df) (hn : ALen a j) (hj : j + df.length = np) (p : tE K W (eCallW m df a) σ H Q) :
    tCallSD (spF np K m) dvs (WE W) (tAW K W a) σ H Q := by
  obtain ⟨C, ρ, t, A, p⟩ := p
  refine use okE A p fun ds t1 vs H1 e1 s1 A1 r1 p1 => ?_
  have dmC : Dom C.F H1 := fun b h => A1.dom b (.inl h)
  refine ⟨SC.pure C.F H1 dmC, ds ++ df, (), trivial, ⟨Stp.refl _ _, fun _ _ _ e => e⟩, Reps.append (r1.lend fun _ => Fo.base) (hd _ _), by rw [List.length_append, hn _ _ _ _ e1, hj], ?_⟩
  cases e : m (ds ++ df) () with
  | ok d u =>
    rw [e] at p1
    dsimp only at p1
    split at p1
    · rename_i hh
      intro v H' s i r
      have sm := SC.pure_same i
      refine p1 v H' (Sm.of_same sm) (C.stay A1.st sm) (Rep.hard r hh fun b hb => ?_)
      rcases hb with hb | hb
      · exact .inl hb
      · obtain ⟨_, u, q, q2⟩ := A1.ownAt b hb
        exact .inr ⟨u, sm _ _ q, q2⟩
    · exact p1.elim
  | ex n fs u =>
    rw [e] at p1
    cases fs with
    | none =>
      intro cls dd H' s i x
      have sm := SC.pure_same i
      exact p1 cls dd H' (Sm.of_same sm) (C.stay A1.st sm) x
    | some q => exact p1.elim
  | bad =>
    rw [e] at p1
    exact p1.elim
theorem me_callW {k np j : Nat} {x : Str} {df : List D} {m : List D → Unit → Res Unit D} {e : Expr} {es : List Expr} {p pos : Pos} {a : ME τ (List D)} (Df : Def X.prog X.w X.K X.mg X.base k x np df m) (hr : Room k X.A) (tk : Takes X W) (hg : Gl X x) (hn : ALen a j)
    (ha : PA X (e :: es) (tAW X.K W a)) (hdb : (x == ("__debug__" : Str)) = false := by decide) (hj : j + df.length = np := by rfl) (he : starEach (e :: es) X.env = (false, eval e X.env) :: starEach es X.env := by rfl) (hpl : (backTo pos (starEach es X.env)).any (·.1) = false := by rfl) :
    PE X (.Call (.Name x p) (e :: es) [] pos) (tE X.K W (eCallW m df a)) := by
  obtain ⟨fd, ps, ds, dvs, F, hm, hk, hb, hd, hdf⟩ := Df.ex
  exact PE.imp (pe_callSD F hr hg hm hk hb hd (fun σ => passAt tk σ) ha hdb he hpl) fun _ _ _ p => callW_red hdf hn hj p
/-- .. of a def over the same state -/
def eCallWS (m : List D → τ → Res τ D) (df : List D) (a : ME τ (List D)) : ME τ D := fun ρ t => (a ρ t).bind fun ds t => match m (ds ++ df) t with
  | .ok d t' => if hard d = true then .ok d t' else .bad
  | .ex n none t' => .ex n none t'
  | _ => .bad
theorem callWS_red {np j : Nat} {K : Fg} {m : List D → τ → Res τ D} {df : List D} {dvs : List V} {a : ME τ (List D)} {σ : St} {H : Hp} {Q : VK} (hd : ∀ F H, Reps K F H dvs df) (hn : ALen a j) (hj : j + df.length = np) (p : tE K W (eCallWS m df a) σ H Q) :
    tCallSD (spF np K m) dvs (WE W) (tAW K W a) σ H Q := by
  obtain ⟨C, ρ, t, A, p⟩ := p
  refine use okE A p fun ds t1 vs H1 e1 s1 A1 r1 p1 => ?_
  have own := A1.ownAt
  let O : Fp := fun b => ∃ (i : Nat) (x : Slot), (ρ[i]? = some x ∧ x.mine = true) ∧ σ[i]? = some (some (.ref b))
  have dmO : ∀ b, O b → H1 b ≠ none := fun b h => A1.dom b (.inr h)
  have hO : ∀ b, O b → ¬ C.F b := fun b h => (own b h).1
  have back : ∀ {t' : τ} {H' : Hp}, (SC.lend C O H1 hO dmO).Iv t' C.F H' → C.Iv t' (Fo C.F ρ σ) H' ∧ ∀ b, O b → Loo H' b := fun {t' H'} i => ⟨i.1, fun b h => by
    obtain ⟨_, u, q, q2⟩ := own b h
    exact ⟨u, i.2.2 b _ h q, q2⟩⟩
  refine ⟨SC.lend C O H1 hO dmO, ds ++ df, t1, Sto.lend _ _ _ _ _ _ A1.okC, ⟨A1.st, fun b h => hO b h, fun _ _ _ e => e⟩, Reps.append (r1.lend fun _ => Fo.base) (hd _ _), by rw [List.length_append, hn _ _ _ _ e1, hj], ?_⟩
  cases e : m (ds ++ df) t1 with
  | ok d u =>
    rw [e] at p1
    dsimp only at p1
    split at p1
    · rename_i hh
      intro v H' s i r
      obtain ⟨i1, i2⟩ := back i
      refine p1 v H' s i1 (Rep.hard r hh fun b hb => ?_)
      rcases hb with hb | hb
      · exact .inl hb
      · exact .inr (i2 b hb)
    · exact p1.elim
  | ex n fs u =>
    rw [e] at p1
    cases fs with
    | none => exact fun cls dd H' s i x => p1 cls dd H' s (back i).1 x
    | some q => exact p1.elim
  | bad =>
    rw [e] at p1
    exact p1.elim
theorem me_callWS {k np j : Nat} {x : Str} {df : List D} {m : List D → τ → Res τ D} {e : Expr} {es : List Expr} {p pos : Pos} {a : ME τ (List D)} (Df : Def X.prog X.w X.K X.mg X.base k x np df m) (hr : Room k X.A) (tk : Takes X W) (hg : Gl X x) (hn : ALen a j)
    (ha : PA X (e :: es) (tAW X.K W a)) (hdb : (x == ("__debug__" : Str)) = false := by decide) (hj : j + df.length = np := by rfl) (he : starEach (e :: es) X.env = (false, eval e X.env) :: starEach es X.env := by rfl) (hpl : (backTo pos (starEach es X.env)).any (·.1) = false := by rfl) :
    PE X (.Call (.Name x p) (e :: es) [] pos) (tE X.K W (eCallWS m df a)) := by
  obtain ⟨fd, ps, ds, dvs, F, hm, hk, hb, hd, hdf⟩ := Df.ex
  exact PE.imp (pe_callSD F hr hg hm hk hb hd (fun σ => passAt tk σ) ha hdb he hpl) fun _ _ _ p => callWS_red hdf hn hj p
end
section
variable {τ : Type} {ρ : Rho} {t : τ} {X : Str → Fds → τ → Prop}
@[simp] theorem oE_callW {m : List D → Unit → Res Unit D} {df : List D} {a : ME τ (List D)} {Q : D → τ → Prop} : oE (eCallW m df a ρ t) Q X = oE (a ρ t) (fun ds t => oE (m (ds ++ df) ()) (fun d _ => hard d = true ∧ Q d t) (fun n fs _ => fs = none ∧ X n none t)) X := by
  unfold eCallW; rw [oE_bind]; congr; funext ds t
  cases e : m (ds ++ df) () with
  | ok d u => by_cases h : hard d = true <;> simp [h]
  | ex n fs u => cases fs <;> simp
  | bad => rfl
@[simp] theorem oE_callWS {m : List D → τ → Res τ D} {df : List D} {a : ME τ (List D)} {Q : D → τ → Prop} : oE (eCallWS m df a ρ t) Q X = oE (a ρ t) (fun ds t => oE (m (ds ++ df) t) (fun d t' => hard d = true ∧ Q d t') (fun n fs t' => fs = none ∧ X n none t')) X := by
  unfold eCallWS; rw [oE_bind]; congr; funext ds t
  cases e : m (ds ++ df) t with
  | ok d u => by_cases h : hard d = true <;> simp [h]
  | ex n fs u => cases fs <;> simp
  | bad => rfl
end
end MM

/-! M19: calls with keywords, calls without arguments. -/
namespace MM
open PySem PySem.Spec PyProof.Rows L2
section
variable {X : Cx} {W : WX} {τ : Type} [Sto τ] {K : Fg}
theorem PK.imp {e : List Keyword} {t t' : TA} (h : PK X e t) (i : ∀ σ H Q, t' σ H Q → t σ H Q) : PK X e t' := ⟨fun pos pins s σ H Q I q => h.run pos pins s σ H Q I (i σ H Q q)⟩
theorem mk_nil : PK X [] (tA X.K W (aNil (τ := τ))) := PK.imp pk_nil fun σ H Q ⟨C, ρ, t, A, p⟩ => p _ H (Sm.refl _ _) A.st .nil
theorem mk_cons {nm : Option Str} {e : Expr} {kpos : Pos} {kws : List Keyword} {a : ME τ D} {b : ME τ (List D)} (h : PE X e (tE X.K W a)) (hs : PK X kws (tA X.K W b)) : PK X (⟨nm, e, kpos⟩ :: kws) (tA X.K W (aCons a b)) :=
  PK.imp (pk_cons h hs) fun σ H Q ⟨C, ρ, t, A, p⟩ => by
    refine use okA A p fun d t1 v H1 e1 s1 A1 r1 p1 => ?_
    refine use okA A1 p1 fun d2 t2 v2 H2 e2 s2 A2 r2 p2 => ?_
    exact p2 _ H2 (Sm.refl _ _) A2.st (.cons (r1.same (s2.mono fun _ => Fo.base)) r2)
/-- a def that may be called with n positional values and the keywords ks, in the parameters' order -/
structure DefK (P : Program) (w : World) (K : Fg) (mg : Str → Option Value) (base : Heap) (k : Nat) (x : Str) (np n : Nat) (ks : List Str) (m : List D → Unit → Res Unit D) : Prop where
  ex : ∃ (fd : FuncData) (ps : List Str), FnOk P w K mg base (L2.CX P w) k (He.ga K x) fd ps (spF np K m) ∧ mg x = some (.ref (He.ga K x)) ∧ PySem.W.keepIn K (.ref (He.ga K x)) = true ∧ KBn K fd ps n ks (fun us ws => us ++ ws) (fun vs zs => vs ++ zs)
/-- such a call; an exception is not told of -/
def eCallK (m : List D → Unit → Res Unit D) (a b : ME τ (List D)) : ME τ D := fun ρ t => (a ρ t).bind fun ds t => (b ρ t).bind fun es t => match m (ds ++ es) () with
  | .ok d _ => .ok d t
  | _ => .bad
theorem callK_red {np i j : Nat} {m : List D → Unit → Res Unit D} {a b : ME τ (List D)} {σ : St} {H : Hp} {Q : VK} (hn : ALen a i) (hn2 : ALen b j) (hj : i + j = np) (p : tE K W (eCallK m a b) σ H Q) :
    tCallN i j (spF np K m) (fun vs zs => vs ++ zs) (fun _ _ _ => False) (tA K W a) (tA K W b) σ H Q := by
  obtain ⟨C, ρ, t, A, p⟩ := p
  refine use okE A p fun ds t1 vs H1 e1 s1 A1 r1 p1 => ?_
  refine use okE A1 p1 fun es t2 zs H2 e2 s2 A2 r2 p2 => ?_
  refine ⟨r1.length.trans (hn _ _ _ _ e1), r2.length.trans (hn2 _ _ _ _ e2), SC.pure (Fo C.F ρ σ) H2 A2.dom, ds ++ es, (), trivial, ⟨Stp.refl _ _, fun _ _ _ e => e⟩, Reps.append (r1.same (s2.mono fun _ => Fo.base)) r2, by rw [List.length_append, hn _ _ _ _ e1, hn2 _ _ _ _ e2, hj], ?_⟩
  cases e : m (ds ++ es) () with
  | ok d u =>
    rw [e] at p2
    exact fun v H' s i r => p2 v H' (Sm.of_same (SC.pure_same i)) (C.stay A2.st (SC.pure_same i)) r
  | ex n fs u => rw [e] at p2; exact p2.elim
  | bad => rw [e] at p2; exact p2.elim
theorem me_callK {k np i : Nat} {x : Str} {ks : List Str} {m : List D → Unit → Res Unit D} {e : Expr} {es : List Expr} {kws : List Keyword} {p pos : Pos} {a b : ME τ (List D)} (Df : DefK X.prog X.w X.K X.mg X.base k x np i ks m) (hr : Room k X.A) (hg : Gl X x) (hn : ALen a i) (hn2 : ALen b ks.length)
    (ha : PA X (e :: es) (tA X.K W a)) (hk : PK X kws (tA X.K W b)) (hall : (backToKw pos (keywordEach kws X.env)).all (·.1.isSome) = true := by rfl) (hks : (backToKw pos (keywordEach kws X.env)).filterMap (·.1) = ks := by rfl)
    (hdb : (x == ("__debug__" : Str)) = false := by decide) (hj : i + ks.length = np := by rfl) (he : starEach (e :: es) X.env = (false, eval e X.env) :: starEach es X.env := by rfl)
    (hpl : ((backTo pos (starEach (e :: es) X.env)).any (·.1) || (backToKw pos (keywordEach kws X.env)).any (·.1.isNone)) = false := by rfl) :
    PE X (.Call (.Name x p) (e :: es) kws pos) (tE X.K W (eCallK m a b)) := by
  obtain ⟨fd, ps, F, hm, hkp, hb⟩ := Df.ex
  refine PE.imp (pe_callN F hr hg hm hkp hb (fun pins σ H s e s' I h => ?_) ha hk hall hks hdb he hpl) fun _ _ _ p => callK_red hn hn2 hj p
  obtain ⟨_, _, _, _, _, _, _, _, _, _, _, _, z⟩ := h
  exact z.elim
/-- .. that may read lists which are still to be changed -/
def eCallKW (m : List D → Unit → Res Unit D) (a b : ME τ (List D)) : ME τ D := fun ρ t => (a ρ t).bind fun ds t => (b ρ t).bind fun es t => match m (ds ++ es) () with
  | .ok d _ => if hard d = true then .ok d t else .bad
  | _ => .bad
theorem callKW_red {np i j : Nat} {m : List D → Unit → Res Unit D} {a b : ME τ (List D)} {σ : St} {H : Hp} {Q : VK} (hn : ALen a i) (hn2 : ALen b j) (hj : i + j = np) (p : tE K W (eCallKW m a b) σ H Q) :
    tCallN i j (spF np K m) (fun vs zs => vs ++ zs) (fun _ _ _ => False) (tAW K W a) (tA K W b) σ H Q := by
  obtain ⟨C, ρ, t, A, p⟩ := p
  refine use okE A p fun ds t1 vs H1 e1 s1 A1 r1 p1 => ?_
  refine use okE A1 p1 fun es t2 zs H2 e2 s2 A2 r2 p2 => ?_
  have rv : Reps K C.F H2 vs ds := (r1.lend fun _ => Fo.base).same s2
  have dmC : Dom C.F H2 := fun b h => A2.dom b (.inl h)
  refine ⟨rv.length.trans (hn _ _ _ _ e1), r2.length.trans (hn2 _ _ _ _ e2), SC.pure C.F H2 dmC, ds ++ es, (), trivial, ⟨Stp.refl _ _, fun _ _ _ e => e⟩, Reps.append rv (r2.anti fun _ => Fo.base), by rw [List.length_append, hn _ _ _ _ e1, hn2 _ _ _ _ e2, hj], ?_⟩
  cases e : m (ds ++ es) () with
  | ok d u =>
    rw [e] at p2
    dsimp only at p2
    split at p2
    · rename_i hh
      intro v H' s i r
      have sm := SC.pure_same i
      refine p2 v H' (Sm.of_same sm) (C.stay A2.st sm) (Rep.hard r hh fun b hb => ?_)
      rcases hb with hb | hb
      · exact .inl hb
      · obtain ⟨_, u, q, q2⟩ := A2.ownAt b hb
        exact .inr ⟨u, sm _ _ q, q2⟩
    · exact p2.elim
  | ex n fs u => rw [e] at p2; exact p2.elim
  | bad => rw [e] at p2; exact p2.elim
theorem me_callKW {k np i : Nat} {x : Str} {ks : List Str} {m : List D → Unit → Res Unit D} {e : Expr} {es : List Expr} {kws : List Keyword} {p pos : Pos} {a b : ME τ (List D)} (Df : DefK X.prog X.w X.K X.mg X.base k x np i ks m) (hr : Room k X.A) (hg : Gl X x) (hn : ALen a i) (hn2 : ALen b ks.length)
    (ha : PA X (e :: es) (tAW X.K W a)) (hk : PK X kws (tA X.K W b)) (hall : (backToKw pos (keywordEach kws X.env)).all (·.1.isSome) = true := by rfl) (hks : (backToKw pos (keywordEach kws X.env)).filterMap (·.1) = ks := by rfl)
    (hdb : (x == ("__debug__" : Str)) = false := by decide) (hj : i + ks.length = np := by rfl) (he : starEach (e :: es) X.env = (false, eval e X.env) :: starEach es X.env := by rfl)
    (hpl : ((backTo pos (starEach (e :: es) X.env)).any (·.1) || (backToKw pos (keywordEach kws X.env)).any (·.1.isNone)) = false := by rfl) :
    PE X (.Call (.Name x p) (e :: es) kws pos) (tE X.K W (eCallKW m a b)) := by
  obtain ⟨fd, ps, F, hm, hkp, hb⟩ := Df.ex
  refine PE.imp (pe_callN F hr hg hm hkp hb (fun pins σ H s e s' I h => ?_) ha hk hall hks hdb he hpl) fun _ _ _ p => callKW_red hn hn2 hj p
  obtain ⟨_, _, _, _, _, _, _, _, _, _, _, _, z⟩ := h
  exact z.elim
/-- all the keyword-only parameters are written -/
theorem FunD.bindsK {x qual : Str} {params : Arguments} {body : List Stmt} {scope : Scope} {kws : List (Str × V)} {f : Addr} {fd : FuncData} {ps ks : List Str} {n : Nat} (F : FunD K x qual params body scope [] kws f fd) (hn : n + ks.length = ps.length)
    (h : ∀ (kV doc pm : Value) (an : Option Addr) (cdv ct : Value) (us ws : List Value), us.length = n → ws.length = ks.length → bindArgs (PySem.W.fnOf x qual params body scope .none kV doc pm an cdv ct) ⟨us, ks.zip ws⟩ = pure (ps.zip (us ++ ws))) :
    KBn K fd ps n ks (fun us ws => us ++ ws) (fun vs zs => vs ++ zs) := by
  obtain ⟨oc, od, dV, kV, doc, pm, an, cdv, ct, osl, rfl, lk, hcd, hD, hK⟩ := F.ex
  rcases hD with ⟨_, rfl⟩ | ⟨e, _⟩
  · exact ⟨fun s us ws X h1 h2 => .of_eq (h kV doc pm an cdv ct us ws h1 h2), fun r1 r2 => r1.append r2⟩
  · exact absurd rfl e
/-! without arguments -/
def eCall0 (m : List D → Unit → Res Unit D) (df : List D) : ME τ D := fun _ t => match m df () with
  | .ok d _ => .ok d t
  | _ => .bad
theorem me_call0 {k np : Nat} {x : Str} {df : List D} {m : List D → Unit → Res Unit D} {p pos : Pos} (Df : Def X.prog X.w X.K X.mg X.base k x np df m) (hr : Room k X.A) (hg : Gl X x)
    (hdb : (x == ("__debug__" : Str)) = false := by decide) (hj : df.length = np := by rfl) :
    PE X (.Call (.Name x p) [] [] pos) (tE X.K W (eCall0 (τ := τ) m df)) := by
  obtain ⟨fd, ps, ds, dvs, F, hm, hk, hb, hd, hdf⟩ := Df.ex
  refine PE.imp (pe_call0 (E := fun _ _ _ => False) F hr hg hm hk hb hd (fun pins σ H s e s' I h => ?_) hdb) fun σ H Q ⟨C, ρ, t, A, p⟩ => ?_
  · obtain ⟨_, _, _, _, _, _, _, _, _, _, _, _, z⟩ := h
    exact z.elim
  · refine ⟨SC.pure (Fo C.F ρ σ) H A.dom, df, (), trivial, ⟨Stp.refl _ _, fun _ _ _ e => e⟩, hdf _ _, hj, ?_⟩
    unfold eCall0 at p
    cases e : m df () with
    | ok d u =>
      rw [e] at p
      exact fun v H' s i r => p v H' (Sm.of_same (SC.pure_same i)) (C.stay A.st (SC.pure_same i)) r
    | ex n fs u => rw [e] at p; exact p.elim
    | bad => rw [e] at p; exact p.elim
end
section
variable {τ : Type} {ρ : Rho} {t : τ} {Q : List D → τ → Prop} {X : Str → Fds → τ → Prop} {g : Tgt} {tt : ME τ Bool} {te : ME τ D}
/-- the slot is no list of one's own -/
def Slot.nown : Slot → Bool
  | .own _ => false
  | .dct .. => false
  | _ => true
@[simp] theorem nown_no : Slot.nown .no = true := rfl
@[simp] theorem nown_val {d : D} : Slot.nown (.val d) = true := rfl
@[simp] theorem wipeR_nil : wipeR ρ [] = ρ := rfl
@[simp] theorem wipeR_cons {u : Nat} {us : List Nat} : wipeR ρ (u :: us) = (wipeR ρ us).set u .no := rfl
@[simp] theorem noOwn_nil : noOwn ρ [] = true := rfl
@[simp] theorem noOwn_cons {u : Nat} {us : List Nat} : noOwn ρ (u :: us) = ((match ρ[u]? with | some s => s.nown | none => true) && noOwn ρ us) := by
  unfold noOwn
  rw [List.all_cons]
  congr 1
  cases ρ[u]? with
  | none => rfl
  | some s => cases s <;> rfl
@[simp] theorem oE_noEx {α : Type} {r : Res τ α} {Q : α → τ → Prop} : oE (noEx r) Q X = oE r Q (fun _ _ _ => False) := by cases r <;> rfl
@[simp] theorem oE_comp {mi : ME τ (List D)} {vs : List Nat} : oE (eComp mi vs g tt te ρ t) Q X = oE (mi ρ t) (fun ds t => (ds.length ≤ 16777216 ∧ noOwn ρ vs = true) ∧ oE (compL g tt te (wipeR ρ vs) ds t) Q X) X := by
  unfold eComp; rw [oE_bind]; congr; funext ds t
  by_cases h : ds.length ≤ 16777216 ∧ noOwn ρ vs = true
  · rw [if_pos h]; simp only [h, and_self, true_and]
  · rw [if_neg h]; simp only [oE_bad, h, false_and]
theorem oE_compNil : oE (compL g tt te ρ [] t) Q X = Q [] t := rfl
theorem oE_compCons {d : D} {ds : List D} : oE (compL g tt te ρ (d :: ds) t) Q X = ∃ ρ1, g ρ d = some ρ1 ∧ oE (tt ρ1 t) (fun b t => (b = true → oE (te ρ1 t) (fun y t => oE (compL g tt te ρ ds t) (fun ys t => Q (y :: ys) t) X) (fun _ _ _ => False)) ∧ (¬ b = true → oE (compL g tt te ρ ds t) Q X)) (fun _ _ _ => False) := by
  rw [show compL g tt te ρ (d :: ds) t = (match g ρ d with
    | some ρ1 => (noEx (tt ρ1 t)).bind fun b t => if b = true then (noEx (te ρ1 t)).bind fun y t => (compL g tt te ρ ds t).bind fun ys t => .ok (y :: ys) t else compL g tt te ρ ds t
    | none => .bad) from rfl]
  cases e : g ρ d with
  | none => simp
  | some ρ1 =>
    simp only [Option.some.injEq, exists_eq_left']
    cases tt ρ1 t with
    | ok b t1 =>
      simp only [noEx, Res.bind_ok, oE_ite, oE_ok]
      cases te ρ1 t1 with
      | ok y t2 => simp
      | ex n fs t2 => simp
      | bad => simp
    | ex n fs t1 => rfl
    | bad => rfl
@[simp] theorem fLst_lst {ds : List D} : fLst [.lst ds] = some ds := rfl
@[simp] theorem fLst_tup {ds : List D} : fLst [.tup ds] = some ds := rfl
@[simp] theorem fTup_lst {ds : List D} : fTup [.lst ds] = some (.tup ds) := rfl
@[simp] theorem fTup_tup {ds : List D} : fTup [.tup ds] = some (.tup ds) := rfl
end
section
variable {τ : Type} {P : Pt τ} {ρ : Rho} {t : τ}
@[simp] theorem oS_setI {i : Nat} {me mi : ME τ D} : oS (sSetI i me mi ρ t) P = (match ρ[i]? with | some (.own xs) => oE (me ρ t) (fun d t => oE (mi ρ t) (fun k t => ∃ j, k = .int j ∧ ∃ n, ixN xs.length j = some n ∧ P.nx (ρ.set i (.own (xs.set n d))) t) (fun n fs t => P.ex n fs ρ t)) (fun n fs t => P.ex n fs ρ t) | _ => False) := by
  have key : ∀ o : Option Slot, oS ((match o with
      | some (.own xs) => sDo me (fun d ρ t => sDo mi (fun k ρ t => match k with
        | .int k => match ixN xs.length k with
          | some j => .nx (ρ.set i (.own (xs.set j d))) t
          | none => .bad
        | _ => .bad) ρ t) ρ t
      | _ => .bad) : Fl τ) P = (match o with | some (.own xs) => oE (me ρ t) (fun d t => oE (mi ρ t) (fun k t => ∃ j, k = .int j ∧ ∃ n, ixN xs.length j = some n ∧ P.nx (ρ.set i (.own (xs.set n d))) t) (fun n fs t => P.ex n fs ρ t)) (fun n fs t => P.ex n fs ρ t) | _ => False) := fun o => by
    cases o with
    | none => rfl
    | some s =>
      cases s with
      | no => rfl
      | val d => rfl
      | dct _ _ => rfl
      | own xs =>
        dsimp only
        rw [oS_do]
        congr; funext d t
        rw [oS_do]
        congr; funext k t
        cases k <;> try (simp only [oS_bad, reduceCtorEq, false_and, exists_false])
        rename_i j
        cases e : ixN xs.length j <;> simp [e]
  exact key (ρ[i]?)
@[simp] theorem oS_asgS {i n : Nat} {gs : Tgts} {m : ME τ D} : oS (sAsg (gStar i n gs) m ρ t) P = oE (m ρ t) (fun d t => ∃ ρ', gStar i n gs ρ d = some ρ' ∧ P.nx ρ' t) (fun n fs t => P.ex n fs ρ t) := oS_asgG
@[simp] theorem gStar_lst {i n : Nat} {gs : Tgts} {ds : List D} : gStar i n gs ρ (.lst ds) = (starD ds i n).bind fun es => gs ρ es := rfl
@[simp] theorem gStar_tup {i n : Nat} {gs : Tgts} {ds : List D} : gStar i n gs ρ (.tup ds) = (starD ds i n).bind fun es => gs ρ es := rfl
theorem star12 {x : D} {xs : List D} (h : xs.length < 16384) : starD (x :: xs) 1 2 = some [x, .lst xs] := by
  unfold starD
  rw [List.length_cons, if_pos (by omega)]
  simp [show xs.length + 1 + 1 - 2 = xs.length by omega]
end
section
variable {τ : Type} {ρ : Rho} {t : τ} {X : Str → Fds → τ → Prop}
@[simp] theorem oE_callK [Sto τ] {m : List D → Unit → Res Unit D} {a b : ME τ (List D)} {Q : D → τ → Prop} : oE (eCallK m a b ρ t) Q X = oE (a ρ t) (fun ds t => oE (b ρ t) (fun es t => oE (m (ds ++ es) ()) (fun d _ => Q d t) (fun _ _ _ => False)) X) X := by
  unfold eCallK; simp only [oE_bind]; congr; funext ds t; congr; funext es t
  cases e : m (ds ++ es) () <;> rfl
@[simp] theorem oE_callKW {m : List D → Unit → Res Unit D} {a b : ME τ (List D)} {Q : D → τ → Prop} : oE (eCallKW m a b ρ t) Q X = oE (a ρ t) (fun ds t => oE (b ρ t) (fun es t => oE (m (ds ++ es) ()) (fun d _ => hard d = true ∧ Q d t) (fun _ _ _ => False)) X) X := by
  unfold eCallKW; simp only [oE_bind]; congr; funext ds t; congr; funext es t
  cases e : m (ds ++ es) () with
  | ok d u => by_cases h : hard d = true <;> simp [h]
  | ex n fs u => rfl
  | bad => rfl
@[simp] theorem oE_call0 {m : List D → Unit → Res Unit D} {df : List D} {Q : D → τ → Prop} : oE (eCall0 m df ρ t) Q X = oE (m df ()) (fun d _ => Q d t) (fun _ _ _ => False) := by
  unfold eCall0
  cases e : m df () <;> rfl
end
end MM

/-! M20: zip(a, b, strict=True) of two lists or tuples of one length. -/
namespace MM
open PySem PySem.Spec PyProof.Rows L2 RZ
open PySem.Builtin (SmallTypes.nextOrEnd)
/-- kd: is it a tuple's -/
def SIt (kd : Bool) (h : Heap) (i l : Addr) (k : Nat) : Prop := match kd with
  | true => h.IsTupleIter i l k
  | false => h.IsListIter i l k
def SSq (kd : Bool) (h : Heap) (l : Addr) (xs : Array Value) : Prop := match kd with
  | true => h.IsTuple l xs
  | false => h.IsList l xs
abbrev IsZipS (h : Heap) (z TI TO : Addr) (f0 : Value) : Prop := h.get? z = some { cls := .type "zip", dict := none, data := .fields #[f0, .bool false, .bool true, .ref TI, .ref TO], slots := #[] }
section
variable {prog : Program} {w : World} {A : Around} {E : Value → Shared → Prop} {s : Shared} {kd : Bool} {h h' : Heap} {i l : Addr} {k : Nat} {xs : Array Value}
theorem SIt.at (x : SIt kd h i l k) (e : ∀ o, h.get? i = some o → h'.get? i = some o) : SIt kd h' i l k := by
  cases kd with
  | true => obtain ⟨o, h1, h2⟩ := x; exact ⟨o, e o h1, h2⟩
  | false => obtain ⟨o, h1, h2⟩ := x; exact ⟨o, e o h1, h2⟩
theorem SSq.at (x : SSq kd h l xs) (e : ∀ o, h.get? l = some o → h'.get? l = some o) : SSq kd h' l xs := by
  cases kd with
  | true => obtain ⟨o, h1, h2⟩ := x; exact ⟨o, e o h1, h2⟩
  | false => obtain ⟨o, h1, h2⟩ := x; exact ⟨o, e o h1, h2⟩
theorem SIt.ex (x : SIt kd h i l k) : ∃ o, h.get? i = some o ∧ ∀ v, o.data ≠ .cell v := by
  cases kd with
  | true => obtain ⟨o, h1, h2, h3⟩ := x; exact ⟨o, h1, fun v q => by rw [h3] at q; cases q⟩
  | false => obtain ⟨o, h1, h2, h3⟩ := x; exact ⟨o, h1, fun v q => by rw [h3] at q; cases q⟩
theorem nOE_item {x : Value} {Q : Option Value → Shared → Prop} (hi : SIt kd s.heap i l k) (hs : SSq kd s.heap l xs) (hx : xs[k]? = some x) (hQ : ∀ h', SIt kd h' i l (k + 1) → Heap.SameBut i s.heap h' → Q (some x) { s with heap := h' }) :
    wpAny (model prog w) A (SmallTypes.nextOrEnd (.ref i)) Q E s := by
  unfold SmallTypes.nextOrEnd
  cases kd with
  | false => exact wpAny_bind (wpAny_attempt (wpAny_nextOf_list_item hi hs hx fun h' a b => wpAny_pure (hQ h' a b)))
  | true => exact wpAny_bind (wpAny_attempt (nextOf_tuple_item hi hs hx fun h' a b => wpAny_pure (hQ h' a b)))
theorem nOE_end {Q : Option Value → Shared → Prop} (hh : A.handled = none) (hi : SIt kd s.heap i l k) (hs : SSq kd s.heap l xs) (hx : xs[k]? = none) (hQ : ∀ h', Heap.ExtBut i s.heap h' → Q none { s with heap := h' }) :
    wpAny (model prog w) A (SmallTypes.nextOrEnd (.ref i)) Q E s := by
  unfold SmallTypes.nextOrEnd
  have fin : ∀ (h' : Heap) (e : Addr), Heap.ExtBut i s.heap h' → (∃ o, h'.get? e = some o ∧ o.cls = .type "StopIteration") → wpAny (model prog w) A (do if ← isInstance (.ref e) (.type "StopIteration") then pure none else throw (.ref e)) Q E { s with heap := h' } := fun h' e a b => by
    obtain ⟨o, ho, hc⟩ := b
    refine wpAny_bind (wpAny_isInstance (T := "StopIteration") (b := true) ⟨o, ho, hc⟩ isSubtype_stop ?_)
    exact wpAny_pure (hQ h' a)
  cases kd with
  | false => exact wpAny_bind (wpAny_attempt (wpAny_nextOf_list_end hh hi hs hx fun h' e a b => fin h' e a b))
  | true => exact wpAny_bind (wpAny_attempt (nextOf_tuple_end hh hi hs hx fun h' e a b => fin h' e a b))
/-- apart from one another -/
structure ApS (z TI TO i1 i2 l1 l2 : Addr) : Prop where
  d : ZipApart z TI TO i1 i2 l1 l2
theorem zipS_item {z TI TO i1 i2 l1 l2 : Addr} {k1 k2 : Bool} {n : Nat} {xs ys : Array Value} {x y a b : Value} {Q : Value → Shared → Prop} (D : ZipApart z TI TO i1 i2 l1 l2)
    (hz : IsZipS s.heap z TI TO .none) (hTI : IsPair s.heap TI (.ref i1) (.ref i2)) (hTO : IsPair s.heap TO a b)
    (h1 : SIt k1 s.heap i1 l1 n) (h2 : SIt k2 s.heap i2 l2 n) (s1 : SSq k1 s.heap l1 xs) (s2 : SSq k2 s.heap l2 ys) (hx : xs[n]? = some x) (hy : ys[n]? = some y)
    (hQ : ∀ h', IsZipS h' z TI TO (rawInt s.heap.objs.size) → IsPair h' TO x y → SIt k1 h' i1 l1 (n + 1) → SIt k2 h' i2 l2 (n + 1) → IsPair h' s.heap.objs.size x y → h'.objs.size = s.heap.objs.size + 1 →
      (∀ c o, c ≠ z → c ≠ TO → c ≠ i1 → c ≠ i2 → s.heap.get? c = some o → h'.get? c = some o) → Q (.ref s.heap.objs.size) { s with heap := h' }) :
    wpAny (model prog w) A (Builtin.«zip.__next__» ⟨[.ref z], []⟩) (fun fin s' => ∃ v, fin = .done (.ret v) ∧ Q v s') E s := by
  show wpAny _ _ (field (.ref z) 2 >>= _) _ _ _
  refine wpAny_bind (wpAny_field hz rfl (x := .bool true) rfl ?_)
  show wpAny _ _ (field (.ref z) 3 >>= _) _ _ _
  refine wpAny_bind (wpAny_field hz rfl (x := .ref TI) rfl (wpAny_bind (wpAny_seqItems hTI rfl ?_)))
  show wpAny _ _ (Builtin.SmallTypes.ownedTupleIsFree (.ref z) >>= _) _ _ _
  unfold Builtin.SmallTypes.ownedTupleIsFree
  refine wpAny_bind (wpAny_bind (wpAny_field hz rfl (x := .none) rfl (wpAny_pure ?_)))
  simp only [if_true]
  refine wpAny_bind (wpAny_rule (wpAny_bind (wpAny_field hz rfl (x := .ref TO) rfl (wpAny_bind (wpAny_setField_rec hz (by simp) fun g1 z1 b1 => ?_)))))
  replace z1 : IsZipS g1 z TI TO .ellipsis := z1
  simp only [List.zipIdx_cons, List.zipIdx_nil, List.forIn_cons, List.forIn_nil]
  refine wpAny_bind (wpAny_bind (wpAny_bind (wpAny_onRaise ?_)))
  show wpAny _ _ (SmallTypes.nextOrEnd (.ref i1)) _ _ _
  refine nOE_item (h1.at fun o e => b1.extBut _ _ D.i1z e) (s1.at fun o e => b1.extBut _ _ D.l1z e) hx fun g2 it2 b2 => ?_
  have t2 : IsPair g2 TO a b := b2.extBut _ _ D.TOi1 (b1.extBut _ _ D.TOz hTO)
  dsimp only
  refine wpAny_bind (wpAny_seqItems t2 rfl (wpAny_bind (wpAny_updateSeq_pair t2 fun g3 t3 b3 => ?_)))
  replace t3 : IsPair g3 TO x b := t3
  refine wpAny_bind (wpAny_letGo (wpAny_pure ?_))
  refine wpAny_bind (wpAny_bind (wpAny_onRaise ?_))
  show wpAny _ _ (SmallTypes.nextOrEnd (.ref i2)) _ _ _
  refine nOE_item (h2.at fun o e => b3.extBut _ _ D.TOi2.symm (b2.extBut _ _ D.i12.symm (b1.extBut _ _ D.i2z e))) (s2.at fun o e => b3.extBut _ _ D.l2TO (b2.extBut _ _ D.l2i1 (b1.extBut _ _ D.l2z e))) hy fun g4 it4 b4 => ?_
  have t4 : IsPair g4 TO x b := b4.extBut _ _ D.TOi2 t3
  dsimp only
  refine wpAny_bind (wpAny_seqItems t4 rfl (wpAny_bind (wpAny_updateSeq_pair t4 fun g5 t5 b5 => ?_)))
  replace t5 : IsPair g5 TO x y := t5
  refine wpAny_bind (wpAny_letGo (wpAny_pure (wpAny_pure ?_)))
  refine wpAny_bind (wpAny_seqItems t5 rfl (wpAny_bind (wpAny_newTuple ?_)))
  have sz5 : g5.objs.size = s.heap.objs.size := by rw [b5.1, b4.1, b3.1, b2.1, b1.1]
  have z5 : IsZipS g5 z TI TO .ellipsis := b5.extBut _ _ D.TOz.symm (b4.extBut _ _ D.i2z.symm (b3.extBut _ _ D.TOz.symm (b2.extBut _ _ D.i1z.symm z1)))
  have k5 : ∀ c o, c ≠ z → c ≠ TO → c ≠ i1 → c ≠ i2 → s.heap.get? c = some o → g5.get? c = some o := fun c o c1 c2 c3 c4 e => b5.extBut _ _ c2 (b4.extBut _ _ c4 (b3.extBut _ _ c2 (b2.extBut _ _ c3 (b1.extBut _ _ c1 e))))
  have i5 : SIt k1 g5 i1 l1 (n + 1) := it2.at fun o e => b5.extBut _ _ D.TOi1.symm (b4.extBut _ _ D.i12 (b3.extBut _ _ D.TOi1.symm e))
  have j5 : SIt k2 g5 i2 l2 (n + 1) := it4.at fun o e => b5.extBut _ _ D.TOi2.symm e
  have zl : z < g5.objs.size := Heap.lt_size z5
  show wpAny _ _ (Builtin.SmallTypes.ownedTupleHandOut (.ref z) (.ref g5.objs.size) >>= _) _ _ _
  unfold Builtin.SmallTypes.ownedTupleHandOut
  have z6 : IsZipS (g5.push { cls := .type "tuple", data := .seq #[x, y] }) z TI TO .ellipsis := Heap.get?_push_of_some _ z5
  refine wpAny_bind (wpAny_bind (wpAny_setField_rec z6 (by simp) fun g7 z7 b7 => ?_))
  replace z7 : IsZipS g7 z TI TO (rawInt g5.objs.size) := z7
  refine wpAny_setField_rec z7 (by simp) fun g8 z8 b8 => ?_
  replace z8 : IsZipS g8 z TI TO (rawInt g5.objs.size) := z8
  have up : ∀ c o, c ≠ z → g5.get? c = some o → g8.get? c = some o := fun c o c1 e => b8.extBut _ _ c1 (b7.extBut _ _ c1 (Heap.get?_push_of_some _ e))
  have new : IsPair g8 g5.objs.size x y := b8.extBut _ _ (Nat.ne_of_gt zl) (b7.extBut _ _ (Nat.ne_of_gt zl) (Heap.get?_push_size _ rfl))
  have sz8 : g8.objs.size = g5.objs.size + 1 := by rw [b8.1, b7.1, Heap.size_push]
  rw [sz5] at z8 new sz8
  refine wpAny_pure ⟨_, rfl, ?_⟩
  show Q (.ref g5.objs.size) _
  rw [sz5]
  exact hQ g8 z8 (up _ _ D.TOz t5) (i5.at fun o e => up _ o D.i1z e) (j5.at fun o e => up _ o D.i2z e) new sz8 fun c o c1 c2 c3 c4 e => up c o c1 (k5 c o c1 c2 c3 c4 e)
theorem zipS_end {z TI TO i1 i2 l1 l2 : Addr} {k1 k2 : Bool} {n : Nat} {xs ys : Array Value} {a b : Value} {Q : Fin → Shared → Prop} (hh : A.handled = none) (D : ZipApart z TI TO i1 i2 l1 l2)
    (hz : IsZipS s.heap z TI TO .none) (hTI : IsPair s.heap TI (.ref i1) (.ref i2)) (hTO : IsPair s.heap TO a b)
    (h1 : SIt k1 s.heap i1 l1 n) (h2 : SIt k2 s.heap i2 l2 n) (s1 : SSq k1 s.heap l1 xs) (s2 : SSq k2 s.heap l2 ys) (hx : xs[n]? = none) (hy : ys[n]? = none)
    (hE : ∀ h' e, (∀ c o, c ≠ z → c ≠ TO → c ≠ i1 → c ≠ i2 → s.heap.get? c = some o → h'.get? c = some o) → (∃ o, h'.get? e = some o ∧ o.cls = .type "StopIteration") → E (.ref e) { s with heap := h' }) :
    wpAny (model prog w) A (Builtin.«zip.__next__» ⟨[.ref z], []⟩) Q E s := by
  show wpAny _ _ (field (.ref z) 2 >>= _) _ _ _
  refine wpAny_bind (wpAny_field hz rfl (x := .bool true) rfl ?_)
  show wpAny _ _ (field (.ref z) 3 >>= _) _ _ _
  refine wpAny_bind (wpAny_field hz rfl (x := .ref TI) rfl (wpAny_bind (wpAny_seqItems hTI rfl ?_)))
  show wpAny _ _ (Builtin.SmallTypes.ownedTupleIsFree (.ref z) >>= _) _ _ _
  unfold Builtin.SmallTypes.ownedTupleIsFree
  refine wpAny_bind (wpAny_bind (wpAny_field hz rfl (x := .none) rfl (wpAny_pure ?_)))
  simp only [if_true]
  refine wpAny_bind (wpAny_rule (wpAny_bind (wpAny_field hz rfl (x := .ref TO) rfl (wpAny_bind (wpAny_setField_rec hz (by simp) fun g1 z1 b1 => ?_)))))
  replace z1 : IsZipS g1 z TI TO .ellipsis := z1
  simp only [List.zipIdx_cons, List.zipIdx_nil, List.forIn_cons, List.forIn_nil]
  refine wpAny_bind (wpAny_bind (wpAny_bind (wpAny_onRaise ?_)))
  show wpAny _ _ (SmallTypes.nextOrEnd (.ref i1)) _ _ _
  refine nOE_end hh (h1.at fun o e => b1.extBut _ _ D.i1z e) (s1.at fun o e => b1.extBut _ _ D.l1z e) hx fun g2 b2 => ?_
  dsimp only
  have z2 : IsZipS g2 z TI TO .ellipsis := b2 _ _ D.i1z.symm z1
  refine wpAny_bind (wpAny_setField_rec z2 (by simp) fun g3 z3 b3 => ?_)
  refine wpAny_bind ?_
  show wpAny _ _ (forIn [(Value.ref i2, 1)] _ _ >>= _) _ _ _
  simp only [List.forIn_cons, List.forIn_nil]
  refine wpAny_bind (wpAny_bind (wpAny_bind ?_))
  refine nOE_end (s := { s with heap := g3 }) hh (h2.at fun o e => b3.extBut _ _ D.i2z (b2 _ _ D.i12.symm (b1.extBut _ _ D.i2z e))) (s2.at fun o e => b3.extBut _ _ D.l2z (b2 _ _ D.l2i1 (b1.extBut _ _ D.l2z e))) hy fun g4 b4 => ?_
  dsimp only [Option.isSome]
  simp only [Bool.false_eq_true, if_false]
  refine wpAny_pure (wpAny_pure (wpAny_bind (wpAny_rule ?_)))
  show wpAny _ _ (newExc (.type "StopIteration") [] >>= _) _ _ _
  refine wpAny_bind ?_
  simp only [newExc, newTuple]
  refine wpAny_bind (wpAny_newObj_type ?_ (by size_fits))
  refine wpAny_bind (m := firstArgMember _ _) (wpAny_of_eq (a := Value.none) (by first | rfl | (simp only [firstArgMember]; rfl)) ?_)
  refine wpAny_newObj_type ?_ (by size_fits)
  simp only [raiseNew]
  refine wpAny_bind (wpAny_handled ?_)
  first | rw [show A.in1.handled = none from hh] | rw [hh]
  refine wpAny_bind (wpAny_pure (wpAny_throw ?_))
  refine hE _ _ (fun c o c1 c2 c3 c4 e => Heap.get?_push_of_some _ (Heap.get?_push_of_some _ (b4 _ _ c4 (b3.extBut _ _ c1 (b2 _ _ c3 (b1.extBut _ _ c1 e)))))) ⟨_, Heap.get?_push_size _ rfl, rfl⟩

/-! ### its making -/
theorem callTypeKw {T newId initId : String} {Bn Bi : Builtin} {args : List Value} {kw : List (Str × Value)} {S : PySem.Spec} {Q Q₁ : Value → Shared → Prop} (ft : TypeCalled T newId initId) (hct : checkTypeCall T ⟨args, kw⟩ = pure ())
    (hcn : checkBuiltinCall newId ⟨.type T :: args, kw⟩ = pure ()) (eN : entryFor table newId = some Bn) (eI : entryFor table initId = some Bi) (g : Meets (Bn ⟨.type T :: args, kw⟩) S) (h : S A.in1 (wants Q₁ E) s)
    (nx : ∀ obj s₁, Q₁ obj s₁ → s₁.TypeIs obj T ∧ argsOk initId ⟨obj :: args, kw⟩ ∧ ∃ Si, Meets (Bi ⟨obj :: args, kw⟩) Si ∧ Si A.in1 (wants (fun r s₂ => r = .none ∧ Q obj s₂) E) s₁) :
    wpAny (model prog w) A (call (.type T) args kw) Q E s := by
  obtain ⟨c, tl, hmro⟩ := ft.mro; have hmade := ft.made; have hsub := ft.sub
  refine wpAny_call (codeAny_of_tree ?_); show wpAny _ _ (callAny (.type T) _) _ _ _
  refine wpAny_pure ⟨Code.quiet_builtin _ (by decide +kernel), codeAny_builtin F.entry_type_call ?_⟩; rw [Around.under_plain (weight_type_call_type T args kw) (units_type_call_type T args kw)]
  have h1 := ft.notType; have h2 := ft.canCreate
  repeat (any_goals (first | assumption | wp_step))
  refine codeAny_mono (codeAny_call_builtin ft.plain eN (wpAny_of_eq hcn (g prog w A.in1 _ s h))) fun r s₁ hr => ?_
  cases r with
  | error e => exact hr
  | ok fl =>
    cases fl with
    | ret obj =>
      obtain ⟨hT, hok, Si, gi, hsi⟩ := nx _ _ hr
      have hli := ft.init.lookup; have hbi := ft.init.bind obj
      repeat (any_goals (first | assumption | wp_step))
      refine codeAny_mono (codeAny_call_builtin ft.init.plain eI (ft.init.check _ _ _ _ _ _ _ _ hT hok (gi prog w A.in1 _ s₁ hsi))) fun r₂ s₂ hr₂ => ?_
      cases r₂ with
      | error e => exact hr₂
      | ok fl₂ =>
        cases fl₂ with
        | ret r => obtain ⟨rfl, hq⟩ := hr₂; repeat (any_goals (first | assumption | wp_step))
        | _ => exact hr₂.elim
    | _ => exact hr.elim
theorem objInitKw {T newId : String} {self a0 : Value} {rest : List Value} {kw : List (Str × Value)} (hl : typeLookup (.type T) "__init__" = pure (some (.builtin "object.__init__"))) (hm : Bind.madeBy (.type T) = pure (some newId)) (hne : (some newId != some "object.__new__") = true) :
    Meets (Builtin.«object.__init__» ⟨self :: a0 :: rest, kw⟩) (fun _ R s => s.TypeIs self T ∧ R (.ok (.ret .none)) s) := by
  refine Meets.of_wp fun prog w A R s hs => ?_
  obtain ⟨hT, hq⟩ := hs
  repeat (any_goals (first | assumption | wp_step))
  all_goals exact ⟨_, rfl, hq⟩
theorem typeCall_zipS (a b : Value) : checkTypeCall "zip" ⟨[a, b], [("strict", .bool true)]⟩ = pure () := by kernel_rfl
theorem newCall_zipS (a b : Value) : checkBuiltinCall "zip.__new__" ⟨[.type "zip", a, b], [("strict", .bool true)]⟩ = pure () := by kernel_rfl
theorem args_object_init_kw (a b c : Value) : argsOk "object.__init__" ⟨[a, b, c], [("strict", .bool true)]⟩ := by unfold argsOk; rw [signature?_of (id := "object.__init__") (n := ['_', '_', 't', 'i', 'n', 'i', '_', '_']) (o := ['t', 'c', 'e', 'j', 'b', 'o']) (by kernel_rfl) PySem.F.owner_object]; kernel_rfl
def itNm (kd : Bool) : String := if kd = true then "tuple_iterator" else "list_iterator"
abbrev zS1 (k1 : Bool) (h : Heap) (l1 : Addr) : Heap := h.push { cls := .type (itNm k1), data := .fields #[.ref l1, .int 0 0] }
abbrev zS2 (k1 k2 : Bool) (h : Heap) (l1 l2 : Addr) : Heap := (zS1 k1 h l1).push { cls := .type (itNm k2), data := .fields #[.ref l2, .int 0 0] }
abbrev zS3 (k1 k2 : Bool) (h : Heap) (l1 l2 : Addr) : Heap := (zS2 k1 k2 h l1 l2).push { cls := .type "tuple", data := .seq #[.ref h.objs.size, .ref (zS1 k1 h l1).objs.size] }
abbrev zS4 (k1 k2 : Bool) (h : Heap) (l1 l2 : Addr) : Heap := (zS3 k1 k2 h l1 l2).push { cls := .type "tuple", data := .seq #[.none, .none] }
abbrev zS5 (k1 k2 : Bool) (h : Heap) (l1 l2 : Addr) : Heap := (zS4 k1 k2 h l1 l2).push { cls := .type "zip", data := .fields #[.none, .bool false, .bool true, .ref (zS2 k1 k2 h l1 l2).objs.size, .ref (zS3 k1 k2 h l1 l2).objs.size] }
theorem SSq.push {kd : Bool} {h : Heap} {l : Addr} {xs : Array Value} (o : Obj) (x : SSq kd h l xs) : SSq kd (h.push o) l xs := x.at fun _ e => Heap.get?_push_of_some _ e
theorem pyIterX {kd : Bool} {l : Addr} {xs : Array Value} {Q : Value → Shared → Prop} (hl : SSq kd s.heap l xs) (hQ : Q (.ref s.heap.objs.size) { s with heap := s.heap.push { cls := .type (itNm kd), data := .fields #[.ref l, .int 0 0] } }) : wpAny (model prog w) A (pyIter (.ref l)) Q E s := by
  cases kd with
  | true => exact wpAny_pyIter_tuple hl hQ
  | false => exact wpAny_pyIter_list hl hQ
theorem meets_zipS (k1 k2 : Bool) (l1 l2 : Addr) (xs ys : Array Value) :
    Meets (Builtin.«zip.__new__» ⟨[.type "zip", .ref l1, .ref l2], [("strict", .bool true)]⟩) (fun _ R s => SSq k1 s.heap l1 xs ∧ SSq k2 s.heap l2 ys ∧ R (.ok (.ret (.ref (zS4 k1 k2 s.heap l1 l2).objs.size))) { s with heap := zS5 k1 k2 s.heap l1 l2 }) :=
  .of_wp fun prog w A R s h => by
    obtain ⟨hp, g, d, tk, os⟩ := s; obtain ⟨hl1, hl2, h⟩ := h
    have hsub := sub_zip
    have hL1 : SSq k1 (Shared.heap ⟨hp, g, d, tk, os⟩) l1 xs := hl1
    have hL2 : SSq k2 (Shared.heap ⟨hp.push { cls := .type (itNm k1), data := .fields #[.ref l1, .int 0 0] }, g, d, tk, os⟩) l2 ys := SSq.push _ hl2
    wp_walk using pyIterX hL1, pyIterX hL2
    exact ⟨_, rfl, h⟩
theorem SIt.mk0 {kd : Bool} {h : Heap} {i l : Addr} (e : h.get? i = some { cls := .type (itNm kd), data := .fields #[.ref l, .int 0 0] }) : SIt kd h i l 0 := by
  cases kd
  · exact ⟨_, e, rfl, rfl⟩
  · exact ⟨_, e, rfl, rfl⟩
theorem call_zipS {k1 k2 : Bool} {l1 l2 : Addr} {xs ys : Array Value} {Q : Value → Shared → Prop} (hl1 : SSq k1 s.heap l1 xs) (hl2 : SSq k2 s.heap l2 ys)
    (h : ∀ h', IsZipS h' (s.heap.objs.size + 4) (s.heap.objs.size + 2) (s.heap.objs.size + 3) .none → IsPair h' (s.heap.objs.size + 2) (.ref s.heap.objs.size) (.ref (s.heap.objs.size + 1)) → IsPair h' (s.heap.objs.size + 3) .none .none →
      SIt k1 h' s.heap.objs.size l1 0 → SIt k2 h' (s.heap.objs.size + 1) l2 0 → h'.objs.size = s.heap.objs.size + 5 → (∀ c o, s.heap.get? c = some o → h'.get? c = some o) → Q (.ref (s.heap.objs.size + 4)) { s with heap := h' }) :
    wpAny (model prog w) A (call (.type "zip") [.ref l1, .ref l2] [("strict", .bool true)]) Q E s := by
  have z1 : (zS1 k1 s.heap l1).objs.size = s.heap.objs.size + 1 := Heap.size_push ..
  have z2 : (zS2 k1 k2 s.heap l1 l2).objs.size = s.heap.objs.size + 2 := by rw [Heap.size_push, z1]
  have z3 : (zS3 k1 k2 s.heap l1 l2).objs.size = s.heap.objs.size + 3 := by rw [Heap.size_push, z2]
  have z4 : (zS4 k1 k2 s.heap l1 l2).objs.size = s.heap.objs.size + 4 := by rw [Heap.size_push, z3]
  have z5 : (zS5 k1 k2 s.heap l1 l2).objs.size = s.heap.objs.size + 5 := by rw [Heap.size_push, z4]
  have up : ∀ c o, (zS4 k1 k2 s.heap l1 l2).get? c = some o → (zS5 k1 k2 s.heap l1 l2).get? c = some o := fun c o e => Heap.get?_push_of_some _ e
  have g5 : (zS5 k1 k2 s.heap l1 l2).get? (zS4 k1 k2 s.heap l1 l2).objs.size = some { cls := .type "zip", data := .fields #[.none, .bool false, .bool true, .ref (zS2 k1 k2 s.heap l1 l2).objs.size, .ref (zS3 k1 k2 s.heap l1 l2).objs.size] } := Heap.get?_push_size _ rfl
  have g4 : (zS5 k1 k2 s.heap l1 l2).get? (zS3 k1 k2 s.heap l1 l2).objs.size = some { cls := .type "tuple", data := .seq #[.none, .none] } := up _ _ (Heap.get?_push_size _ rfl)
  have g3 : (zS5 k1 k2 s.heap l1 l2).get? (zS2 k1 k2 s.heap l1 l2).objs.size = some { cls := .type "tuple", data := .seq #[.ref s.heap.objs.size, .ref (zS1 k1 s.heap l1).objs.size] } := up _ _ (Heap.get?_push_of_some _ (Heap.get?_push_size _ rfl))
  have g2 : (zS5 k1 k2 s.heap l1 l2).get? (zS1 k1 s.heap l1).objs.size = some { cls := .type (itNm k2), data := .fields #[.ref l2, .int 0 0] } := up _ _ (Heap.get?_push_of_some _ (Heap.get?_push_of_some _ (Heap.get?_push_size _ rfl)))
  have g1 : (zS5 k1 k2 s.heap l1 l2).get? s.heap.objs.size = some { cls := .type (itNm k1), data := .fields #[.ref l1, .int 0 0] } := up _ _ (Heap.get?_push_of_some _ (Heap.get?_push_of_some _ (Heap.get?_push_of_some _ (Heap.get?_push_size _ rfl))))
  refine callTypeKw (Q₁ := fun obj s₁ => s₁.TypeIs obj "zip" ∧ Q obj s₁) F.called_zip (typeCall_zipS _ _) (newCall_zipS _ _) F.entry_zip_new F.entry_object_init (meets_zipS k1 k2 l1 l2 xs ys) ⟨hl1, hl2, ?_⟩ fun obj _ hq =>
    ⟨hq.1, args_object_init_kw obj _ _, _, objInitKw F.called_zip.init.lookup F.called_zip.made (by decide), hq.1, rfl, hq.2⟩
  show _ ∧ _
  rw [z2, z3, z4] at g5; rw [z1, z2] at g3; rw [z3] at g4; rw [z1] at g2; rw [z4]
  exact ⟨⟨_, g5, rfl⟩, h _ g5 g3 g4 (SIt.mk0 g1) (SIt.mk0 g2) z5 fun c o x => up c o (Heap.get?_push_of_some _ (Heap.get?_push_of_some _ (Heap.get?_push_of_some _ (Heap.get?_push_of_some _ x))))⟩
/-! ### its turns -/
theorem pyNext_zipS_item {z TI TO i1 i2 l1 l2 : Addr} {k1 k2 : Bool} {n : Nat} {xs ys : Array Value} {x y a b : Value} {Q : Option Value → Shared → Prop} (D : ZipApart z TI TO i1 i2 l1 l2)
    (hz : IsZipS s.heap z TI TO .none) (hTI : IsPair s.heap TI (.ref i1) (.ref i2)) (hTO : IsPair s.heap TO a b) (h1 : SIt k1 s.heap i1 l1 n) (h2 : SIt k2 s.heap i2 l2 n) (s1 : SSq k1 s.heap l1 xs) (s2 : SSq k2 s.heap l2 ys) (hx : xs[n]? = some x) (hy : ys[n]? = some y)
    (hQ : ∀ h', IsZipS h' z TI TO (rawInt s.heap.objs.size) → IsPair h' TO x y → SIt k1 h' i1 l1 (n + 1) → SIt k2 h' i2 l2 (n + 1) → IsPair h' s.heap.objs.size x y → h'.objs.size = s.heap.objs.size + 1 →
      (∀ c o, c ≠ z → c ≠ TO → c ≠ i1 → c ≠ i2 → s.heap.get? c = some o → h'.get? c = some o) → Q (some (.ref s.heap.objs.size)) { s with heap := h' }) : wpAny (model prog w) A (pyNext (.ref z)) Q E s := by
  have hT : s.TypeIs (.ref z) "zip" := ⟨_, hz, rfl⟩
  unfold pyNext
  exact wpAny_bind (wpAny_attempt (wpAny_callSpecial?_slot (name := Str.ofString "__next__") hT F.slot_zip_next (wpAny_call_entry F.slot_zip_next hT F.entry_zip_next
    (zipS_item D hz hTI hTO h1 h2 s1 s2 hx hy fun h' a1 a2 a3 a4 a5 a6 a7 => wpAny_pure (hQ h' a1 a2 a3 a4 a5 a6 a7)) (F.args_zip_next_1 _))))
theorem pyNext_zipS_end {z TI TO i1 i2 l1 l2 : Addr} {k1 k2 : Bool} {n : Nat} {xs ys : Array Value} {a b : Value} {Q : Option Value → Shared → Prop} (hh : A.handled = none) (D : ZipApart z TI TO i1 i2 l1 l2)
    (hz : IsZipS s.heap z TI TO .none) (hTI : IsPair s.heap TI (.ref i1) (.ref i2)) (hTO : IsPair s.heap TO a b) (h1 : SIt k1 s.heap i1 l1 n) (h2 : SIt k2 s.heap i2 l2 n) (s1 : SSq k1 s.heap l1 xs) (s2 : SSq k2 s.heap l2 ys) (hx : xs[n]? = none) (hy : ys[n]? = none)
    (hQ : ∀ h', (∀ c o, c ≠ z → c ≠ TO → c ≠ i1 → c ≠ i2 → s.heap.get? c = some o → h'.get? c = some o) → Q none { s with heap := h' }) : wpAny (model prog w) A (pyNext (.ref z)) Q E s := by
  have hT : s.TypeIs (.ref z) "zip" := ⟨_, hz, rfl⟩
  unfold pyNext
  refine wpAny_bind (wpAny_attempt (wpAny_callSpecial?_slot (name := Str.ofString "__next__") hT F.slot_zip_next (wpAny_call_entry F.slot_zip_next hT F.entry_zip_next (zipS_end hh D hz hTI hTO h1 h2 s1 s2 hx hy fun h' e hk he => ?_) (F.args_zip_next_1 _))))
  obtain ⟨o, ho, hc⟩ := he
  exact wpAny_bind (wpAny_isInstance (T := "StopIteration") (b := true) ⟨o, ho, hc⟩ isSubtype_stop (wpAny_pure (hQ _ hk)))
theorem letGoS {elts : List Expr} {x1} {pos : Pos} {z TI TO T : Addr} {Q : Unit → Shared → Prop} (hz : IsZipS s.heap z TI TO (rawInt T)) (hQ : ∀ h', IsZipS h' z TI TO .none → Heap.SameBut z s.heap h' → Q () { s with heap := h' }) :
    wpAny (model prog w) A (letOwnedTupleGo (.Tuple elts x1 pos) (.ref z) (.ref T)) Q E s := by
  unfold letOwnedTupleGo
  refine wpAny_bind (wpAny_load hz ?_)
  show wpAny _ _ (if (["enumerate", "zip", "dict_itemiterator", "dict_reverseitemiterator", "odict_iterator", "itertools.zip_longest", "itertools.pairwise"].contains "zip" && (#[rawInt T, .bool false, .bool true, .ref TI, .ref TO] : Array Value)[0]? == some (rawInt T)) = true then _ else _) Q E s
  rw [if_pos (by simp)]
  refine wpAny_bind (wpAny_rule ?_); show wpAny _ _ (setField (.ref z) 0 .none) Q E s
  exact wpAny_setField_rec hz (by simp) fun h' hz' hs' => hQ h' hz' hs'
theorem pyIterS {z TI TO : Addr} {f0 : Value} {Q : Value → Shared → Prop} (hz : IsZipS s.heap z TI TO f0) (h : Q (.ref z) s) : wpAny (model prog w) A (pyIter (.ref z)) Q E s := by
  have hT : s.TypeIs (.ref z) "zip" := ⟨_, hz, rfl⟩
  refine wpAny_pyIter_slot hT F.slot_zip_iter (wpAny_call_entry F.slot_zip_iter hT F.entry_zip_iter ?_ (F.args_zip_iter_1 _))
  show wpAny _ _ (ret (.ref z)) _ _ s; exact wpAny_pure ⟨_, rfl, "zip", _, hT, F.slot_zip_next.lookup, h⟩
end
/-! ### the walk -/
def SqX (kd : Bool) (K : Fg) (H : Hp) (a : Addr) (xs : List V) : Prop := match kd with
  | true => SqT K H a xs
  | false => SqL K H a xs
theorem SqX.sq {kd : Bool} {X : Cx} {pins : List (Addr × Obj)} {σ : L2.St} {H : Hp} {s : Shared} {a : Addr} {xs : List V} (h : SqX kd X.K H a xs) (I : Inv X pins σ H s) : ∃ its : List Value, Vals xs its ∧ SSq kd s.heap a its.toArray ∧ a < s.heap.objs.size := by
  cases kd with
  | true =>
    obtain ⟨its, rv, p, _⟩ := I.tuple h
    obtain ⟨o, ho, _⟩ := id p
    exact ⟨its, rv, p, Heap.lt_size ho⟩
  | false =>
    obtain ⟨its, rv, p, _⟩ := I.list h
    exact ⟨its, rv, p.isList, p.lt⟩
theorem SqX.inj {kd : Bool} {X : Cx} {pins : List (Addr × Obj)} {σ : L2.St} {H : Hp} {s : Shared} {a : Addr} {xs ys : List V} (I : Inv X pins σ H s) (h : SqX kd X.K H a xs) (h2 : SqX kd X.K H a ys) : xs = ys := by
  cases kd with
  | true => exact I.tuple_inj h h2
  | false => exact I.list_inj h h2
def ItzS (k1 k2 : Bool) (K : Fg) (a b : Addr) : It :=
  ⟨fun i H => ∃ (xs ys : List V) (x y : V), SqX k1 K H a xs ∧ SqX k2 K H b ys ∧ xs[i]? = some x ∧ ys[i]? = some y,
    fun i H v H' => ∃ T x y, v = .ref T ∧ H T = none ∧ H' = upd H T (.tup [x, y]) ∧ (∀ xs, SqX k1 K H a xs → xs[i]? = some x) ∧ ∀ ys, SqX k2 K H b ys → ys[i]? = some y,
    fun i H => ∃ xs ys : List V, SqX k1 K H a xs ∧ SqX k2 K H b ys ∧ xs.length ≤ i ∧ ys.length ≤ i⟩
theorem turn_zipS {P : Program} {w : World} {K : Fg} {k1 k2 : Bool} {elts : List Expr} {kk : Nat} {tpos : Pos} {a b z TI TO i1 i2 : Addr} (D : ZipApart z TI TO i1 i2 a b) :
    Turn P w K (.Tuple elts kk tpos) (ItzS k1 k2 K a b) [z, TI, TO, i1, i2] z (fun i h => IsZipS h z TI TO .none ∧ IsPair h TI (.ref i1) (.ref i2) ∧ (∃ x y, IsPair h TO x y) ∧ SIt k1 h i1 a i ∧ SIt k2 h i2 b i) where
  mem := by simp
  obj := fun i h st c hc => by
    obtain ⟨hz, hTI, ⟨x, y, hTO⟩, h1, h2⟩ := st
    have e' : c = z ∨ c = TI ∨ c = TO ∨ c = i1 ∨ c = i2 := by simpa using hc
    rcases e' with q | q | q | q | q <;> rw [q]
    · exact ⟨_, hz, fun v q => nomatch q⟩
    · exact ⟨_, hTI, fun v q => nomatch q⟩
    · exact ⟨_, hTO, fun v q => nomatch q⟩
    · exact h1.ex
    · exact h2.ex
  keep := fun i h h' st k => by
    obtain ⟨hz, hTI, ⟨x, y, hTO⟩, h1, h2⟩ := st
    exact ⟨k z (by simp) _ hz, k TI (by simp) _ hTI, ⟨x, y, k TO (by simp) _ hTO⟩, h1.at fun o q => k i1 (by simp) o q, h2.at fun o q => k i2 (by simp) o q⟩
  item := by
    intro X hP hw hK hc i pins s σ H E I hf st hg
    subst hP hw hK
    obtain ⟨hz, hTI, ⟨x0, y0, hTO⟩, h1, h2⟩ := st
    obtain ⟨xs, ys, x, y, hqx, hqy, hx, hy⟩ := hg
    obtain ⟨its, rv, p, _⟩ := hqx.sq I
    obtain ⟨its2, rv2, p2, _⟩ := hqy.sq I
    obtain ⟨u, hu, ru⟩ := rv.get hx; obtain ⟨u2, hu2, ru2⟩ := rv2.get hy
    have hzl : z < s.heap.objs.size := Heap.lt_size hz
    have lt : ∀ c, c ∈ [z, TI, TO, i1, i2] → c < s.heap.objs.size := fun c hcm => by
      have e' : c = z ∨ c = TI ∨ c = TO ∨ c = i1 ∨ c = i2 := by simpa using hcm
      rcases e' with q | q | q | q | q <;> rw [q]
      · exact hzl
      · exact Heap.lt_size hTI
      · exact Heap.lt_size hTO
      · obtain ⟨_, e1, _⟩ := h1.ex; exact Heap.lt_size e1
      · obtain ⟨_, e2, _⟩ := h2.ex; exact Heap.lt_size e2
    refine pyNext_zipS_item D hz hTI hTO h1 h2 p p2 (x := u) (y := u2) (by simpa using hu) (by simpa using hu2) fun h' z' TO' h1' h2' hT hsz hk => ?_
    refine ⟨_, rfl, letGoS (s := { s with heap := h' }) z' fun h'' z'' sb => ?_⟩
    have hT2 : h''.get? s.heap.objs.size = some { cls := .type "tuple", data := .seq #[u, u2] } := (sb.2 _ (Nat.ne_of_gt hzl)).trans hT
    have new : ObjOk X.prog X.w (upd H s.heap.objs.size (.tup [x, y])) h'' s.heap.objs.size (.tup [x, y]) := ⟨by show 2 ≤ sizeLine; decide, [u, u2], .cons ru (.cons ru2 .nil), ⟨_, hT2, rfl, _, rfl⟩⟩
    have I1 : Inv X pins σ (upd H s.heap.objs.size (.tup [x, y])) { s with heap := h'' } := I.turnedNew (t' := s.toks) (ch := [z, TI, TO, i1, i2])
      (fun c o hb q => (sb.2 c (fun q' => hb (by simp [q']))).trans (hk c o (fun q' => hb (by simp [q'])) (fun q' => hb (by simp [q'])) (fun q' => hb (by simp [q'])) (fun q' => hb (by simp [q'])) q)) hf (Nat.le_refl _) new
    refine ⟨.ref s.heap.objs.size, _, I1, rfl, ⟨_, x, y, rfl, I.hok.fresh (Nat.le_refl _), rfl, fun l hl => by rw [SqX.inj I hl hqx]; exact hx, fun l hl => by rw [SqX.inj I hl hqy]; exact hy⟩, ⟨z'', ?_, ⟨u, u2, ?_⟩, ?_, ?_⟩, fun c hcm => ?_⟩
    · exact (sb.2 _ D.TIz).trans (hk _ _ D.TIz D.TITO D.TIi1 D.TIi2 hTI)
    · exact (sb.2 _ D.TOz).trans TO'
    · exact h1'.at fun o q => (sb.2 _ D.i1z).trans q
    · exact h2'.at fun o q => (sb.2 _ D.i2z).trans q
    · rw [upd_ne (Nat.ne_of_lt (lt c hcm))]; exact (hf c hcm).1
  done := by
    intro X hP hw hK hc i pins s σ H E I hf st hg
    subst hP hw hK
    obtain ⟨hz, hTI, ⟨x0, y0, hTO⟩, h1, h2⟩ := st
    obtain ⟨xs, ys, hqx, hqy, e1, e2⟩ := hg
    obtain ⟨its, rv, p, _⟩ := hqx.sq I
    obtain ⟨its2, rv2, p2, _⟩ := hqy.sq I
    have l1 := rv.length; have l2 := rv2.length
    exact pyNext_zipS_end (I.ok.hd hc) D hz hTI hTO h1 h2 p p2 (by simp; omega) (by simp; omega) fun h' hk => ⟨rfl, I.turnedL (t' := s.toks) (ch := [z, TI, TO, i1, i2]) (fun c o hb q =>
      hk c o (fun q' => hb (by simp [q'])) (fun q' => hb (by simp [q'])) (fun q' => hb (by simp [q'])) (fun q' => hb (by simp [q'])) q) hf⟩
  self := fun A i s Q E st h => pyIterS st.1 h
theorem callWith_type_kwA {M : Model} {A : Around} {E : Value → Shared → Prop} {s : Shared} {pos : Pos} {T : String} {args : List (Bool × Sem Value)} {keywords : List (Option Str × Sem Value)} {Q : Value → Shared → Prop} (hp : args.any (·.1) = false) (hkw : keywords.any (·.1.isNone) = false)
    (h : wpAny M A (evalArgs (.type T) true args keywords) (fun a s₁ => wpAny M A (call (.type T) a.pos a.kw) Q E s₁) E s) : wpAny M A (callWith pos (.type T) [] args keywords) Q E s := by
  unfold callWith
  refine wpAny_bind (wpAny_holding (wpAny_mono h (fun a s₁ h₁ => wpAny_bind (wpAny_standAt ?_)) fun _ _ x => x))
  simp only [hp, hkw, Bool.or_false]
  refine wpAny_bind (wpAny_pure (wpAny_bind (wpAny_mono (h₁ : wpAny M A (call (.type T) ([] ++ a.pos) a.kw) Q E s₁) (fun r s₂ hr => wpAny_bind (wpAny_holding (wpAny_point (wpAny_pure hr)))) fun _ _ x => x)))
def iZipS (K : Fg) (ta tk : TA) : TI := fun σ H R => ta σ H fun vs H1 => tk σ H1 fun zs H2 => zs = [.bl true] ∧ ∃ k1 k2 a b xs ys, vs = [.ref a, .ref b] ∧ SqX k1 K H2 a xs ∧ SqX k2 K H2 b ys ∧ R (ItzS k1 k2 K a b) H2
theorem pi_zipS {X : Cx} {e e2 : Expr} {kws : List Keyword} {ta tk : TA} {p pos tpos : Pos} {elts : List Expr} {kk : Nat} (hg : Gl X "zip") (hm : X.mg "zip" = none) (ha : PA X [e, e2] ta) (hk : PK X kws tk)
    (he : backTo pos (starEach [e, e2] X.env) = (false, eval e X.env) :: backTo pos (starEach [e2] X.env) := by rfl) (hpl : (backTo pos (starEach [e, e2] X.env)).any (·.1) = false := by rfl)
    (hall : (backToKw pos (keywordEach kws X.env)).all (·.1.isSome) = true := by rfl) (hnone : (backToKw pos (keywordEach kws X.env)).any (·.1.isNone) = false := by rfl) (hks : (backToKw pos (keywordEach kws X.env)).filterMap (·.1) = (["strict"] : List Str) := by rfl) :
    PI X (.Tuple elts kk tpos) (.Call (.Name "zip" p) [e, e2] kws pos) (iZipS X.K ta tk) := by
  refine ⟨fun pins s σ H R I h => ?_⟩
  refine wpAny_Call_Name_kw (ld_blt I hg hm PyProof.Rows.boot_zip ?_)
  refine callWith_type_kwA hpl hnone ?_
  have run := ha.run pos pins s σ H _ I h
  rw [he] at run ⊢
  refine evalArgs_kwB hall (thn run fun us s1 ⟨vs, H1, I1, r1, q1⟩ => thn (hk.run pos pins s1 σ H1 _ I1 q1) fun ws s2 ⟨zs, H2, I2, r2, q2⟩ => ?_)
  rw [hks]
  obtain ⟨rfl, k1, k2, a, b, xs, ys, rfl, hqx, hqy, q⟩ := q2
  obtain ⟨u, rfl, ru⟩ := vals1 r2
  cases ru
  cases r1 with
  | cons r rr =>
    cases rr with
    | cons r' rr =>
      cases rr; cases r; cases r'
      have fresh5 : ∀ c, c ∈ [s2.heap.objs.size + 4, s2.heap.objs.size + 2, s2.heap.objs.size + 3, s2.heap.objs.size, s2.heap.objs.size + 1] → FpOk X pins H2 c := fun c hcm => by
        have hle : s2.heap.objs.size ≤ c := by
          have e' : c = s2.heap.objs.size + 4 ∨ c = s2.heap.objs.size + 2 ∨ c = s2.heap.objs.size + 3 ∨ c = s2.heap.objs.size ∨ c = s2.heap.objs.size + 1 := by simpa using hcm
          rcases e' with z | z | z | z | z <;> rw [z] <;> first | exact Nat.le_add_right _ _ | exact Nat.le_refl _
        exact I2.fpOk hle (I2.hok.fresh hle)
      obtain ⟨its, rv, p1, la⟩ := hqx.sq I2
      obtain ⟨its2, rv2, p2, lb⟩ := hqy.sq I2
      refine call_zipS p1 p2 fun h' hz hTI hTO h1 h2 hsz hk => pyIterS hz ?_
      have I3 : Inv X pins σ H2 { s2 with heap := h' } := I2.kept (t' := s2.toks) hk
      exact ⟨s2.heap.objs.size + 4, [s2.heap.objs.size + 4, s2.heap.objs.size + 2, s2.heap.objs.size + 3, s2.heap.objs.size, s2.heap.objs.size + 1], _, _, H2, rfl, I3, turn_zipS (PySem.W.ktu_apart s2.heap.objs.size a b la lb), ⟨hz, hTI, ⟨_, _, hTO⟩, h1, h2⟩, fresh5, q⟩
/-! ### upon D -/
section
variable {X : Cx} {W : WX} {τ : Type} [Sto τ] {K : Fg}
def fZipS : List D → Option (List D)
  | [.lst xs, .lst ys] => if xs.length = ys.length then some (zipD xs ys) else none
  | [.lst xs, .tup ys] => if xs.length = ys.length then some (zipD xs ys) else none
  | [.tup xs, .lst ys] => if xs.length = ys.length then some (zipD xs ys) else none
  | [.tup xs, .tup ys] => if xs.length = ys.length then some (zipD xs ys) else none
  | _ => none
/-- a value that stands for a list or a tuple -/
theorem Rep.sqx {F : Fp} {H : Hp} {v : V} {d : D} (r : Rep K F H v d) : (∀ ds, d = .lst ds → ∃ a vs, v = .ref a ∧ (∀ F2 H2, Stp F H F2 H2 → SqX false K H2 a vs) ∧ Reps K F H vs ds) ∧ (∀ ds, d = .tup ds → ∃ a vs, v = .ref a ∧ (∀ F2 H2, Stp F H F2 H2 → SqX true K H2 a vs) ∧ Reps K F H vs ds) := by
  refine ⟨fun ds e => ?_, fun ds e => ?_⟩
  · subst e; cases r with
    | lst h rs => exact ⟨_, _, rfl, fun F2 H2 s => (h.step s).sq, rs⟩
  · subst e; cases r with
    | tup h rs => exact ⟨_, _, rfl, fun F2 H2 s => (h.step s).sq, rs⟩
theorem rIt_zipS {k1 k2 : Bool} {I : Fp → Hp → Prop} {F0 F : Fp} {H H' : Hp} {a b : Addr} {vs ws : List V} {ds es : List D} (hl : ∀ F2 H2, Stp F H' F2 H2 → SqX k1 K H2 a vs) (r : Reps K F H' vs ds) (hl2 : ∀ F2 H2, Stp F H' F2 H2 → SqX k2 K H2 b ws) (r2 : Reps K F H' ws es) (e : ds.length = es.length) :
    rIt K I F0 F H H' (ItzS k1 k2 K a b) (zipD ds es) := by
  have n1 := r.length; have n2 := r2.length
  have hn : (zipD ds es).length = vs.length := by unfold zipD; rw [List.length_zipWith]; omega
  have w : Walk (ItzS k1 k2 K a b) (zipD ds es).length (fun H => SqX k1 K H a vs ∧ SqX k2 K H b ws) (YPair (fun i => vs[i]?) (fun i => ws[i]?)) := by
    rw [hn]
    refine ⟨fun i _ hi q => ?_, fun _ q => ⟨vs, ws, q.1, q.2, by omega, by omega⟩, fun i H v H' hi q y => ?_⟩
    · have h2 : i < ws.length := by omega
      exact ⟨vs, ws, vs[i], ws[i], q.1, q.2, by simp [hi], by simp [h2]⟩
    · obtain ⟨T, x, z, h1, h2, h3, h4, h5⟩ := y
      exact ⟨T, x, z, h1, h2, h3, h4 vs q.1, h5 ws q.2⟩
  refine ⟨_, _, w, fun H2 s => ⟨hl F H2 ⟨s, fun _ z => .inl z⟩, hl2 F H2 ⟨s, fun _ z => .inl z⟩⟩, fun Fc i H2 x H3 hi s dm y => ?_⟩
  obtain ⟨T, x0, y0, rfl, nT, rfl, e1, e2⟩ := y
  obtain ⟨d, ed, q⟩ := (r.step s).getV e1
  obtain ⟨e, ee, q2⟩ := (r2.step s).getV e2
  exact ⟨same_upd nT, .tup [d, e], zip_get ed ee, Rep.newTup (.cons q (.cons q2 .nil)) dm nT⟩
theorem mi_zipS {e e2 : Expr} {kws : List Keyword} {p pos tpos : Pos} {elts : List Expr} {kk : Nat} {m : ME τ (List D)} (hg : Gl X "zip") (hm : X.mg "zip" = none) (ha : PA X [e, e2] (tA X.K W m)) (hk : PK X kws (tCons (tC (.bl true)) tNil))
    (he : backTo pos (starEach [e, e2] X.env) = (false, eval e X.env) :: backTo pos (starEach [e2] X.env) := by rfl) (hpl : (backTo pos (starEach [e, e2] X.env)).any (·.1) = false := by rfl)
    (hall : (backToKw pos (keywordEach kws X.env)).all (·.1.isSome) = true := by rfl) (hnone : (backToKw pos (keywordEach kws X.env)).any (·.1.isNone) = false := by rfl) (hks : (backToKw pos (keywordEach kws X.env)).filterMap (·.1) = (["strict"] : List Str) := by rfl) :
    PI X (.Tuple elts kk tpos) (.Call (.Name "zip" p) [e, e2] kws pos) (tI X.K W (MM.e1 fZipS m)) := PI.imp (pi_zipS hg hm ha hk he hpl hall hnone hks) fun σ H R ⟨C, ρ, t, A, p⟩ => by
  refine use okI A p fun d t1 v H1 e1 s1 A1 r1 p1 => ?_
  refine ⟨rfl, ?_⟩
  have fin : ∀ (k1 k2 : Bool) (a b : Addr) (vs ws : List V) (ds es : List D), v = [.ref a, .ref b] → (∀ F2 H2, Stp (Fo C.F ρ σ) H1 F2 H2 → SqX k1 X.K H2 a vs) → Reps X.K (Fo C.F ρ σ) H1 vs ds → (∀ F2 H2, Stp (Fo C.F ρ σ) H1 F2 H2 → SqX k2 X.K H2 b ws) → Reps X.K (Fo C.F ρ σ) H1 ws es →
      Post rIt X.K W C (Fo C.F ρ σ) σ H1 (opt (if ds.length = es.length then some (zipD ds es) else none) t1) R → ∃ k1 k2 a b xs ys, v = [.ref a, .ref b] ∧ SqX k1 X.K H1 a xs ∧ SqX k2 X.K H1 b ys ∧ R (ItzS k1 k2 X.K a b) H1 := fun k1 k2 a b vs ws ds es ev h1 q1 h2 q2 p1 => by
    split at p1
    · rename_i hl
      exact ⟨k1, k2, a, b, vs, ws, ev, h1 _ _ (Stp.refl _ _), h2 _ _ (Stp.refl _ _), p1 _ H1 (Sm.refl _ _) A1.st (rIt_zipS h1 q1 h2 q2 hl)⟩
    · exact p1.elim
  unfold fZipS at p1
  split at p1
  all_goals first | exact p1.elim | skip
  all_goals
    cases r1 with
    | cons r1 r2 =>
      cases r2 with
      | cons r2 r3 =>
        cases r3
        first
          | (obtain ⟨a, vs, rfl, h1, q1⟩ := r1.sqx.1 _ rfl; obtain ⟨b, ws, rfl, h2, q2⟩ := r2.sqx.1 _ rfl; exact fin _ _ a b vs ws _ _ rfl h1 q1 h2 q2 p1)
          | (obtain ⟨a, vs, rfl, h1, q1⟩ := r1.sqx.1 _ rfl; obtain ⟨b, ws, rfl, h2, q2⟩ := r2.sqx.2 _ rfl; exact fin _ _ a b vs ws _ _ rfl h1 q1 h2 q2 p1)
          | (obtain ⟨a, vs, rfl, h1, q1⟩ := r1.sqx.2 _ rfl; obtain ⟨b, ws, rfl, h2, q2⟩ := r2.sqx.1 _ rfl; exact fin _ _ a b vs ws _ _ rfl h1 q1 h2 q2 p1)
          | (obtain ⟨a, vs, rfl, h1, q1⟩ := r1.sqx.2 _ rfl; obtain ⟨b, ws, rfl, h2, q2⟩ := r2.sqx.2 _ rfl; exact fin _ _ a b vs ws _ _ rfl h1 q1 h2 q2 p1)
theorem kstrict {j1 : Nat} {kp cp : Pos} : PK X [⟨some "strict", .Constant (.bool true) j1 cp, kp⟩] (tCons (tC (.bl true)) tNil) := pk_cons pe_bl pk_nil
end
@[simp] theorem fZipS_ll {xs ys : List D} : fZipS [.lst xs, .lst ys] = if xs.length = ys.length then some (zipD xs ys) else none := rfl
@[simp] theorem fZipS_lt {xs ys : List D} : fZipS [.lst xs, .tup ys] = if xs.length = ys.length then some (zipD xs ys) else none := rfl
@[simp] theorem fZipS_tl {xs ys : List D} : fZipS [.tup xs, .lst ys] = if xs.length = ys.length then some (zipD xs ys) else none := rfl
@[simp] theorem fZipS_tt {xs ys : List D} : fZipS [.tup xs, .tup ys] = if xs.length = ys.length then some (zipD xs ys) else none := rfl
end MM

/-! M21: dict displays of constant keys, [::-1], joins of texts, slices by two. -/
namespace MM
open PySem PySem.Spec PyProof.Rows L2
section
variable {X : Cx} {W : WX} {τ : Type} [Sto τ] {K : Fg}
/-! ### {"a": x, "b": y}: keys that are constants, values that are names or constants -/
def atms (ms : List (Rho → Option D)) (ρ : Rho) : Option (List D) := match ms with
  | [] => some []
  | m :: ms => (m ρ).bind fun d => (atms ms ρ).map (d :: ·)
structure DP (X : Cx) (pos : Pos) (keys : List (Option Expr)) (values : List Expr) (ks : List Key) (ms : List (Rho → Option D)) : Prop where
  run : ∃ trs, PPs X pos keys values trs ∧ ∀ (τ : Type) (_ : Sto τ) (C : SC τ) (ρ : Rho) (t : τ) (σ : St) (H : Hp), At X.K C ρ t σ H → ∀ ds, atms ms ρ = some ds →
    ∃ vs, Reps X.K (Fo C.F ρ σ) H vs ds ∧ vs.length = ks.length ∧ ∀ H2 (Q : List (V × V) → Hp → Prop), Q ((ks.zip vs).map fun kv => (kV kv.1, kv.2)) H2 → tPairs trs σ H2 Q
theorem dp_nil {pos : Pos} : DP X pos [] [] [] [] := ⟨[], pps_nil, fun _ _ _ _ _ _ _ _ ds e => by cases e; exact ⟨[], .nil, rfl, fun _ _ q => q⟩⟩
theorem dp_cons {pos : Pos} {k v : Expr} {keys : List (Option Expr)} {values : List Expr} {key : Key} {ks : List Key} {m : Rho → Option D} {ms : List (Rho → Option D)} (hk : PE X k (tC (kV key))) (hv : Atm X v m) (hr : DP X pos keys values ks ms) : DP X pos (some k :: keys) (v :: values) (key :: ks) (m :: ms) := by
  obtain ⟨trs, pr, rr⟩ := hr.run
  obtain ⟨gv, pv, rv⟩ := hv.run
  refine ⟨_, pps_cons hk pv pr, fun τ i C ρ t σ H A ds e => ?_⟩
  simp only [atms] at e
  cases e1 : m ρ with
  | none => rw [e1] at e; cases e
  | some d =>
    rw [e1, Option.bind_some] at e
    cases e2 : atms ms ρ with
    | none => rw [e2] at e; cases e
    | some es =>
      rw [e2] at e
      cases e
      obtain ⟨w, h1, r1⟩ := rv _ _ C ρ t σ H A d e1
      obtain ⟨ws, r2, hl, q⟩ := rr τ i C ρ t σ H A es e2
      exact ⟨w :: ws, .cons r1 r2, by rw [List.length_cons, hl, List.length_cons], fun H2 Q h => ⟨w, h1, q H2 _ h⟩⟩
theorem putK_new {kvs : List (Key × V)} {k : Key} {v : V} (h : k ∉ kvs.map (·.1)) : putK kvs k v = kvs ++ [(k, v)] := by
  unfold putK
  rw [if_neg]
  intro z
  obtain ⟨p, h1, h2⟩ := List.any_eq_true.mp z
  exact h (List.mem_map.mpr ⟨p, h1, of_decide_eq_true h2⟩)
theorem mergeK_new : ∀ (more kvs : List (Key × V)), (kvs.map (·.1) ++ more.map (·.1)).Nodup → mergeK kvs more = kvs ++ more
  | [], kvs, _ => by rw [List.append_nil]; rfl
  | p :: r, kvs, h => by
    have h1 : p.1 ∉ kvs.map (·.1) := fun z => (List.nodup_append.mp h).2.2 _ z _ (by simp) rfl
    show mergeK (putK kvs p.1 p.2) r = _
    rw [putK_new h1, mergeK_new r _ (by simpa using h)]
    simp
theorem keyD_inj : ∀ {a b : Key}, keyD a = keyD b → a = b
  | .inl _, .inl _, e => by cases e; rfl
  | .inr _, .inr _, e => by cases e; rfl
  | .inl _, .inr _, e => by cases e
  | .inr _, .inl _, e => by cases e
def eDctN (ks : List Key) (ms : List (Rho → Option D)) : ME τ D := fun ρ t => match atms ms ρ with
  | some ds => .ok (.dct (ks.map keyD) ds) t
  | none => .bad
theorem zip_fst {α β : Type} : ∀ {a : List α} {b : List β}, b.length = a.length → (a.zip b).map (·.1) = a
  | [], _, _ => rfl
  | x :: a, [], h => by cases h
  | x :: a, y :: b, h => by simp [zip_fst (a := a) (b := b) (by simpa using h)]
theorem zip_snd {α β : Type} : ∀ {a : List α} {b : List β}, b.length = a.length → (a.zip b).map (·.2) = b
  | [], [], _ => rfl
  | [], _ :: _, h => by cases h
  | x :: a, [], h => by cases h
  | x :: a, y :: b, h => by simp [zip_snd (a := a) (b := b) (by simpa using h)]
theorem me_dctN {keys : List (Option Expr)} {values : List Expr} {ks : List Key} {ms : List (Rho → Option D)} {pos : Pos} (h : DP X pos keys values ks ms) (hn : ks.Nodup) (hl : ks.length ≤ 15) (hk : keys ≠ []) (hl2 : keys.length ≤ 15) (h1 : keys.all (·.isSome) = true := by rfl) (h2 : keys.length = values.length := by rfl) :
    PE X (.Dict keys values pos) (tE X.K W (eDctN (τ := τ) ks ms)) := by
  obtain ⟨trs, pr, rr⟩ := h.run
  refine PE.imp (pe_disp pr h1 h2 hk hl2) fun σ H Q ⟨C, ρ, t, A, p⟩ q nq => ?_
  unfold eDctN at p
  split at p
  · rename_i ds e
    obtain ⟨vs, r, hlv, qq⟩ := rr _ _ C ρ t σ H A ds e
    refine qq _ _ ⟨upd_same, ks.zip vs, rfl, by rw [List.length_zip]; omega, ?_⟩
    have fk := zip_fst hlv
    rw [mergeK_new _ [] (by rw [fk]; simpa using hn), List.nil_append]
    have same : Same H (upd (upd H q (.dK [])) q (.dK (ks.zip vs))) := fun b o e => by rw [upd_ne (ne_of_none e nq), upd_ne (ne_of_none e nq)]; exact e
    refine p _ _ (Sm.of_same same) (C.stay A.st same) ?_
    have := Rep.dK (K := X.K) (F := Fo C.F ρ σ) (H := upd (upd H q (.dK [])) q (.dK (ks.zip vs))) (a := q) (kvs := ks.zip vs) (ds := ds) (fun z => A.dom q z nq) upd_same (by rw [zip_snd hlv]; exact r.same (Sm.of_same same))
    have e2 : (ks.zip vs).map (fun p => keyD p.1) = ks.map keyD := by
      have := congrArg (List.map keyD) fk
      rwa [List.map_map] at this
    rw [e2] at this
    exact this
  · exact p.elim
/-! ### xs[::-1] -/
def dRev : D → Option (List D)
  | .lst ds => some ds.reverse
  | _ => none
theorem Reps.rev {F : Fp} {H : Hp} : ∀ {vs : List V} {ds : List D}, Reps K F H vs ds → Reps K F H vs.reverse ds.reverse
  | _, _, .nil => .nil
  | _, _, .cons r t => by rw [List.reverse_cons, List.reverse_cons]; exact (Reps.rev t).snoc r
theorem mf_rev {e : Expr} {k : Nat} {p1 p2 p3 pos : Pos} {m : ME τ D} (h : PE X e (tW X.K W m)) : PE X (.Subscript e (.Slice none none (some (.UnaryOp .USub (.Constant (.int 1) k p1) p2)) p3) pos) (tF X.K W (MM.e1 dRev m)) := PE.imp (pe_revL h) fun σ H Q ⟨C, ρ, t, A, p⟩ => by
  refine use okF A p fun d t1 v H1 e1 s1 A1 r1 p1 => ?_
  unfold dRev at p1
  split at p1
  · obtain ⟨a, vs, rfl, hl, rs⟩ := r1.lstOf
    exact ⟨a, vs, rfl, hl.sq, new_fin A1 rs.rev p1⟩
  · exact p1.elim
/-! ### sep.join(texts) -/
def strsD : List D → Option (List Str)
  | [] => some []
  | .str x :: r => (strsD r).map (x :: ·)
  | _ => none
theorem strsD_ok {F : Fp} {H : Hp} : ∀ {vs : List V} {ds : List D} {ys : List Str}, Reps K F H vs ds → strsD ds = some ys → vs = ys.map V.str
  | _, _, _, .nil, e => by cases e; rfl
  | _, _, _, .cons (d := d) r t, e => by
    cases d <;> try (simp [strsD] at e; done)
    rename_i x
    simp only [strsD] at e
    cases e2 : strsD _ with
    | none => rw [e2] at e; cases e
    | some zs =>
      rw [e2] at e
      cases e
      cases r
      rw [strsD_ok t e2]; rfl
def joinOk (a : Str) (ys : List Str) : Bool := decide ((ys.map (·.length)).sum + ys.length * a.length ≤ 16777216)
def dJoin (a : Str) : D → Option D := fun e => match e with
  | .lst ds => (strsD ds).bind fun ys => if joinOk a ys = true then some (.str (Txt.join a ys)) else none
  | .tup ds => (strsD ds).bind fun ys => if joinOk a ys = true then some (.str (Txt.join a ys)) else none
  | _ => none
theorem me_join {e : Expr} {a : Str} {k : Nat} {opos apos pos : Pos} {me : ME τ D} (he : PE X e (tW X.K W me)) (hs : starEach [e] X.env = [(false, eval e X.env)] := by rfl) (hbase : attributeBase (.Constant (.str a) k opos) "join" X.env (eval (.Constant (.str a) k opos) X.env) = eval (.Constant (.str a) k opos) X.env := by rfl) (hline : (apos.endLine == pos.line) = true := by rfl) :
    PE X (.Call (.Attribute (.Constant (.str a) k opos) "join" apos) [e] [] pos) (tE X.K W (MM.e1 (dJoin a) me)) := PE.imp (pe_join pe_str he hs hbase hline) fun σ H Q ⟨C, ρ, t, A, p⟩ => by
  refine ⟨⟨a, rfl⟩, ?_⟩
  refine use okE A p fun d2 t2 v2 H2 e2 s2 A2 r2 p2 => ?_
  have fin : ∀ (p : Addr) (vs : List V) (ds : List D), v2 = .ref p → (SqL X.K H2 p vs ∨ SqT X.K H2 p vs) → Reps X.K (Fo C.F ρ σ) H2 vs ds → Post rE X.K W C (Fo C.F ρ σ) σ H2 (opt ((strsD ds).bind fun ys => if joinOk a ys = true then some (.str (Txt.join a ys)) else none) t2) Q →
      ∃ (a' : Str) (p : Addr) (ys : List Str), V.str a = .str a' ∧ [v2] = [.ref p] ∧ (SqL X.K H2 p (ys.map V.str) ∨ SqT X.K H2 p (ys.map V.str)) ∧ (ys.map (·.length)).sum + ys.length * a'.length ≤ 16777216 ∧ Q (.str (Txt.join a' ys)) H2 := fun p vs ds ev hq rs p2 => by
    cases e3 : strsD ds with
    | none => rw [e3] at p2; exact p2.elim
    | some ys =>
      rw [e3, Option.bind_some] at p2
      split at p2
      · rename_i hj
        have := strsD_ok rs e3
        subst this
        exact ⟨a, p, ys, rfl, by rw [ev], hq, of_decide_eq_true hj, p2 _ H2 (Sm.refl _ _) A2.st (.str _)⟩
      · exact p2.elim
  cases d2 with
  | lst ds =>
    obtain ⟨p, vs, rfl, hl, rs⟩ := r2.lstOf
    exact fin p vs _ rfl (.inl hl.sq) rs p2
  | tup ds =>
    obtain ⟨p, vs, rfl, hl, rs⟩ := r2.tupOf
    exact fin p vs _ rfl (.inr hl.sq) rs p2
  | _ => exact p2.elim
end
@[simp] theorem dRev_lst {ds : List D} : dRev (.lst ds) = some ds.reverse := rfl
@[simp] theorem atms_nil {ρ : Rho} : atms [] ρ = some [] := rfl
@[simp] theorem atms_cons {m : Rho → Option D} {ms : List (Rho → Option D)} {ρ : Rho} : atms (m :: ms) ρ = (m ρ).bind fun d => (atms ms ρ).map (d :: ·) := rfl
@[simp] theorem oE_dctN {τ : Type} {Q : D → τ → Prop} {X : Str → Fds → τ → Prop} {ρ : Rho} {t : τ} {ks : List Key} {ms : List (Rho → Option D)} : oE (eDctN ks ms ρ t) Q X = ∃ ds, atms ms ρ = some ds ∧ Q (.dct (ks.map keyD) ds) t := by
  unfold eDctN
  cases e : atms ms ρ <;> simp
end MM

/-! M22: sorted of texts, of tuples, of rows that their first parts tell apart; min, max of such. -/
namespace PySem.W
open PySem PySem.Calls PyProof.Rows
section
variable {prog : Program} {w : World} {A : Around} {E : Value → Shared → Prop} {s : Shared}
/-- can be compared, up to the first place where they differ -/
def cmpAll : List PyData → List PyData → Bool
  | x :: xs, y :: ys => alike x y && (if PyData.eqv x y = true then cmpAll xs ys else true)
  | [], _ => true
  | _ :: _, [] => true
theorem katLex_cmp {b fin : Bool} {Q : Bool → Shared → Prop} : ∀ (xs ys : List PyData) (i : Nat) (vs ws : List Value) (as bs : List Addr), ReadsAll s.heap vs xs as → ReadsAll s.heap ws ys bs → cmpAll xs ys = true → A.units + min (PyData.depthAll xs) (PyData.depthAll ys) < cLine →
    (b = true → i = 0 → ∀ x r t, xs = x :: r → x ≠ .tuple t) → fin = decide (xs.length < ys.length) → Q (PyProof.Rows.lexLt itemOrd (keyToksAll xs) (keyToksAll ys)) s → KatLex prog w A b fin Q (vs.zip ws) i s
  | [], ys, i, _, _, _, _, ra, rb, _, hu, hb, hf, hq => katLex_alike [] ys i _ _ _ _ ra rb rfl hu hb hf hq
  | x :: xs, [], i, _, _, _, _, ra, rb, _, hu, hb, hf, hq => katLex_alike (x :: xs) [] i _ _ _ _ ra rb rfl hu hb hf hq
  | x :: xs, y :: ys, i, _, _, _, _, .cons r rs, .cons r' rs', h, hu, hb, hf, hq => by
    obtain ⟨h1, h2⟩ := Bool.and_eq_true_iff.mp h
    have hf' : fin = decide (xs.length < ys.length) := by rw [hf]; simp only [List.length_cons, Nat.add_lt_add_iff_right]
    rw [List.zip_cons_cons]
    refine kat_cons (eqAt_alike x y A s _ _ _ _ r r' h1 (SeqAt.room_head hu) prog w _ _ ?_)
    cases hx : PyData.eqv x y with
    | true =>
      rw [dataLt_all_yes h1 hx] at hq
      rw [hx, if_pos rfl] at h2
      exact kat_yes (katLex_cmp xs ys (i + 1) _ _ _ _ rs rs' h2 (SeqAt.room_tail hu) (fun _ hi => absurd hi (Nat.succ_ne_zero i)) hf' hq)
    | false =>
      rw [dataLt_all_no h1 hx] at hq
      refine kat_no (oneLt_alike (fun hbi t => ?_) r r' h1 (ne_none_of h1 hx) (SeqAt.room_head hu) hq)
      rw [Bool.and_eq_true] at hbi; exact hb hbi.1 (by simpa using hbi.2) x xs t rfl
/-- rows: tuples with an item at least, each two comparable -/
structure RowsOk (ds : List PyData) : Prop where
  row : ∀ d ∈ ds, d.canLay0 = true ∧ ∃ x r, d = .tuple (x :: r)
  two : ∀ xs ys, .tuple xs ∈ ds → .tuple ys ∈ ds → cmpAll xs ys = true
theorem rowKind_some {h : Heap} {ds : List PyData} (hr : RowsOk ds) {v : Value} {d : PyData} {as : List Addr} (hd : d ∈ ds) (r : Reads h v d as) : (dataKind h ds).keyOf v = some (keyToks d) := by
  have q : ∃ d, d ∈ ds ∧ ∃ as, Reads h v d as := ⟨d, hd, as, r⟩
  have e : (dataKind h ds).keyOf v = some (keyToks q.choose) := by
    show (open Classical in if q : ∃ d, d ∈ ds ∧ ∃ as, Reads h v d as then some (keyToks q.choose) else none) = _; rw [dif_pos q]
  obtain ⟨h1, as', h2⟩ := q.choose_spec
  rw [e, SeqAt.Reads.unique _ _ _ _ _ (hr.row _ hd).1 r h2]
theorem each_keysR {h : Heap} {ds : List PyData} (hr : RowsOk ds) : ∀ {vs : List Value} {es : List PyData}, (∀ d ∈ es, d ∈ ds) → EachIs (fun v d => ∃ as, Reads h v d as) vs es → EachIs (fun v d => (dataKind h ds).keyOf v = some (keyToks d)) vs es
  | _, _, _, .nil => .nil
  | _, _, hm, .cons ⟨as, r⟩ t => .cons (rowKind_some hr (hm _ List.mem_cons_self) r) (each_keysR hr (fun d hd => hm d (List.mem_cons_of_mem _ hd)) t)
theorem sorts_rows {vs : List Value} {ds : List PyData} (e : EachIs (fun v d => ∃ as, Reads s.heap v d as) vs ds) (hr : RowsOk ds) (hu : ∀ d, d ∈ ds → A.units + d.depth < cLine) : SortsAt prog w A s (dataKind s.heap ds) vs := by
  refine ⟨fun v hv => ?_, ?_⟩
  · obtain ⟨d, hd, as, r⟩ := e.left v hv
    exact ⟨_, rowKind_some hr hd r⟩
  · cases ds with
    | nil =>
      cases e
      exact ⟨general', fun E x y a b Q ha _ _ => (by obtain ⟨d, _, hd, _⟩ := dataKind_inv ha; exact absurd hd (by simp)), fun h2 => absurd h2 (by simp)⟩
    | cons d₀ ds₀ =>
      obtain ⟨x₀, r₀, e₀⟩ := (hr.row d₀ (List.mem_cons_self ..)).2
      have hfirst : ∀ x r, PyData.tuple (x :: r) ∈ d₀ :: ds₀ → alike x x₀ = true := fun x r hm => by
        have q := hr.two (x :: r) (x₀ :: r₀) hm (by rw [← e₀]; exact List.mem_cons_self)
        exact (Bool.and_eq_true_iff.mp q).1
      refine ⟨tuples' (dataType x₀ != Value.type "tuple"), fun E x y a b Q ha hb hq => ?_, fun h2 E Q hq => ?_⟩
      · obtain ⟨d, as, hd, ra, rfl⟩ := dataKind_inv ha
        obtain ⟨d', as', hd', rb, rfl⟩ := dataKind_inv hb
        have hroom : A.units + min d.depth d'.depth < cLine := Nat.lt_of_le_of_lt (Nat.add_le_add_left (Nat.min_le_left _ _) _) (hu d hd)
        obtain ⟨x1, r1, rfl⟩ := (hr.row d hd).2
        obtain ⟨x2, r2, rfl⟩ := (hr.row d' hd').2
        have hq' : Q (dataLt (.tuple (x1 :: r1)) (.tuple (x2 :: r2))) s := hq
        rw [dataLt_tuple] at hq'
        have two := hr.two _ _ hd hd'
        cases ra with
        | @tuple l o xs n _ _ h1 h2 h3 h4 =>
          cases rb with
          | @tuple l' o' xs' n' _ _ k1 k2 k3 k4 =>
            have n1 : xs.size = (x1 :: r1).length := by simpa using SeqAt.ReadsAll.length _ _ _ h4
            have n2 : xs'.size = (x2 :: r2).length := by simpa using SeqAt.ReadsAll.length _ _ _ k4
            refine kat_lt h1 h3 k1 k3 (katLex_cmp (x1 :: r1) (x2 :: r2) 0 _ _ _ _ h4 k4 two (by have q := SeqAt.room_in hroom; omega) (fun hb _ x r t ex => ?_) (by rw [n1, n2]) hq')
            obtain ⟨rfl, rfl⟩ := List.cons.inj ex
            have q := dataType_alike (hfirst _ _ hd)
            rw [← q] at hb; exact dataType_tuple hb t
      · obtain ⟨fs, t1, t2, t3⟩ := each_katTups e fun d hd => (hr.row d hd).2
        refine kat_kind (T := dataType x₀) t1 (by omega) (fun f hf => ?_) (beq_self_eq_true _) hq
        obtain ⟨x, r, as, m1, m2⟩ := t3 f hf
        rw [← dataType_alike (hfirst x r m1)]; exact looks_reads m2
/-- alike data, or such rows -/
def SortOk (ds : List PyData) : Prop := (AllAlike ds ∧ Sortable ds) ∨ RowsOk ds
theorem sorted_dataR {β : Type} {R : Value → β → Prop} {enc : β → PyData} {vs : List Value} {bs : List β} {l : Addr} {Q : Value → Shared → Prop} (hl : s.heap.IsList l vs.toArray) (e : EachIs R vs bs) (er : EachIs (fun v b => ∃ as, Reads s.heap v (enc b) as) vs bs) (hk : SortOk (bs.map enc)) (hL : bs.length ≤ sizeLine)
    (hu : ∀ b, b ∈ bs → A.units + 2 + (enc b).depth < cLine) (h : ∀ out, out.length = bs.length → EachIs R out (bs.mergeSort (dataLe false enc)) → Q (.ref (s.heap.objs.size + 1)) { s with heap := sortedAll s.heap vs (List.toArray out) }) :
    wpAny (model prog w) A (call (.builtin "sorted") [.ref l]) Q E s := by
  rcases hk with ⟨hal, hk⟩ | hr
  · exact sorted_data hl e er hal hk hL hu h
  · have er' : EachIs (fun v b => ∃ as, Reads (sortingHeap (copyHeap s.heap vs) (s.heap.objs.size + 1) vs) v (enc b) as) vs bs := er.mono fun _ _ ⟨as, r⟩ => ⟨as, PyProof.Rows.Reads.keeps (fun _ _ => sorting_copy_old) r⟩
    have em := each_map (R := fun v d => ∃ as, Reads (sortingHeap (copyHeap s.heap vs) (s.heap.objs.size + 1) vs) v d as) enc er'
    exact sorted_vals hl (sorts_rows (s := { s with heap := sortingHeap (copyHeap s.heap vs) (s.heap.objs.size + 1) vs }) em hr (bound_map hu)) (by rw [e.length]; exact hL)
      (h _ (by rw [sortVals_length false rfl]; exact e.length) (sortVals_each (κ := dataKind (sortingHeap (copyHeap s.heap vs) (s.heap.objs.size + 1) vs) (bs.map enc)) (fun b => keyToks (enc b)) e (each_of_map enc (each_keysR hr (fun _ hd => hd) em))))
end
end PySem.W
namespace MM
open PySem PySem.Spec PyProof.Rows L2
section
variable {X : Cx} {W : WX} {τ : Type} [Sto τ] {K : Fg}
def sortV {α : Type} (xs : List α) (ps : List PyData) : List α := ((xs.zip ps).mergeSort (PySem.W.dataLe false fun b => b.2)).map (·.1)
structure SrtC (ps : List PyData) : Prop where
  ok : PySem.W.SortOk ps
  dep : ∀ p ∈ ps, p.depth ≤ 50
def rSortD (K : Fg) : List V → Hp → VK → Prop := fun vs H Q => ∃ (a : Addr) (xs : List V) (ps : List PyData), vs = [V.ref a] ∧ SqL K H a xs ∧ DpAll K H xs ps ∧ SrtC ps ∧ ∀ p, H p = none → Q (.ref p) (upd H p (.lst (sortV xs ps)))
theorem each_of_vals {β : Type} {f : β → V} : ∀ {bs : List β} {us : List Value}, Vals (bs.map f) us → PySem.W.EachIs (fun u b => RelV (f b) u) us bs
  | [], _, .nil => .nil
  | _ :: _, _, .cons r t => .cons r (each_of_vals t)
theorem vals_of_each {β : Type} {f : β → V} : ∀ {bs : List β} {us : List Value}, PySem.W.EachIs (fun u b => RelV (f b) u) us bs → Vals (bs.map f) us
  | _, _, .nil => .nil
  | _, _, .cons r t => .cons r (vals_of_each t)
theorem each_reads {h : Heap} {β : Type} {enc : β → PyData} : ∀ {bs : List β} {us : List Value} {as : List Addr}, ReadsAll h us (bs.map enc) as → PySem.W.EachIs (fun u b => ∃ as, Reads h u (enc b) as) us bs
  | [], _, _, .nil => .nil
  | _ :: _, _, _, .cons r t => .cons ⟨_, r⟩ (each_reads t)
theorem dps_len {H : Hp} : ∀ {xs : List V} {ps : List PyData}, DpAll K H xs ps → xs.length = ps.length
  | _, _, .nil => rfl
  | _, _, .cons _ t => congrArg (· + 1) (dps_len t)
theorem cr_sortD (hu : X.A.units + 64 < cLine) : CallR X (.builtin "sorted") (rSortD X.K) := by
  intro pins s σ H vs us Q I r h
  obtain ⟨a, xs, ps, rfl, hs, hd, hc, q⟩ := h
  obtain rfl := Vals.ref1 r
  obtain ⟨its, rv, hl, hz⟩ := I.list hs
  obtain ⟨as, ra⟩ := Dp.readsAll I ps xs its hd rv
  have len := dps_len hd
  have f1 : (xs.zip ps).map (·.1) = xs := zip_fst len.symm
  have f2 : (xs.zip ps).map (·.2) = ps := zip_snd len.symm
  have ll : (xs.zip ps).length = xs.length := by rw [List.length_zip]; omega
  refine PySem.W.sorted_dataR (R := fun u b => RelV b.1 u) (enc := fun b => b.2) (bs := xs.zip ps) hl.isList (each_of_vals (by rw [f1]; exact rv)) (each_reads (enc := fun b : V × PyData => b.2) (as := as) (by rw [f2]; exact ra)) (by rw [f2]; exact hc.ok) (by omega) (fun b hb => ?_) fun out h1 h2 => ?_
  · have := hc.dep b.2 (by rw [← f2]; exact List.mem_map_of_mem hb); omega
  · obtain ⟨ep, he'⟩ := PyProof.Rows.sortedAll_at s.heap its out.toArray
    have hlen : (sortV xs ps).length ≤ sizeLine := by unfold sortV; rw [List.length_map, (List.mergeSort_perm _ _).length_eq, ll]; exact hz
    exact ⟨.ref _, upd H (s.heap.objs.size + 1) (.lst (sortV xs ps)), I.laid (t' := s.toks) (fun _ _ => PyProof.Rows.sortedAll_old) (Nat.le_succ _) ⟨hlen, _, ep, vals_of_each h2, he'⟩, rfl, q _ (I.hok.fresh (Nat.le_succ _))⟩
open Classical in
noncomputable def fSortD : List D → Option (List D)
  | [.lst ds] => (pys ds).bind fun ps => if SrtC ps then some (sortV ds ps) else none
  | _ => none
theorem reps_zip {F : Fp} {H : Hp} : ∀ {vs : List V} {ds : List D}, Reps K F H vs ds → ∀ p ∈ vs.zip ds, Rep K F H p.1 p.2
  | _, _, .nil, p, hp => by cases hp
  | _, _, .cons r t, p, hp => by
    rcases List.mem_cons.mp hp with rfl | h
    · exact r
    · exact reps_zip t p h
theorem reps_map {F : Fp} {H : Hp} {β : Type} {f : β → V} {g : β → D} : ∀ {bs : List β}, (∀ b ∈ bs, Rep K F H (f b) (g b)) → Reps K F H (bs.map f) (bs.map g)
  | [], _ => .nil
  | b :: bs, h => .cons (h b List.mem_cons_self) (reps_map fun c hc => h c (List.mem_cons_of_mem _ hc))
theorem zip_map_zip {α β γ : Type} (ps : List γ) : ∀ (xs : List α) (ys : List β), xs.length = ys.length → xs.length = ps.length → xs.zip ps = ((xs.zip ys).zip ps).map (fun z => (z.1.1, z.2)) ∧ ys.zip ps = ((xs.zip ys).zip ps).map (fun z => (z.1.2, z.2)) := by
  induction ps with
  | nil => intro xs ys h1 h2; cases xs with
    | nil => cases ys with
      | nil => exact ⟨rfl, rfl⟩
      | cons => cases h1
    | cons => cases h2
  | cons p ps ih =>
    intro xs ys h1 h2
    cases xs with
    | nil => cases h2
    | cons x xs =>
      cases ys with
      | nil => cases h1
      | cons y ys =>
        obtain ⟨e1, e2⟩ := ih xs ys (by simpa using h1) (by simpa using h2)
        exact ⟨by simp [e1], by simp [e2]⟩
theorem sortV_map {α β : Type} {f : α → β} {zs : List (α × PyData)} : ((zs.map fun z => (f z.1, z.2)).mergeSort (PySem.W.dataLe false fun b => b.2)) = (zs.mergeSort (PySem.W.dataLe false fun b => b.2)).map fun z => (f z.1, z.2) := by
  rw [List.map_mergeSort (s := PySem.W.dataLe false fun b => b.2)]
  intro a _ b _; rfl
theorem Reps.sortV {F : Fp} {H : Hp} {vs : List V} {ds : List D} {ps : List PyData} (r : Reps K F H vs ds) (hl : ds.length = ps.length) : Reps K F H (MM.sortV vs ps) (MM.sortV ds ps) := by
  obtain ⟨e1, e2⟩ := zip_map_zip ps vs ds r.length (r.length.trans hl)
  unfold MM.sortV
  rw [e1, e2, sortV_map (f := fun z : V × D => z.1), sortV_map (f := fun z : V × D => z.2), List.map_map, List.map_map]
  refine reps_map fun b hb => ?_
  have hb' := (List.mergeSort_perm _ _).mem_iff.mp hb
  exact reps_zip r b.1 (List.of_mem_zip hb').1
theorem pys_len : ∀ {ds : List D} {ps : List PyData}, pys ds = some ps → ds.length = ps.length
  | [], _, e => by cases e; rfl
  | d :: ds, ps, e => by
    simp only [pys] at e
    cases h1 : py d with
    | none => rw [h1] at e; cases e
    | some p =>
      cases h2 : pys ds with
      | none => rw [h1, h2] at e; cases e
      | some qs => rw [h1, h2] at e; cases e; simp [pys_len h2]
theorem mf_sortD {e : Expr} {es : List Expr} {p pos : Pos} {ms : ME τ (List D)} (hu : X.A.units + 64 < cLine) (hg : Gl X "sorted") (hm : X.mg "sorted" = none) (ha : PA X (e :: es) (tAW X.K W ms))
    (he : starEach (e :: es) X.env = (false, eval e X.env) :: starEach es X.env := by rfl) (hpl : (backTo pos (starEach es X.env)).any (·.1) = false := by rfl) :
    PE X (.Call (.Name "sorted" p) (e :: es) [] pos) (tF X.K W (MM.e1 fSortD ms)) := PE.imp (pe_callB (cr_sortD hu) hg hm (by decide +kernel) ha (by decide) (by decide) he hpl) fun σ H Q ⟨C, ρ, t, A, p⟩ => by
  refine use okF A p fun ds t1 v H1 e1 s1 A1 r1 p1 => ?_
  unfold fSortD at p1
  split at p1
  · obtain ⟨v, rfl, r0⟩ := RepsW.one r1
    obtain ⟨a, vs, rfl, h1, rs⟩ := r0.lstOf
    rename_i ds
    cases e : pys ds with
    | none => rw [e] at p1; exact p1.elim
    | some ps =>
      rw [e, Option.bind_some] at p1
      split at p1
      · rename_i hc
        exact ⟨a, vs, ps, rfl, h1.sq, dps_of (F0 := Fo C.F ρ σ) rs e, hc, fun q nq => new_fin A1 (rs.sortV (pys_len e)) p1 q nq⟩
      · exact p1.elim
  · exact p1.elim
end
theorem pss_bad {X : Cx} {W : WX} {τ : Type} [Sto τ] {sts : List Stmt} : PSs X sts (tS X.K W (fun (_ : Rho) (_ : τ) => Fl.bad)) := ⟨fun pins s σ H D I ⟨C, ρ, t, A, p⟩ => p.elim⟩
/-! ### in the reasoning about mirrors -/
theorem sortV_of {α β : Type} {f : α → β} {g : α → PyData} {le : α → α → Bool} (xs : List α) (h : ∀ a ∈ xs, ∀ b ∈ xs, PySem.W.dataLe false g a b = le a b) : sortV (xs.map f) (xs.map g) = (xs.mergeSort le).map f := by
  unfold sortV
  have e : ∀ xs : List α, (xs.map f).zip (xs.map g) = xs.map fun x => (f x, g x) := fun xs => by
    induction xs with
    | nil => rfl
    | cons x xs ih => simp [ih]
  rw [e, ← List.map_mergeSort (r := le) (s := PySem.W.dataLe false fun b : β × PyData => b.2) (f := fun x => (f x, g x)), List.map_map]
  · rfl
  · intro a ha b hb; exact (h a ha b hb).symm
end MM

/-! M23: slices of lists, tuples, texts alike. -/
namespace MM
open PySem PySem.Spec PyProof.Rows L2
section
variable {X : Cx} {W : WX} {τ : Type} [Sto τ] {K : Fg}
def dCutA : D → Option Int → Option Int → Option D
  | .lst ds, lo, hi => some (.lst (cutD ds lo hi))
  | .tup ds, lo, hi => some (.tup (cutD ds lo hi))
  | .str z, lo, hi => if lim2 z.length = true then some (.str (cutS z lo hi)) else none
  | _, _, _ => none
theorem me_cutA {e : Expr} {lo hi : Option Expr} {p2 pos : Pos} {m : ME τ D} {ml mh : ME τ (Option Int)} (h : PE X e (tW X.K W m)) (hl : PO X lo (tO X.K W ml)) (hh : PO X hi (tO X.K W mh)) : PE X (.Subscript e (.Slice lo hi none p2) pos) (tE X.K W (e3 dCutA m ml mh)) :=
  PE.imp (pe_slice ((sl_tupA.or sl_str).or sl_list) h hl hh) fun σ H Q ⟨C, ρ, t, A, p⟩ => by
    refine use okE A p fun d t1 v H1 e1 s1 A1 r1 p1 => ?_
    refine use okE A1 p1 fun l t2 l' H2 e2 s2 A2 rl p2 => ?_
    refine use okE A2 p2 fun u t3 u' H3 e3 s3 A3 ru p3 => ?_
    cases rl
    cases ru
    have rd := RepW.same (RepW.same r1 s2 fun _ => Fo.base) s3 fun _ => Fo.base
    cases d <;> first
      | exact p3.elim
      | skip
    · rename_i z
      unfold dCutA at p3
      dsimp only at p3
      split at p3
      · rename_i hz
        exact .inl (.inr ⟨z, rd.strOf, lim2_le hz, p3 _ H3 (Sm.refl _ _) A3.st (.str _)⟩)
      · exact p3.elim
    · obtain ⟨a, vs, rfl, q, rs⟩ := rd.tupOf
      refine .inl (.inl ⟨a, vs, rfl, q.sq, fun hw => ?_, fun _ b nb => p3 _ _ (Sm.of_same (same_upd nb)) (C.stay A3.st (same_upd nb)) (Rep.newTup (rs.cut _ _) A3.dom nb)⟩)
      refine p3 _ H3 (Sm.refl _ _) A3.st ?_
      show Rep X.K _ H3 (V.ref a) (.tup (cutD _ _ _))
      unfold cutD
      rw [← rs.length, hw.1, hw.2, List.drop_zero, Nat.sub_zero, rs.length, List.take_length]
      exact .tup q rs
    · obtain ⟨a, vs, rfl, q, rs⟩ := rd.lstOf
      exact .inr ⟨a, vs, rfl, q.sq, fun b nb => p3 _ _ (Sm.of_same (same_upd nb)) (C.stay A3.st (same_upd nb)) (Rep.newLst (rs.cut _ _) A3.dom nb)⟩
/-! ### x in a list, x not in a list -/
theorem room65 {k : Nat} {A : Around} (r : Room k A) : A.units + 65 < cLine := by have := r.un; omega
def inD (d e : D) : Option Bool := match e with
  | .lst es => (match py d, pys es with
    | some p, some ps => if SeqAt.shaped p = true ∧ SeqAt.shaped (.list ps) = true then some (ps.any fun z => PyData.eqv z p) else none
    | _, _ => none)
  | _ => none
def dIn : D → D → Option D := fun d e => (inD d e).map .bl
def dNotIn : D → D → Option D := fun d e => (inD d e).map fun b => .bl (!b)
theorem inD_of {d e : D} {b : Bool} (h : inD d e = some b) : ∃ p ps, py d = some p ∧ py e = some (.list ps) ∧ SeqAt.shaped p = true ∧ SeqAt.shaped (.list ps) = true ∧ b = ps.any fun z => PyData.eqv z p := by
  unfold inD at h
  split at h
  · split at h
    · rename_i es p ps h1 h2
      split at h
      · rename_i hs
        cases h
        exact ⟨p, ps, h1, by simp only [py, h2]; rfl, hs.1, hs.2, rfl⟩
      · cases h
    · cases h
  · cases h
theorem o_in : DOp2 K (rInD K) dIn := by
  intro F0 F H x y d e z Q dm r1 r2 h q
  unfold dIn at h
  cases e2 : inD d e with
  | none => rw [e2] at h; cases h
  | some b =>
    rw [e2] at h
    cases h
    obtain ⟨p, ps, h1, h2, h3, h4, rfl⟩ := inD_of e2
    exact ⟨p, ps, r1.dp h1, r2.dp h2, h3, h4, q _ _ (fun _ _ e => e) (.bl _)⟩
theorem o_notin : DOp2 K (rNotInD K) dNotIn := by
  intro F0 F H x y d e z Q dm r1 r2 h q
  unfold dNotIn at h
  cases e2 : inD d e with
  | none => rw [e2] at h; cases h
  | some b =>
    rw [e2] at h
    cases h
    obtain ⟨p, ps, h1, h2, h3, h4, rfl⟩ := inD_of e2
    exact ⟨p, ps, r1.dp h1, r2.dp h2, h3, h4, q _ _ (fun _ _ e => e) (.bl _)⟩
end
@[simp] theorem dCutA_lst {ds : List D} {lo hi : Option Int} : dCutA (.lst ds) lo hi = some (.lst (cutD ds lo hi)) := rfl
@[simp] theorem dCutA_tup {ds : List D} {lo hi : Option Int} : dCutA (.tup ds) lo hi = some (.tup (cutD ds lo hi)) := rfl
end MM

/-! M24: a text == a dict; x in a tuple. -/
namespace MM
open PySem PySem.Spec PyProof.Rows L2
theorem str_eq_no_dict (b : Str) (u : Tok) (l : Addr) (o : Obj) (es : Array DictEntry) (n : Nat) (hd : o.data = .dict es n) :
    Meets (Builtin.«str.__eq__» ⟨[.str b u, .ref l], []⟩) (fun _ R s => s.heap.get? l = some o ∧ R (.ok (.ret .notImplemented)) s) :=
  .of_wp fun prog w A R s h => by
    obtain ⟨hp, g, d, tk, os⟩ := s; obtain ⟨hl, h⟩ := h; obtain ⟨cls, dd, data, sl⟩ := o
    simp only at hd; subst hd
    wp_walk using wpAny_loadPart' hl, wpAny_load hl; exact ⟨_, rfl, h⟩
theorem dict_eq_no_str (b : Str) (u : Tok) (l : Addr) (o : Obj) (hc : o.cls = .type "dict") (es : Array DictEntry) (n : Nat) (hd : o.data = .dict es n) :
    Meets (Builtin.«dict.__eq__» ⟨[.ref l, .str b u], []⟩) (fun _ R s => s.heap.get? l = some o ∧ R (.ok (.ret .notImplemented)) s) :=
  .of_wp fun prog w A R s h => by
    obtain ⟨hp, g, d, tk, os⟩ := s; obtain ⟨hl, h⟩ := h; obtain ⟨cls, dd, data, sl⟩ := o
    simp only at hd hc; subst hd; subst hc
    have f1 := PySem.F.sub_str_dict
    wp_walk using wpAny_loadPart' hl, wpAny_load hl; exact ⟨_, rfl, h⟩
section
variable {X : Cx} {W : WX} {τ : Type} [Sto τ] {K : Fg}
def rEqSD : R2 := fun x y H Q => ∃ z p, x = V.str z ∧ y = V.ref p ∧ ((∃ kvs, H p = some (.dK kvs)) ∨ ∃ kvs, H p = some (.dT kvs)) ∧ Q (.bl false) H
theorem op_eqSD (hu : X.A.units < cLine) : OpR X (compareOp .Eq) rEqSD := by
  intro pins s σ H x y v u Q I rx ry h
  obtain ⟨z, p, rfl, rfl, hp, q⟩ := h
  obtain ⟨t, rfl⟩ := rx
  cases ry
  obtain ⟨o, ho, hc, es, n, he⟩ : ∃ o, s.heap.get? p = some o ∧ o.cls = .type "dict" ∧ ∃ es n, o.data = .dict es n := by
    rcases hp with ⟨kvs, hp⟩ | ⟨kvs, hp⟩
    · obtain ⟨_, _, vs, _, o, es, ep, ho, hx, hdat, _⟩ := dk_of I.hok hp
      exact ⟨o, ho, hx.1, es, ep, hdat⟩
    · obtain ⟨_, _, vs, _, o, es, ep, ho, hx, hdat, _⟩ := dt_rd I.hok (.inl hp)
      exact ⟨o, ho, hx.1, es, ep, hdat⟩
  exact SeqAt.rc_eq_decline_or (k := false) (typeIs_str s z t) ⟨o, ho, hc⟩ (by decide) PySem.F.sub_dict_str PySem.F.slot_str_eq PySem.F.slot_dict_eq_refl
    (fun _ hq => call_meets PySem.F.slot_str_eq (typeIs_str s z t) PySem.F.entry_str_eq (PySem.F.args_str_eq_2 _ _) (str_eq_no_dict z t p o es n he) ⟨ho, hq⟩)
    (fun _ hq => call_meets PySem.F.slot_dict_eq_refl ⟨o, ho, hc⟩ PySem.F.entry_dict_eq (PySem.F.args_dict_eq_2 _ _) (dict_eq_no_str z t p o hc es n he) ⟨ho, hq⟩)
    (fun _ hq => wpAny_of_eq (rfl : isSame (.str z t) (.ref p) = pure false) hq) (.inr hu) ⟨.bl false, H, I, rfl, q⟩
def dEqX : D → D → Option D := fun d e => match d, e with
  | .str _, .dct [] [] => some (.bl false)
  | d, e => dEq d e
theorem o_eqX : DOp2 K (fun x y H Q => rEqSD x y H Q ∨ rEqD K x y H Q) dEqX := fun F0 F H x y d e z Q dm rx ry q k => by
  unfold dEqX at q
  split at q
  · cases q
    rename_i a
    cases rx.strOf
    refine .inl ?_
    generalize e1 : ([] : List D) = ks at ry
    generalize e2 : D.dct ks ks = dd at ry
    cases ry with
    | of r =>
      cases r <;> first
        | (cases e2; done)
        | skip
      · rename_i nF h1 rs
        exact ⟨a, _, rfl, rfl, .inl ⟨_, h1⟩, k _ H (Same.refl H) (.bl _)⟩
      · rename_i ne h1 ox kt rs
        rename_i es _ _
        cases es with
        | nil => exact absurd rfl ne
        | cons p es => simp_all
    | lst h rs => cases e2
    | dct n h rs =>
      cases rs with
      | k rs => exact ⟨a, _, rfl, rfl, .inl ⟨_, h⟩, k _ H (Same.refl H) (.bl _)⟩
      | x ne ox kt rs =>
        rename_i es
        cases es with
        | nil => exact absurd rfl ne
        | cons p es => simp_all
  · exact .inr (o_eq F0 F H x y d e z Q dm rx ry q k)
@[simp] theorem dEqX_sd {x : Str} : dEqX (.str x) (.dct [] []) = some (.bl false) := rfl
end
end MM

/-! M25: objects that are made once: making, fields, methods by the object's class, isinstance; is True. -/
namespace MM
open PySem PySem.Spec PyProof.Rows L2
section
variable {X : Cx} {W : WX} {τ : Type} [Sto τ] {K : Fg}
/-! ### a field as a target -/
def gFld (K : Fg) (to : TE) (f : Str) : TG := fun v σ H Q => to σ H fun x H1 => ∃ a C dx fs, x = .ref a ∧ H1 a = some (.ins C dx fs) ∧ Cls K C ∧ NoAttr K C f ∧ fs.length < 1000 ∧ Q σ (upd H1 a (.ins C dx (putF f v fs)))
theorem pg_fld {o : Expr} {f : Str} {to : TE} {pos : Pos} (ho : PE X o to) : PG X (.Attribute o f pos) (gFld X.K to f) := by
  refine ⟨fun pins s σ H v u Q I r h => ?_⟩
  rw [assign_Attribute]
  refine wpAny_bind (wpAny_holding (thn (ho.run pins s σ H _ I h) fun ov s1 ⟨x, H1, I1, r1, a, C, dx, fs, ex, ea, c, n, l, q1⟩ => ?_))
  subst ex
  obtain rfl : ov = Value.ref a := r1
  refine wpAny_bind (wpAny_standAt (wpAny_bind (wpAny_holding (setattr_ok I1 ea c n l r fun s3 I3 => ?_))))
  exact wpAny_release ⟨σ, _, I3, q1⟩
/-! ### what is known of a class -/
structure ClsF (K : Fg) (C : Str) : Prop where
  cl : Cls K (He.ga K C)
  ha : PySem.W.findIn K (.ref (He.ga K C)) "__class__" = some (some (.builtin "object.__class__"))
  hn : PySem.W.specialIn K (.builtin "object.__class__") "__get__" = some (some (.builtin "getset_descriptor.__get__"))
  htk : PySem.W.takesIn K (.builtin "object.__class__") = some true
  hm : PySem.W.mroIn K (He.ga K C) (.type "object") = some true
theorem ClsF.ty (c : ClsF K C) {H : Hp} {a dx : Addr} {fs : List (Str × V)} (e : H a = some (.ins (He.ga K C) dx fs)) : TyX K H (.ref a) (.ref (He.ga K C)) := .base (.ins e c.cl c.ha c.hn c.htk c.hm)
theorem RepW.objOf {F0 F : Fp} {H : Hp} {v : V} {C : Str} {ns : List Str} {ds : List D} (r : RepW K F0 F H v (.obj C ns ds)) : ∃ a dx fs, v = .ref a ∧ ¬ F a ∧ H a = some (.ins (He.ga K C) dx fs) ∧ fs.map (·.1) = ns ∧ Reps K F H (fs.map (·.2)) ds := by
  cases r with
  | of r => cases r with
    | obj n h rs => exact ⟨_, _, _, rfl, n, h, rfl, rs⟩
/-! ### o.f -/
def fldD (ns : List Str) (ds : List D) (f : Str) : Option D := match ns, ds with
  | n :: ns, d :: ds => if n = f then some d else fldD ns ds f
  | _, _ => none
theorem fld_at {F : Fp} {H : Hp} {f : Str} : ∀ {fs : List (Str × V)} {ds : List D} {d : D}, Reps K F H (fs.map (·.2)) ds → fldD (fs.map (·.1)) ds f = some d → ∃ v, fs.lookup f = some v ∧ Rep K F H v d
  | [], _, _, .nil, e => by cases e
  | (n, v) :: fs, _, d, .cons r t, e => by
    simp only [List.map_cons, fldD] at e
    split at e
    · rename_i q
      cases e
      subst q
      exact ⟨v, by simp [List.lookup_cons], r⟩
    · rename_i q
      obtain ⟨w, h1, h2⟩ := fld_at t e
      refine ⟨w, ?_, h2⟩
      rw [List.lookup_cons]
      have : (f == n) = false := by
        apply Bool.eq_false_iff.mpr
        intro z
        exact q (eq_of_beq z).symm
      rw [this]; exact h1
/-- cs: the classes of the program's own that may stand there -/
def eFld (cs : List Str) (f : Str) : D → Option D
  | .obj C ns ds => if C ∈ cs then fldD ns ds f else none
  | _ => none
theorem me_fld {o : Expr} {f : Str} {pos : Pos} {cs : List Str} {m : ME τ D} (h : PE X o (tW X.K W m)) (hc : ∀ C ∈ cs, ClsF X.K C ∧ NoAttr X.K (He.ga X.K C) f) (hb : attributeBase o f X.env (eval o X.env) = eval o X.env := by rfl) : PE X (.Attribute o f pos) (tE X.K W (MM.e1 (eFld cs f) m)) :=
  PE.imp (pe_fld h hb) fun σ H Q ⟨C, ρ, t, A, p⟩ => by
    refine use okE A p fun d t1 v H1 e1 s1 A1 r1 p1 => ?_
    unfold eFld at p1
    split at p1
    · split at p1
      · rename_i C ns ds hm
        obtain ⟨a, dx, fs, rfl, nF, ha, rfl, rs⟩ := r1.objOf
        cases e : fldD (fs.map (·.1)) ds f with
        | none => rw [e] at p1; exact p1.elim
        | some d =>
          rw [e] at p1
          obtain ⟨w, h1, h2⟩ := fld_at rs e
          obtain ⟨c1, c2⟩ := hc C hm
          exact ⟨a, _, dx, fs, w, rfl, ha, c1.cl, c2, h1, p1 w H1 (Sm.refl _ _) A1.st h2⟩
      · exact p1.elim
    · exact p1.elim
/-! ### o.m(e): the def that o's class has -/
structure MethE (P : Program) (w : World) (K : Fg) (mg : Str → Option Value) (base : Heap) (k : Nat) (C m : Str) (np : Nat) (mf : List D → Unit → Res Unit D) : Prop where
  ex : ∃ (fd : FuncData) (ps : List Str), FnOk P w K mg base (L2.CX P w) k (He.ma K (He.ga K C) m) fd ps (spF np K mf) ∧ Binds K fd ps [] ∧ ClsF K C ∧ Meth K (He.ga K C) m (He.ma K (He.ga K C) m)
theorem MethE.mono {P : Program} {w : World} {mg : Str → Option Value} {base : Heap} {j k : Nat} {C m : Str} {np : Nat} {mf : List D → Unit → Res Unit D} (F : MethE P w K mg base j C m np mf) (h : j ≤ k) : MethE P w K mg base k C m np mf := by
  obtain ⟨fd, ps, f1, f2⟩ := F.ex
  exact ⟨fd, ps, f1.mono h, f2⟩
def tMethD (K : Fg) (np : Nat) (tbl : List (Str × (List D → Unit → Res Unit D))) (m : Str) (ta : TE) (t : TA) : TE := fun σ H Q => ta σ H fun x H1 => ∃ (a dx : Addr) (C : Str) (fs : List (Str × V)) (mf : List D → Unit → Res Unit D), x = .ref a ∧ (C, mf) ∈ tbl ∧ H1 a = some (.ins (He.ga K C) dx fs) ∧ fs.lookup m = none ∧
  t σ H1 fun vs H2 => spF np K mf (x :: vs) H2 Q (fun _ _ _ => False)
theorem pe_methD {k np : Nat} {tbl : List (Str × (List D → Unit → Res Unit D))} {m : Str} {o e : Expr} {es : List Expr} {ta : TE} {t : TA} {apos pos : Pos} {pl : Sem Bool} (hT : ∀ p ∈ tbl, MethE X.prog X.w X.K X.mg X.base k p.1 m np p.2) (hr : Room k X.A) (he : PE X o ta) (ha : PA X (e :: es) t)
    (hst : starEach (e :: es) X.env = (false, eval e X.env) :: starEach es X.env := by rfl) (hpl : (backTo pos (starEach es X.env)).any (·.1) = false := by rfl)
    (ht : eval (.Call (.Attribute o m apos) (e :: es) [] pos) X.env = (do
      let ov ← eval o X.env
      standAt apos.atName
      let (f, first) ← holding [ov] (getMethod ov m pl)
      callWith pos f first (backTo pos (starEach (e :: es) X.env)) (backToKw pos (keywordEach [] X.env))) := by rfl) :
    PE X (.Call (.Attribute o m apos) (e :: es) [] pos) (tMethD X.K np tbl m ta t) := by
  refine ⟨fun pins s σ H Q I h => ?_⟩
  refine PySem.W.methodCall_KW (pl := pl) (thn (he.run pins s σ H _ I h) fun u s1 ⟨x, H1, I1, rx, a, dx, C, fs, mf, ex, hm, ea, l, q⟩ => ?_) ht
  subst ex
  obtain rfl : u = Value.ref a := rx
  obtain ⟨fd, ps, F, hb, c, M⟩ := (hT _ hm).ex
  refine getmeth_ok I1 ea c.cl M l ?_
  refine PySem.W.callWith_K (first := [.ref a]) (h₀ := X.base) I.ok.mod.kin M.kp (thn (ha.run pos pins s1 σ H1 _ I1 q) fun us s2 ⟨vs, H2, I2, r, q2⟩ => ⟨I2.kIn, ?_⟩) hst hpl
  refine run_fn (us := .ref a :: us) (vs := .ref a :: vs) (ds := []) (dvs := []) (E := fun _ _ _ => False) F hr hb .nil (fun pins σ H s e s' I h => ?_) I2 (.cons rfl r) (by rw [List.append_nil]; exact q2)
  obtain ⟨_, _, _, _, _, _, _, _, _, _, _, _, z⟩ := h
  exact z.elim
def eMeth (m : Str) (tbl : List (Str × (List D → Unit → Res Unit D))) (mo : ME τ D) (ma : ME τ (List D)) : ME τ D := fun ρ t => (mo ρ t).bind fun d t => match d with
  | .obj C ns _ => if m ∈ ns then .bad else match tbl.lookup C with
    | some mf => (ma ρ t).bind fun ds t => match mf (d :: ds) () with
      | .ok r _ => .ok r t
      | _ => .bad
    | none => .bad
  | _ => .bad
theorem lookup_mem {α β : Type} [BEq α] [LawfulBEq α] {x : α} {y : β} : ∀ {l : List (α × β)}, l.lookup x = some y → (x, y) ∈ l
  | [], e => by cases e
  | (a, b) :: l, e => by
    rw [List.lookup_cons] at e
    cases h : x == a with
    | true => rw [h] at e; cases e; rw [eq_of_beq h]; exact List.mem_cons_self
    | false => rw [h] at e; exact List.mem_cons_of_mem _ (lookup_mem e)
theorem lookup_no {α β : Type} [BEq α] [LawfulBEq α] {x : α} : ∀ {l : List (α × β)}, x ∉ l.map (·.1) → l.lookup x = none
  | [], _ => rfl
  | (a, b) :: l, h => by
    rw [List.lookup_cons]
    have : (x == a) = false := by
      apply Bool.eq_false_iff.mpr
      intro z
      exact h (by rw [eq_of_beq z]; exact List.mem_cons_self)
    rw [this]
    exact lookup_no fun z => h (List.mem_cons_of_mem _ z)
theorem me_meth {k np j : Nat} {tbl : List (Str × (List D → Unit → Res Unit D))} {m : Str} {o e : Expr} {es : List Expr} {mo : ME τ D} {ma : ME τ (List D)} {apos pos : Pos} {pl : Sem Bool} (hT : ∀ p ∈ tbl, MethE X.prog X.w X.K X.mg X.base k p.1 m np p.2) (hr : Room k X.A) (hn : ALen ma j) (he : PE X o (tE X.K W mo)) (ha : PA X (e :: es) (tA X.K W ma)) (hj : j + 1 = np := by rfl)
    (hst : starEach (e :: es) X.env = (false, eval e X.env) :: starEach es X.env := by rfl) (hpl : (backTo pos (starEach es X.env)).any (·.1) = false := by rfl)
    (ht : eval (.Call (.Attribute o m apos) (e :: es) [] pos) X.env = (do
      let ov ← eval o X.env
      standAt apos.atName
      let (f, first) ← holding [ov] (getMethod ov m pl)
      callWith pos f first (backTo pos (starEach (e :: es) X.env)) (backToKw pos (keywordEach [] X.env))) := by rfl) :
    PE X (.Call (.Attribute o m apos) (e :: es) [] pos) (tE X.K W (eMeth m tbl mo ma)) := PE.imp (pe_methD (pl := pl) hT hr he ha hst hpl ht) fun σ H Q ⟨C, ρ, t, A, p⟩ => by
  refine use okE A p fun d t1 v H1 e1 s1 A1 r1 p1 => ?_
  cases d <;> first
    | exact p1.elim
    | skip
  rename_i Cn ns ds0
  dsimp only at p1
  split at p1
  · exact p1.elim
  · rename_i hns
    split at p1
    · rename_i mf hmf
      obtain ⟨a, dx, fs, rfl, nF, ha', rfl, rs⟩ := RepW.objOf (F0 := Fo C.F ρ σ) (RepW.of r1)
      refine ⟨a, dx, Cn, fs, mf, rfl, lookup_mem hmf, ha', lookup_no hns, ?_⟩
      refine use okE A1 p1 fun ds t2 vs H2 e2 s2 A2 r2 p2 => ?_
      have r1' : Rep X.K (Fo C.F ρ σ) H2 (.ref a) (.obj Cn (fs.map (·.1)) ds0) := r1.same (s2.mono fun _ => Fo.base)
      generalize D.obj Cn (fs.map (·.1)) ds0 = d0 at r1' p2
      have rr : Reps X.K (Fo C.F ρ σ) H2 (.ref a :: vs) (d0 :: ds) := .cons r1' r2
      refine ⟨SC.pure (Fo C.F ρ σ) H2 A2.dom, d0 :: ds, (), trivial, ⟨Stp.refl _ _, fun _ _ _ e => e⟩, rr, by rw [List.length_cons, hn _ _ _ _ e2, hj], ?_⟩
      cases e : mf (d0 :: ds) () with
      | ok d u =>
        rw [e] at p2
        exact fun v H' s i r => p2 v H' (Sm.of_same (SC.pure_same i)) (C.stay A2.st (SC.pure_same i)) r
      | ex n fs u => rw [e] at p2; exact p2.elim
      | bad => rw [e] at p2; exact p2.elim
    · exact p1.elim
/-! ### making: __init__ keeps its one argument, a tuple, and two of its parts -/
def initD (f0 f1 f2 : Str) (i j : Nat) : List D → Option (List Str × List D)
  | [.tup ds] => match ds[i]?, ds[j]? with
    | some a, some b => some ([f0, f1, f2], [.tup ds, a, b])
    | _, _ => none
  | _ => none
def spI (K : Fg) (f0 f1 f2 : Str) (i j : Nat) : Sp := fun vs H Q _ => ∃ (x a dx : Addr) (C : Str) (xs : List V) (v w : V), vs = [.ref x, .ref a] ∧ H x = some (.ins (He.ga K C) dx []) ∧ Cls K (He.ga K C) ∧ NoAttr K (He.ga K C) f0 ∧ NoAttr K (He.ga K C) f1 ∧ NoAttr K (He.ga K C) f2 ∧ SqT K H a xs ∧ xs[i]? = some v ∧ xs[j]? = some w ∧
  ∀ H', (∀ b o, b ≠ x → H b = some o → H' b = some o) → H' x = some (.ins (He.ga K C) dx [(f0, .ref a), (f1, v), (f2, w)]) → Q .non H'
theorem SqT.upd_ne {H : Hp} {a x : Addr} {o o' : HO} {xs : List V} (h : SqT K H a xs) (hx : H x = some o) (ho : ∀ ys, o ≠ .tup ys) (hf : ∀ oo ys, o ≠ .frz oo (.tup ys)) : SqT K (upd H x o') a xs := by
  rcases h with h | h
  · rcases h with h | ⟨oo, h⟩
    · refine .inl (.inl ?_)
      rw [L2.upd_ne]; exact h
      intro z; subst z; rw [hx] at h; cases h; exact ho _ rfl
    · refine .inl (.inr ⟨oo, ?_⟩)
      rw [L2.upd_ne]; exact h
      intro z; subst z; rw [hx] at h; cases h; exact hf _ _ rfl
  · exact .inr h
theorem pss_init {X : Cx} {p1 p2 p3 p4 p5 p6 p7 p8 p9 q1 q2 q3 q4 q5 q6 q7 q8 : Pos} {k1 k2 k3 k4 : Nat} (hc : X.calm = true) (h0 : PE X (.Name "self" p1) (tVar 0)) (h0' : PE X (.Name "self" p5) (tVar 0)) (h0'' : PE X (.Name "self" p7) (tVar 0)) (h1 : PE X (.Name "row" p3) (tVar 1)) (h1' : PE X (.Name "row" q1) (tVar 1)) (h1'' : PE X (.Name "row" q4) (tVar 1)) : PSs X [.Assign [.Attribute (.Name "self" p1) "row" p2] (.Name "row" p3) p4, .Assign [.Tuple [.Attribute (.Name "self" p5) "name" p6, .Attribute (.Name "self" p7) "mass" p8] k1 p9] (.Tuple [.Subscript (.Name "row" q1) (.Constant (.int 0) k2 q2) q3, .Subscript (.Name "row" q4) (.Constant (.int 2) k3 q5) q6] k4 q7) q8]
    (fun D σ H => ∃ (x a dx : Addr) (C : Str) (xs : List V) (v w : V), σ[0]? = some (some (.ref x)) ∧ σ[1]? = some (some (.ref a)) ∧ H x = some (.ins (He.ga X.K C) dx []) ∧ Cls X.K (He.ga X.K C) ∧ NoAttr X.K (He.ga X.K C) "row" ∧ NoAttr X.K (He.ga X.K C) "name" ∧ NoAttr X.K (He.ga X.K C) "mass" ∧ SqT X.K H a xs ∧ xs[0]? = some v ∧ xs[2]? = some w ∧
      ∀ H', (∀ b o, b ≠ x → H b = some o → H' b = some o) → H' x = some (.ins (He.ga X.K C) dx [("row", .ref a), ("name", v), ("mass", w)]) → D.nx σ H') := by
  refine PSs.imp (pss_cons (ps_fld h0 h1 (by rfl)) (pss_one (ps_asg (pe_tup (pa_cons (pe_ix ix_seq h1' pe_int (fun _ _ => rfl)) (pa_cons (pe_ix ix_seq h1'' pe_int (fun _ _ => rfl)) pa_nil))) (pg_tup hc (pgs_cons (pg_fld h0') (pgs_cons (pg_fld h0'') pgs_nil))) (hw := by unfold swappedStores; dsimp only; split <;> rfl)))) fun D σ H p => ?_
  obtain ⟨x, a, dx, C, xs, v, w, s0, s1, hx, c, n0, n1, n2, hq, e0, e2, q⟩ := p
  refine ⟨_, s1, _, s0, x, _, dx, [], rfl, hx, c, n0, (by show 0 < 1000; decide), ?_⟩
  have hq2 := SqT.upd_ne (o' := .ins (He.ga X.K C) dx (putF "row" (.ref a) [])) hq hx (fun _ z => nomatch z) (fun _ _ z => nomatch z)
  refine ⟨_, s1, .inr (.inl ⟨a, xs, 0, v, rfl, rfl, hq2, atI_nat (j := 0) e0, ?_⟩)⟩
  refine ⟨_, s1, .inr (.inl ⟨a, xs, 2, w, rfl, rfl, hq2, atI_nat (j := 2) e2, ?_⟩)⟩
  refine ⟨by show 2 ≤ sizeLine; decide, fun t nt => ?_⟩
  have tx : t ≠ x := fun z => by rw [z, upd_same] at nt; cases nt
  refine ⟨t, [v, w], rfl, .inl (.inl upd_same), rfl, _, _, rfl, ?_⟩
  refine ⟨_, s0, x, _, dx, _, rfl, by rw [L2.upd_ne (Ne.symm tx), upd_same], c, n1, (by show 1 < 1000; decide), ?_⟩
  refine ⟨_, _, rfl, _, s0, x, _, dx, _, rfl, upd_same, c, n2, (by show 2 < 1000; decide), ⟨rfl, ?_⟩⟩
  refine q _ (fun b o hb e => ?_) upd_same
  rw [L2.upd_ne hb, L2.upd_ne hb, L2.upd_ne (fun z => ?_), L2.upd_ne hb]
  · exact e
  · subst z
    rw [L2.upd_ne hb, e] at nt
    cases nt
/-- the promise of that __init__ -/
theorem init_fn {P : Program} {w : World} {mg : Str → Option Value} {base : Heap} {qual : Str} {params : Arguments} {body : List Stmt} {scope : Scope} {f : Addr} {fd : FuncData} {N : List Str} (hN : N = (["self", "row"] : List Str)) (F : FunD K "__init__" qual params body scope [] [] f fd) (S : FnScope N ["self", "row"] scope) (hs : scope.names.lookup (Str.ofString "self") = some .local) (hr1 : scope.names.lookup (Str.ofString "row") = some .local)
    {p1 p2 p3 p4 p5 p6 p7 p8 p9 q1 q2 q3 q4 q5 q6 q7 q8 : Pos} {k1 k2 k3 k4 : Nat} (hb : body = [.Assign [.Attribute (.Name "self" p1) "row" p2] (.Name "row" p3) p4, .Assign [.Tuple [.Attribute (.Name "self" p5) "name" p6, .Attribute (.Name "self" p7) "mass" p8] k1 p9] (.Tuple [.Subscript (.Name "row" q1) (.Constant (.int 0) k2 q2) q3, .Subscript (.Name "row" q4) (.Constant (.int 2) k3 q5) q6] k4 q7) q8]) :
    FnOk P w K mg base (L2.CX P w) 1 f fd ["self", "row"] (spI K "row" "name" "mass" 0 2) := by
  subst hb; subst hN
  refine F.ok S (fun vs H Q E ⟨x, a, dx, C, xs, v, w, e, _⟩ => by rw [e]; rfl) fun cdv A outer s H vs Q E hr ⟨x, a, dx, C, xs, v, w, e, hx, c, n0, n1, n2, hq, e0, e2, q⟩ => ⟨_, pss_init rfl (pv 0 (hv := .inl hs)) (pv 0 (hv := .inl hs)) (pv 0 (hv := .inl hs)) (pv 1 (hv := .inl hr1)) (pv 1 (hv := .inl hr1)) (pv 1 (hv := .inl hr1)), x, a, dx, C, xs, v, w, ?_⟩
  subst e
  exact ⟨rfl, rfl, hx, c, n0, n1, n2, hq, e0, e2, fun H' h1 h2 => q H' h1 h2⟩
structure MakeE (P : Program) (w : World) (K : Fg) (mg : Str → Option Value) (base : Heap) (C f0 f1 f2 : Str) (i j : Nat) : Prop where
  ex : ∃ (fd : FuncData) (ps : List Str), FnOk P w K mg base (L2.CX P w) 1 (He.ma K (He.ga K C) "__init__") fd ps (spI K f0 f1 f2 i j) ∧ Binds K fd ps [] ∧ ClsF K C ∧ Mk K (He.ga K C) (He.ma K (He.ga K C) "__init__") ∧ mg C = some (.ref (He.ga K C))
  n0 : NoAttr K (He.ga K C) f0
  n1 : NoAttr K (He.ga K C) f1
  n2 : NoAttr K (He.ga K C) f2
def eMake (C f0 f1 f2 : Str) (i j : Nat) (ma : ME τ (List D)) : ME τ D := fun ρ t => (ma ρ t).bind fun ds t => match initD f0 f1 f2 i j ds with
  | some (ns, es) => .ok (.obj C ns es) t
  | none => .bad
theorem me_make {C f0 f1 f2 : Str} {i j : Nat} {e : Expr} {p pos : Pos} {ma : ME τ (List D)} (M : MakeE X.prog X.w X.K X.mg X.base C f0 f1 f2 i j) (hr : Room 2 X.A) (hg : Gl X C) (ha : PA X [e] (tA X.K W ma)) (hdb : (C == ("__debug__" : Str)) = false := by decide)
    (he : starEach [e] X.env = (false, eval e X.env) :: starEach [] X.env := by rfl) (hpl : (backTo pos (starEach [] X.env)).any (·.1) = false := by rfl) : PE X (.Call (.Name C p) [e] [] pos) (tE X.K W (eMake C f0 f1 f2 i j ma)) := by
  obtain ⟨fd, ps, F, hb, cf, mk, hm⟩ := M.ex
  refine PE.imp (pe_make (E := fun _ _ _ => False) mk F hr hg hm hb .nil (fun pins σ H s e s' I h => by obtain ⟨_, _, _, _, _, _, _, _, _, _, _, _, z⟩ := h; exact z.elim) ha hdb he hpl) fun σ H Q ⟨C', ρ, t, A, p⟩ => ?_
  refine use okE A p fun ds t1 vs H1 e1 s1 A1 r1 p1 => ?_
  intro x dx nx ndx nex
  unfold initD at p1
  split at p1
  · rename_i ns es he'
    split at he'
    · rename_i ds0
      split at he'
      · rename_i a b ea eb
        cases he'
        cases r1 with
        | cons r r0 =>
          cases r0
          obtain ⟨ad, xs, rfl, hq, rs⟩ := RepW.tupOf (F0 := Fo C'.F ρ σ) (RepW.of r)
          obtain ⟨v, hv, rv⟩ := rs.get ea
          obtain ⟨u, hu, ru⟩ := rs.get eb
          have old : ∀ b o, H1 b = some o → b ≠ x ∧ b ≠ dx := fun b o e => ⟨fun z => by (rw [z, nx] at e; cases e), fun z => by (rw [z, ndx] at e; cases e)⟩
          have hq' : SqT X.K (upd (upd H1 dx (.own x)) x (.ins (He.ga X.K C) dx [])) ad xs := by
            rcases hq.sq with h | h
            · rcases h with h | ⟨o, h⟩
              · exact .inl (.inl (by rw [L2.upd_ne (old _ _ h).1, L2.upd_ne (old _ _ h).2]; exact h))
              · exact .inl (.inr ⟨o, by rw [L2.upd_ne (old _ _ h).1, L2.upd_ne (old _ _ h).2]; exact h⟩)
            · exact .inr h
          refine ⟨x, ad, dx, C, xs, v, u, rfl, upd_same, cf.cl, M.n0, M.n1, M.n2, hq', hv, hu, fun H' k1 k2 => ⟨rfl, ?_⟩⟩
          have same : Same H1 H' := fun b o e => k1 b o (old b o e).1 (by rw [L2.upd_ne (old b o e).1, L2.upd_ne (old b o e).2]; exact e)
          refine p1 _ H' (Sm.of_same same) (C'.stay A1.st same) ?_
          have sm := Sm.of_same (F := Fo C'.F ρ σ) same
          have := Rep.obj (K := X.K) (F := Fo C'.F ρ σ) (H := H') (a := x) (dx := dx) (C := C) (fs := [(f0, V.ref ad), (f1, v), (f2, u)]) (ds := [.tup ds0, a, b]) (fun z => A1.dom x z nx) k2 (.cons (r.same sm) (.cons (rv.same sm) (.cons (ru.same sm) .nil)))
          exact this
      · cases he'
    · cases he'
  · exact p1.elim
/-! ### isinstance(o, C) of own classes -/
def eIsO (tbl : List (Str × Bool)) : D → Option D
  | .obj C _ _ => (tbl.lookup C).map .bl
  | _ => none
theorem me_isO {Cn : Str} {tbl : List (Str × Bool)} {o c : Expr} {p pos : Pos} {m : ME τ D} (hg : Gl X "isinstance") (hm : X.mg "isinstance" = none) (h : PE X o (tW X.K W m)) (hc : PE X c (tC (.ref (He.ga X.K Cn)))) (hT : ∀ q ∈ tbl, ClsF X.K q.1 ∧ PySem.W.kitOne X.K (.ref (He.ga X.K q.1)) (.ref (He.ga X.K Cn)) = some q.2)
    (he : starEach [o, c] X.env = (false, eval o X.env) :: starEach [c] X.env := by rfl) (he2 : starEach [c] X.env = (false, eval c X.env) :: starEach [] X.env := by rfl) (hpl : (backTo pos (starEach [c] X.env)).any (·.1) = false := by rfl) :
    PE X (.Call (.Name "isinstance" p) [o, c] [] pos) (tE X.K W (MM.e1 (eIsO tbl) m)) := PE.imp (pe_callB call_isi hg hm (by decide +kernel) (pa_cons h (pa_cons hc pa_nil he2) he) (by decide) (by decide) he hpl) fun σ H Q ⟨C, ρ, t, A, p⟩ => by
  refine use okE A p fun d t1 v H1 e1 s1 A1 r1 p1 => ?_
  unfold eIsO at p1
  split at p1
  · rename_i Co ns ds
    cases e : tbl.lookup Co with
    | none => rw [e] at p1; exact p1.elim
    | some b =>
      rw [e] at p1
      obtain ⟨a, dx, fs, rfl, nF, ha, rfl, rs⟩ := r1.objOf
      obtain ⟨cf, kit⟩ := hT _ (lookup_mem e)
      exact ⟨.ref a, .ref (He.ga X.K Cn), .ref (He.ga X.K Co), .ref (He.ga X.K Cn), b, rfl, .own _, cf.ty ha, kit, p1 _ H1 (Sm.refl _ _) A1.st (.bl b)⟩
  · exact p1.elim
end
section
variable {X : Cx} {K : Fg}
/-! ### x is True -/
def dIsB : D → D → Option D := fun d e => match d, e with
  | .bl a, .bl b => some (.bl (decide (a = b)))
  | _, _ => none
def dIsntB : D → D → Option D := fun d e => match d, e with
  | .bl a, .bl b => some (.bl (!decide (a = b)))
  | _, _ => none
theorem o_isB : DOp2 K rIsB dIsB := fun F0 F H x y d e z Q dm rx ry q k => by
  unfold dIsB at q
  split at q
  · cases q
    exact ⟨_, _, rx.blOf, ry.blOf, k _ H (Same.refl H) (.bl _)⟩
  · cases q
theorem o_isntB : DOp2 K rNotB dIsntB := fun F0 F H x y d e z Q dm rx ry q k => by
  unfold dIsntB at q
  split at q
  · cases q
    exact ⟨_, _, rx.blOf, ry.blOf, k _ H (Same.refl H) (.bl _)⟩
  · cases q
@[simp] theorem dIsB_bl {a b : Bool} : dIsB (.bl a) (.bl b) = some (.bl (decide (a = b))) := rfl
@[simp] theorem dIsntB_bl {a b : Bool} : dIsntB (.bl a) (.bl b) = some (.bl (!decide (a = b))) := rfl
end
/-! ### facts of the head -/
theorem fm_nil {α : Type} {p : α → Prop} : ∀ x ∈ ([] : List α), p x := fun _ h => nomatch h
theorem fm_cons {α : Type} {p : α → Prop} {x : α} {l : List α} (h : p x) (t : ∀ y ∈ l, p y) : ∀ y ∈ x :: l, p y := fun y hy => by
  rcases List.mem_cons.mp hy with rfl | hy
  · exact h
  · exact t y hy
def clsBody : Stmt → List Stmt
  | .ClassDef _ _ _ body _ _ _ _ _ _ _ => body
  | _ => []
def cClsF (x : Str) : Fg → Bool := fun K => He.Fa.ok K (.cls x) && (decide (PySem.W.findIn K (.ref (He.ga K x)) "__class__" = some (some (.builtin "object.__class__"))) && (decide (PySem.W.specialIn K (.builtin "object.__class__") "__get__" = some (some (.builtin "getset_descriptor.__get__"))) &&
  (decide (PySem.W.takesIn K (.builtin "object.__class__") = some true) && decide (PySem.W.mroIn K (He.ga K x) (.type "object") = some true))))
def cNoat (x f : Str) : Fg → Bool := fun K => decide (PySem.W.findIn K (.ref (He.ga K x)) f = some none)
def cMeth (x m : Str) : Fg → Bool := fun K => He.Fa.ok K (.meth x m)
def cMkr (x : Str) : Fg → Bool := fun K => He.Fa.ok K (.mkr x)
section
variable {K : Fg}
theorem cClsF_ok {x : Str} (c : cClsF x K = true) : ClsF K x := by
  obtain ⟨c0, c⟩ := He.ba c
  obtain ⟨c1, c⟩ := He.ba c
  obtain ⟨c2, c⟩ := He.ba c
  obtain ⟨c3, c4⟩ := He.ba c
  obtain ⟨d1, d⟩ := He.ba (show (PySem.W.plainGet K (He.ga K x) Str.empty && (PySem.W.hasDictIn K (He.ga K x) && (PySem.W.plainOver K (He.ga K x) && He.eqO (PySem.W.findIn K (.ref (He.ga K x)) "__setattr__") (some (some (.builtin "object.__setattr__")))))) = true from c0)
  obtain ⟨d2, d⟩ := He.ba d
  obtain ⟨d3, d4⟩ := He.ba d
  exact ⟨⟨d1, d2, d3, He.eqO_ok d4⟩, of_decide_eq_true c1, of_decide_eq_true c2, of_decide_eq_true c3, of_decide_eq_true c4⟩
theorem cNoat_ok {x f : Str} (c : cNoat x f K = true) : NoAttr K (He.ga K x) f := by
  unfold NoAttr
  exact of_decide_eq_true c
theorem cMeth_ok {x m : Str} (c : cMeth x m K = true) : Meth K (He.ga K x) m (He.ma K (He.ga K x) m) := by
  obtain ⟨d1, d⟩ := He.ba (show (He.eqO (PySem.W.findIn K (.ref (He.ga K x)) m) (some (some (.ref (He.ma K (He.ga K x) m)))) && (PySem.W.isFn K (.ref (He.ma K (He.ga K x) m)) && PySem.W.keepIn K (.ref (He.ma K (He.ga K x) m)))) = true from c)
  obtain ⟨d2, d3⟩ := He.ba d
  exact ⟨He.eqO_ok d1, d2, d3⟩
theorem cMkr_ok {x : Str} (c : cMkr x K = true) : Mk K (He.ga K x) (He.ma K (He.ga K x) "__init__") := by
  obtain ⟨d1, d⟩ := He.ba (show (PySem.W.makesIn K (He.ga K x) && (He.eqO (PySem.W.findIn K (.ref (He.ga K x)) "__init__") (some (some (.ref (He.ma K (He.ga K x) "__init__")))) && (PySem.W.isFn K (.ref (He.ma K (He.ga K x) "__init__")) && PySem.W.keepIn K (.ref (He.ga K x))))) = true from c)
  obtain ⟨d2, d⟩ := He.ba d
  obtain ⟨d3, d4⟩ := He.ba d
  exact ⟨d1, He.eqO_ok d2, d3, d4⟩
end
/-! ### reasoning -/
section
variable {τ : Type} {X : Str → Fds → τ → Prop} {ρ : Rho} {t : τ}
@[simp] theorem oE_meth {m : Str} {tbl : List (Str × (List D → Unit → Res Unit D))} {mo : ME τ D} {ma : ME τ (List D)} {Q : D → τ → Prop} : oE (eMeth m tbl mo ma ρ t) Q X = oE (mo ρ t) (fun d t => ∃ C ns vs, d = .obj C ns vs ∧ m ∉ ns ∧ ∃ mf, tbl.lookup C = some mf ∧ oE (ma ρ t) (fun ds t => oE (mf (d :: ds) ()) (fun r _ => Q r t) (fun _ _ _ => False)) X) X := by
  unfold eMeth
  rw [oE_bind]
  congr; funext d t
  cases d <;> try (simp; done)
  rename_i C ns vs
  dsimp only
  by_cases h : m ∈ ns
  · rw [if_pos h]
    refine propext ⟨fun z => z.elim, ?_⟩
    rintro ⟨C', ns', vs', e, h2, _⟩
    cases e
    exact h2 h
  · rw [if_neg h]
    have run : ∀ mf : List D → Unit → Res Unit D, oE ((ma ρ t).bind fun ds t => match mf (.obj C ns vs :: ds) () with
        | .ok r _ => .ok r t
        | _ => .bad) Q X = oE (ma ρ t) (fun ds t => oE (mf (.obj C ns vs :: ds) ()) (fun r _ => Q r t) (fun _ _ _ => False)) X := fun mf => by
      rw [oE_bind]; congr; funext ds t
      cases mf (.obj C ns vs :: ds) () <;> rfl
    cases e : tbl.lookup C with
    | none =>
      refine propext ⟨fun z => z.elim, ?_⟩
      rintro ⟨C', ns', vs', e', h2, mf, e3, _⟩
      cases e'
      rw [e] at e3; cases e3
    | some mf =>
      dsimp only
      rw [run mf]
      refine propext ⟨fun z => ⟨C, ns, vs, rfl, h, mf, e, z⟩, ?_⟩
      rintro ⟨C', ns', vs', e', h2, mf', e3, z⟩
      cases e'
      rw [e] at e3; cases e3
      exact z
@[simp] theorem oE_make {C f0 f1 f2 : Str} {i j : Nat} {ma : ME τ (List D)} {Q : D → τ → Prop} : oE (eMake C f0 f1 f2 i j ma ρ t) Q X = oE (ma ρ t) (fun ds t => ∃ r, initD f0 f1 f2 i j ds = some r ∧ Q (.obj C r.1 r.2) t) X := by
  unfold eMake
  rw [oE_bind]
  congr; funext ds t
  cases e : initD f0 f1 f2 i j ds <;> simp
end
end MM

/-! M26: dicts: keys as data, looking up, putting, comprehensions. -/
namespace MM
open PySem PySem.Spec PyProof.Rows L2
/-! ### keys as data -/
def keqD : D → D → Bool
  | .int i, .int j => decide (i = j)
  | .str x, .str y => decide (x = y)
  | .tup a, .tup b => match intsD a, intsD b with
    | some m, some n => decide (m = n)
    | _, _ => false
  | _, _ => false
def isAtK (k : D) : Bool := (keyOf k).isSome
def isTuK : D → Bool
  | .tup ds => (intsD ds).isSome
  | _ => false
def putL (ks xs : List D) (k v : D) : List D × List D := if (ks.any (keqD k)) = true then (ks, List.zipWith (fun k' x => if keqD k k' = true then v else x) ks xs) else (ks ++ [k], xs ++ [v])
def putAK (ks xs : List D) (k v : D) : Option (List D × List D) := if isAtK k = true ∧ ks.length < 16777216 then some (putL ks xs k v) else none
def putTK (ks xs : List D) (k v : D) : Option (List D × List D) := if isTuK k = true ∧ ks.length < 16777216 then some (putL ks xs k v) else none
def putD (ks xs : List D) (k v : D) : Option (List D × List D) := match ks with
  | .tup _ :: _ => putTK ks xs k v
  | _ => putAK ks xs k v
def lookL : List D → List D → D → Option D
  | k' :: ks, x :: xs, k => if keqD k k' = true then some x else lookL ks xs k
  | _, _, _ => none
theorem intsD_map : ∀ ns : List Int, intsD (ns.map D.int) = some ns
  | [] => rfl
  | n :: ns => by show (intsD (ns.map D.int)).map (n :: ·) = _; rw [intsD_map ns]; rfl
theorem intsD_inv : ∀ {ds : List D} {ns : List Int}, intsD ds = some ns → ds = ns.map D.int
  | [], ns, e => by cases e; rfl
  | d :: ds, ns, e => by
    cases d <;> first
      | (cases e; done)
      | skip
    rename_i i
    cases q : intsD ds with
    | none =>
      have e' : (intsD ds).map (i :: ·) = some ns := e
      rw [q] at e'; cases e'
    | some ms =>
      have e' : (intsD ds).map (i :: ·) = some ns := e
      rw [q] at e'; cases e'
      rw [intsD_inv q]; rfl
theorem keqD_at {k : D} {k' : Key} : keqD k (keyD k') = true ↔ k = keyD k' := by
  cases k' with
  | inl i =>
    cases k <;> simp [keqD, keyD]
  | inr x =>
    cases k <;> simp [keqD, keyD]
theorem keqD_tu {k : D} {ns : List Int} : keqD k (.tup (ns.map D.int)) = true ↔ k = .tup (ns.map D.int) := by
  cases k <;> simp [keqD]
  rename_i ds
  cases e : intsD ds with
  | none =>
    simp only [Bool.false_eq_true, false_iff]
    intro z
    rw [z, intsD_map] at e; cases e
  | some ms =>
    rw [intsD_map]
    simp only [decide_eq_true_eq]
    constructor
    · intro z; rw [intsD_inv e, z]
    · intro z; rw [z, intsD_map] at e; exact Option.some.inj e.symm
theorem keyD_of {k : D} (h : isAtK k = true) : ∃ k', k = keyD k' := by
  unfold isAtK at h
  cases k <;> first
    | exact ⟨.inl _, rfl⟩
    | exact ⟨.inr _, rfl⟩
    | cases h
theorem tuK_of {k : D} (h : isTuK k = true) : ∃ ns : List Int, k = .tup (ns.map D.int) := by
  cases k <;> first
    | (cases h; done)
    | skip
  rename_i ds
  have h' : (intsD ds).isSome = true := h
  cases e : intsD ds with
  | none => rw [e] at h'; cases h'
  | some ns => exact ⟨ns, by rw [intsD_inv e]⟩
section
variable {K : Fg} {F0 F : Fp} {H : Hp}
theorem RepW.dctOf {v : V} {ks ds : List D} (r : RepW K F0 F H v (.dct ks ds)) : ∃ a u, v = .ref a ∧ H a = some u ∧ DOb K F H a u ks ds := by
  generalize e : D.dct ks ds = d at r
  cases r with
  | of r =>
    cases r <;> first
      | (cases e; done)
      | skip
    · rename_i n h1 rs
      cases e
      exact ⟨_, _, rfl, h1, .k rs⟩
    · rename_i n ne h1 ox kt rs
      cases e
      exact ⟨_, _, rfl, h1, .x ne ox kt rs⟩
  | lst h rs => cases e
  | dct n h rs => cases e; exact ⟨_, _, rfl, h, rs⟩
theorem RepW.keyOf {y : V} {k : Key} (r : RepW K F0 F H y (keyD k)) : y = kV k := by
  cases k with
  | inl i => exact r.intOf
  | inr x => exact r.strOf
theorem RepW.tuOf {y : V} {ns : List Int} (r : RepW K F0 F H y (.tup (ns.map D.int))) : ∃ b, y = .ref b ∧ TupF K F H b (ns.map V.int) := by
  obtain ⟨a, vs, rfl, h, rs⟩ := r.tupOf
  exact ⟨a, rfl, by rw [← intsD_ok rs (intsD_map ns)]; exact h⟩
theorem look_K : ∀ {kvs : List (Key × V)} {xs : List D} {k z : D}, lookL (kvs.map fun p => keyD p.1) xs k = some z → Reps K F H (kvs.map (·.2)) xs → ∃ k0 v, k = keyD k0 ∧ valV kvs k0 = some v ∧ Rep K F H v z
  | [], _, _, _, e, _ => by cases e
  | p :: kvs, x :: xs, k, z, e, .cons r t => by
    have e : (if keqD k (keyD p.1) = true then some x else lookL (kvs.map fun p => keyD p.1) xs k) = some z := e
    by_cases q : keqD k (keyD p.1) = true
    · rw [if_pos q] at e
      cases e
      exact ⟨p.1, p.2, keqD_at.mp q, valV_pos rfl, r⟩
    · rw [if_neg q] at e
      obtain ⟨k0, v, rfl, h2, h3⟩ := look_K e t
      refine ⟨k0, v, rfl, ?_, h3⟩
      rw [valV_neg (fun z => q (keqD_at.mpr (by rw [z])))]
      exact h2
theorem look_X : ∀ {es : List EX} {xs : List D} {k z : D}, lookL (es.map fun p => D.tup (p.1.map D.int)) xs k = some z → Reps K F H (es.map (·.2.2)) xs → ∃ ns v, k = .tup (ns.map D.int) ∧ valX es ns = some v ∧ Rep K F H v z
  | [], _, _, _, e, _ => by cases e
  | p :: es, x :: xs, k, z, e, .cons r t => by
    have e : (if keqD k (.tup (p.1.map D.int)) = true then some x else lookL (es.map fun p => D.tup (p.1.map D.int)) xs k) = some z := e
    by_cases q : keqD k (.tup (p.1.map D.int)) = true
    · rw [if_pos q] at e
      cases e
      exact ⟨p.1, p.2.2, keqD_tu.mp q, by simp [valX], r⟩
    · rw [if_neg q] at e
      obtain ⟨ns, v, rfl, h2, h3⟩ := look_X e t
      refine ⟨ns, v, rfl, ?_, h3⟩
      have : ¬ p.1 = ns := fun z => q (keqD_tu.mpr (by rw [z]))
      simp only [valX, List.find?_cons, decide_eq_false this]
      exact h2
/-! putting -/
theorem put_K {kvs : List (Key × V)} {xs : List D} {k : Key} {v : V} {d : D} (r : Reps K F H (kvs.map (·.2)) xs) (rv : Rep K F H v d) : ∃ ks' xs', putL (kvs.map fun p => keyD p.1) xs (keyD k) d = (ks', xs') ∧ ks' = (putK kvs k v).map (fun p => keyD p.1) ∧ Reps K F H ((putK kvs k v).map (·.2)) xs' := by
  have ea : ((kvs.map fun p => keyD p.1).any (keqD (keyD k))) = (kvs.any fun kv => decide (kv.1 = k)) := by
    rw [List.any_map]
    congr 1
    funext p
    rw [Bool.eq_iff_iff]
    simp only [Function.comp, decide_eq_true_eq]
    rw [keqD_at]
    exact ⟨fun z => (keyD_inj z).symm, fun z => by rw [z]⟩
  unfold putL putK
  rw [ea]
  by_cases q : (kvs.any fun kv => decide (kv.1 = k)) = true
  · rw [if_pos q, if_pos q]
    clear q ea
    refine ⟨_, _, rfl, ?_, ?_⟩
    · rw [List.map_map]
      apply List.map_congr_left
      intro p _
      simp only [Function.comp]
      split <;> rfl
    · induction kvs generalizing xs with
      | nil => cases r; exact .nil
      | cons p kvs ih =>
        cases r with
        | cons r t =>
          simp only [List.map_cons, List.zipWith_cons_cons]
          refine .cons ?_ (ih t)
          by_cases e : p.1 = k
          · rw [if_pos (keqD_at.mpr (by rw [e])), if_pos e]; exact rv
          · rw [if_neg (fun z => e (keyD_inj (keqD_at.mp z)).symm), if_neg e]; exact r
  · rw [if_neg q, if_neg q]
    exact ⟨_, _, rfl, by simp, by rw [List.map_append]; exact r.snoc rv⟩
theorem put_X {es : List EX} {xs : List D} {k : List Int} {b : Addr} {v : V} {d : D} (r : Reps K F H (es.map (·.2.2)) xs) (rv : Rep K F H v d) : ∃ ks' xs', putL (es.map fun p => D.tup (p.1.map D.int)) xs (.tup (k.map D.int)) d = (ks', xs') ∧ ks' = (putX es k b v).map (fun p => D.tup (p.1.map D.int)) ∧ Reps K F H ((putX es k b v).map (·.2.2)) xs' := by
  have inj : ∀ {m n : List Int}, D.tup (m.map D.int) = D.tup (n.map D.int) → m = n := fun {m n} z => by
    have := intsD_map m
    injection z with z
    rw [z, intsD_map] at this
    exact (Option.some.inj this).symm
  have ea : ((es.map fun p => D.tup (p.1.map D.int)).any (keqD (.tup (k.map D.int)))) = (es.any fun p => decide (p.1 = k)) := by
    rw [List.any_map]
    congr 1
    funext p
    rw [Bool.eq_iff_iff]
    simp only [Function.comp, decide_eq_true_eq]
    rw [keqD_tu]
    exact ⟨fun z => (inj z).symm, fun z => by rw [z]⟩
  unfold putL putX
  rw [ea]
  by_cases q : (es.any fun p => decide (p.1 = k)) = true
  · rw [if_pos q, if_pos q]
    clear q ea
    refine ⟨_, _, rfl, ?_, ?_⟩
    · rw [List.map_map]
      apply List.map_congr_left
      intro p _
      simp only [Function.comp]
      split <;> rfl
    · induction es generalizing xs with
      | nil => cases r; exact .nil
      | cons p es ih =>
        cases r with
        | cons r t =>
          simp only [List.map_cons, List.zipWith_cons_cons]
          refine .cons ?_ (ih t)
          by_cases e : p.1 = k
          · rw [if_pos (keqD_tu.mpr (by rw [e])), if_pos e]; exact rv
          · rw [if_neg (fun z => e (inj (keqD_tu.mp z)).symm), if_neg e]; exact r
  · rw [if_neg q, if_neg q]
    exact ⟨_, _, rfl, by simp, by rw [List.map_append]; exact r.snoc rv⟩
theorem putX_all {P : EX → Prop} {es : List EX} {k : List Int} {b : Addr} {v : V} (h : ∀ p ∈ es, P p) (hn : P (k, b, v)) (hv : ∀ p ∈ es, P (p.1, p.2.1, v)) : ∀ p ∈ putX es k b v, P p := by
  unfold putX
  split
  · intro p hp
    obtain ⟨q, hq, rfl⟩ := List.mem_map.mp hp
    split
    · exact hv q hq
    · exact h q hq
  · intro p hp
    rcases List.mem_append.mp hp with hp | hp
    · exact h p hp
    · rw [List.mem_singleton.mp hp]; exact hn
theorem putX_ne {es : List EX} {k : List Int} {b : Addr} {v : V} : putX es k b v ≠ [] := by
  unfold putX
  split
  · rename_i q
    intro z
    rw [List.map_eq_nil_iff] at z
    rw [z] at q; cases q
  · simp
end
/-! ### d[k] -/
section
variable {X : Cx} {W : WX} {τ : Type} [Sto τ] {K : Fg}
def rIxD (K : Fg) : R2 := fun x y H Q => (∃ a kvs k v, x = .ref a ∧ Rd H a (.dK kvs) ∧ y = kV k ∧ valV kvs k = some v ∧ Q v H) ∨
  ∃ a b o es k v, x = .ref a ∧ y = .ref b ∧ Rd H a (exo a o) ∧ OX a o es ∧ AllT K H es ∧ SqT K H b (k.map V.int) ∧ valX es k = some v ∧ Q v H
theorem ix_dct (hu : X.A.units + 1 < cLine) : IxR X (rIxD X.K) := by
  intro value slice pins s σ H x y v u Q I rx ry h hs
  rcases h with ⟨a, kvs, k, z, rfl, ha, rfl, hv, q⟩ | ⟨a, b, o, es, k, z, rfl, rfl, ha, ox, kt, hk, hv, q⟩
  · cases rx
    obtain ⟨_, _, vs, rel, dd⟩ := dk_rd I.hok ha
    obtain ⟨w', hw, rw'⟩ := RelO.some_of (v := z) (o := valueAt vs k) (by rw [← hv]; exact rel.val k)
    exact subscriptTail_builtinR (x := w') dd.typeIs PySem.F.slot_dict_getitem.lookup
      (wpAny_getItem_of (Q := fun r s' => r = w' ∧ EP X pins σ Q r s') (kV_is ry) dd.mapOf hw ⟨rfl, z, H, I.tok _, rw', q⟩) hs
  · cases rx
    cases ry
    obtain ⟨z', y', xs, rp, dd⟩ := dx_dict (ha.ok I.hok) ox (keyX_of I kt)
    obtain ⟨p, hp, rv⟩ := rp.val hv
    exact subscriptTail_builtinR (x := p.2) dd.typeIs PySem.F.slot_dict_getitem.lookup
      (wpAny_getItem_heap (Q := fun r s' => r = p.2 ∧ EP X pins σ Q r s') (tupleKind_room_in1 hu) (isT_of I hk) dd hp ⟨rfl, z, H, I.tok _, rv, q⟩) hs
def dIxD : D → D → Option D := fun d k => match d with
  | .dct ks xs => lookL ks xs k
  | _ => none
theorem allT_of {F : Fp} {H : Hp} {es : List EX} (h : ∀ p ∈ es, TupF K F H p.2.1 (p.1.map V.int)) : AllT K H es := fun p hp => (h p hp).sq
theorem o_ixD : DOp2 K (rIxD K) dIxD := fun F0 F H x y d e z Q dm rx ry q k => by
  unfold dIxD at q
  split at q
  · rename_i ks xs
    obtain ⟨a, u, rfl, ha, r⟩ := rx.dctOf
    cases r with
    | k r =>
      obtain ⟨k0, v, rfl, h2, h3⟩ := look_K q r
      exact .inl ⟨a, _, k0, v, rfl, .inl ha, ry.keyOf, h2, k _ H (Same.refl H) h3⟩
    | x ne ox kt r =>
      obtain ⟨ns, v, rfl, h2, h3⟩ := look_X q r
      obtain ⟨b, rfl, tb⟩ := ry.tuOf
      exact .inr ⟨a, b, _, _, ns, v, rfl, rfl, .inl ha, ox, allT_of kt, tb.sq, h2, k _ H (Same.refl H) h3⟩
  · cases q
/-! ### d[k] = v -/
def rSetG (K : Fg) : TSet := fun o i v H Q => (∃ a H', o = .ref a ∧ DPut H a i v H' ∧ Q H') ∨
  ∃ a b ob es k, o = .ref a ∧ i = .ref b ∧ H a = some (exo a ob) ∧ OX a ob es ∧ AllT K H es ∧ SqT K H b (k.map V.int) ∧ es.length < sizeLine ∧ ∀ o', OX a o' (putX es k b v) → Q (upd H a (exo a o'))
theorem set_dctG (hu : X.A.units + 1 < cLine) : PSet X (rSetG X.K) := by
  intro pins s σ H o i v ov iv u Q I ro ri rv h
  rcases h with h | ⟨a, b, ob, es, k, rfl, rfl, ha, ox, kt, hk, z, q⟩
  · exact set_dict hu pins s σ H o i v ov iv u Q I ro ri rv h
  · cases ro
    cases ri
    exact dx_setItem hu I ha ox kt hk z rv fun s' o' x' I' => ⟨_, I', q o' x'⟩
def sPutD (i : Nat) (mv mk : ME τ D) : MS τ := fun ρ t => match ρ[i]? with
  | some (.dct ks xs) => sDo mv (fun v ρ t => sDo mk (fun k ρ t => match putD ks xs k v with
      | some p => .nx (ρ.set i (.dct p.1 p.2)) t
      | none => .bad) ρ t) ρ t
  | _ => .bad
theorem putL_red {C : SC τ} {ρ : Rho} {t : τ} {σ : St} {H : Hp} {i : Nat} {ks xs : List D} {y v : V} {k d : D} {p : List D × List D} {Q : Hp → Prop} (A : At K C ρ t σ H) (hi : ρ[i]? = some (.dct ks xs)) (ry : Rep K (Fo C.F ρ σ) H y k) (rv : Rep K (Fo C.F ρ σ) H v d) (e : putD ks xs k d = some p)
    (q : ∀ H', At K C (ρ.set i (.dct p.1 p.2)) t σ H' → Stp (Fo C.F ρ σ) H (Fo C.F (ρ.set i (.dct p.1 p.2)) σ) H' → Q H') : ∃ a, σ[i]? = some (some (.ref a)) ∧ rSetG K (.ref a) y v H Q := by
  obtain ⟨a, u, hs, nF, ha, r⟩ := A.dct i ks xs hi
  refine ⟨a, hs, ?_⟩
  have go : ∀ {u' : HO}, DOb K (Fo C.F ρ σ) H a u' p.1 p.2 → Q (upd H a u') := fun {u'} ob => by
    obtain ⟨A2, sp⟩ := A.reMine (y := .dct p.1 p.2) ⟨hi, rfl⟩ rfl hs (.dct ob)
    exact q _ A2 sp
  cases r with
  | k r =>
    rename_i kvs
    have e' : putAK (kvs.map fun p => keyD p.1) xs k d = some p := by
      unfold putD at e
      split at e
      · rename_i h
        cases kvs with
        | nil => cases h
        | cons q kvs =>
          simp only [List.map_cons, List.cons.injEq] at h
          cases hk : q.1 <;> (rw [hk] at h; cases h.1)
      · exact e
    unfold putAK at e'
    split at e'
    · rename_i hc
      obtain ⟨k0, rfl⟩ := keyD_of hc.1
      obtain ⟨ks', xs', h1, h2, h3⟩ := put_K (k := k0) r rv
      rw [h1] at e'
      cases e'
      refine .inl ⟨a, _, rfl, ?_, go (u' := .dK (putK kvs k0 v)) (by rw [h2]; exact .k h3)⟩
      have hy : y = kV k0 := (RepW.of (F0 := Fo C.F ρ σ) ry).keyOf
      rw [hy]
      have hl := hc.2
      rw [List.length_map] at hl
      exact DPut.k ha hl
    · cases e'
  | x ne ox kt r =>
    rename_i ob es
    have e' : putTK (es.map fun p => D.tup (p.1.map D.int)) xs k d = some p := by
      unfold putD at e
      cases es with
      | nil => exact absurd rfl ne
      | cons q es => exact e
    unfold putTK at e'
    split at e'
    · rename_i hc
      obtain ⟨ns, rfl⟩ := tuK_of hc.1
      obtain ⟨b, rfl, tb⟩ := (RepW.of (F0 := Fo C.F ρ σ) ry).tuOf
      obtain ⟨ks', xs', h1, h2, h3⟩ := put_X (k := ns) (b := b) r rv
      rw [h1] at e'
      cases e'
      have hl := hc.2
      rw [List.length_map] at hl
      refine .inr ⟨a, b, ob, es, ns, rfl, rfl, ha, ox, allT_of kt, tb.sq, hl, fun o' x' => go (u' := exo a o') ?_⟩
      rw [h2]
      exact .x putX_ne x' (putX_all (P := fun p => TupF K (Fo C.F ρ σ) H p.2.1 (p.1.map V.int)) kt tb kt) h3
    · cases e'
theorem ms_putD {s : Stmt} {i : Nat} {mv mk : ME τ D} (h : PS X s (tAsg (tE X.K W mv) (gSub (tVar i) (tE X.K W mk) (rSetG X.K)))) : PS X s (tS X.K W (sPutD i mv mk)) := PS.imp h fun E σ H ⟨C, ρ, t, A, p⟩ => by
  unfold sPutD at p
  split at p
  · rename_i ks xs hi
    refine useS A p fun d t1 v H1 e1 s1 A1 r1 p1 => ?_
    obtain ⟨a, u, hs, nF, ha, hr⟩ := A1.dct i ks xs hi
    refine ⟨_, hs, ?_⟩
    refine useS A1 p1 fun k t2 y H2 e2 s2 A2 r2 p2 => ?_
    cases e : putD ks xs k d with
    | none => rw [e] at p2; exact p2.elim
    | some pr =>
      rw [e] at p2
      obtain ⟨a', hs', g⟩ := putL_red (Q := fun H' => E.nx σ H') A2 hi r2 (r1.same (s2.mono fun _ => .inl)) e fun H' A3 sp => p2 σ H' sp A3
      rw [hs] at hs'
      cases hs'
      exact g
  · exact p.elim
end
end MM

/-! M27: dict comprehensions, with a putting of one's own. -/
namespace MM
open PySem PySem.Spec PyProof.Rows L2
section
variable {X : Cx}
/-- the new dict's object, what putting does -/
structure PutK (X : Cx) where
  o0 : Addr → HO
  Pu : Hp → Addr → V → V → (Hp → Prop) → Prop
  new : ∀ (h : Heap) (H : Hp), sysModules < h.objs.size → ObjOk X.prog X.w H (h.push { cls := .type "dict", data := .dict #[] }) h.objs.size (o0 h.objs.size)
  put : ∀ {Y : Cx} {pins : List (Addr × Obj)} {σ : L2.St} {H : Hp} {R : Hp → Prop} {s : Shared} {d : Addr} {y z : V} {u r : Value} {Q : Unit → Shared → Prop} {E : Value → Shared → Prop}, Y.prog = X.prog → Y.w = X.w → Y.K = X.K → Y.A.units + 1 < cLine → Inv Y pins σ H s → Pu H d y z R → RelV y u → RelV z r → (∀ H' s', Inv Y pins σ H' s' → R H' → Q () s') → wpAny (model Y.prog Y.w) Y.A (dictSet d u r) Q E s
def tDg (p : PutK X) (wi : TI) (g : TG) (tt : TT) (tk tv : TE) (vs : List Nat) : TE := fun σ H Q => wi σ H fun J Ha => ∀ d, Ha d = none → sysModules < d → ∃ W : Nat → Nat → Hp → Prop, (∃ m, W 0 m (upd Ha d (p.o0 d))) ∧
  ∀ i m Hb, W i m Hb → (J.stop i Hb ∧ Q (.ref d) Hb) ∨ (J.go i Hb ∧ ∃ Nx : Hp → Prop, (∀ H', Nx H' → ∃ m', m' < m ∧ W (i + 1) m' H') ∧
    ∀ x H', J.yld i Hb x H' → g x (wipe σ vs) H' fun σ2 Hc => wipe σ2 vs = wipe σ vs ∧ tt σ2 Hc fun b Hd => if b = true then tk σ2 Hd fun y He => tv σ2 He fun z Hf => p.Pu Hf d y z Nx else Nx Hd)
theorem dg_core {p : PutK X} {pins : List (Addr × Obj)} {s : Shared} {σ : L2.St} {H : Hp} {Q : VK} {kx vx tg iter : Expr} {ifs : List Expr} {scope : Scope} {own : List (Str × Nat)} {pos pos' : Pos} {wi : TI} {g : TG} {tt : TT} {tk tv : TE} {use : Option (Value → Sem Unit)} {Qf : Value → Shared → Prop}
    (hu : X.A.units + 1 < cLine) (hc : X.calm = true) (hN : X.N.Nodup) (I : Inv X pins σ H s) (hi : PI X tg iter wi) (ok : BlkOk X.N X.env.scope scope own)
    (hg : ∀ (s : Shared) (H : Hp) (C : Addr) (cl : List (Str × Addr)) (fp : List Addr), PG (X.blk s H scope (compEnvC scope cl C X.env) fp) tg g)
    (ht : ∀ (s : Shared) (H : Hp) (C : Addr) (cl : List (Str × Addr)) (fp : List Addr), PTs (X.blk s H scope (compEnvC scope cl C X.env) fp) ifs tt)
    (hk : ∀ (s : Shared) (H : Hp) (C : Addr) (cl : List (Str × Addr)) (fp : List Addr), PE (X.blk s H scope (compEnvC scope cl C X.env) fp) kx tk)
    (he : ∀ (s : Shared) (H : Hp) (C : Addr) (cl : List (Str × Addr)) (fp : List Addr), PE (X.blk s H scope (compEnvC scope cl C X.env) fp) vx tv) (hs : ∀ x, foldedSetIterable iter X.env x = pure x)
    (h : tDg p wi g tt tk tv (own.map (·.2)) σ H Q)
    (fin : ∀ d C s' m H', Inv X pins σ H' s' → Q (.ref d) H' → s'.heap.Ns C m → FpOk X pins H' C → compPost (model X.prog X.w) X.A X.xe use Qf (.ref d) C (.ok .next) s') :
    wpAny (model X.prog X.w) X.A (comprehension (.DictComp kx vx [⟨tg, iter, ifs, 0⟩] scope pos) scope X.env pos' newDict false (eval iter X.env) use) Qf X.xe s := by
  have free : ∀ y ∈ scope.names, y.2 = .free → ∃ c, X.env.cells.lookup y.1 = some c := fun y hy e => (ok.free y hy e).elim (fun k => I.ok.has _ (.inl k)) fun k => I.ok.has _ (.inr k)
  refine wpAny_comprehension_free (use := use) rfl hs (closure_ok free) ok.kind (fun y hy e => by rw [ok.uniq y hy, e]) (thn (hi.run pins s σ H _ I h) fun xv sa hx => thn hx fun itv sb hb => ?_)
  obtain ⟨it, fp, tn, J, Hb, rfl, Ib, T, stb, fb, q⟩ := hb
  refine wpAny_newObj_type (newEnv_comp ?_)
  generalize hd : sb.heap.objs.size = d
  obtain ⟨W, ⟨m0, w0⟩, turn⟩ := q d (Ib.hok.fresh (Nat.le_of_eq hd)) (by rw [← hd]; exact Ib.big)
  generalize hsc : ({ sb with heap := sb.heap.push { cls := .type "dict", data := .dict #[] } } : Shared) = sc
  have hpush : sc.heap = sb.heap.push { cls := .type "dict", data := .dict #[] } := by rw [← hsc]
  have Ic : Inv X pins σ (upd Hb d (p.o0 d)) sc := by
    rw [← hsc]
    exact Ib.laid (t' := sb.toks) (fun _ _ e => Heap.get?_push_of_some _ e) (Nat.le_of_eq hd) (by rw [← hd]; exact p.new sb.heap _ Ib.big)
  have lt : ∀ b ∈ fp, b < sb.heap.objs.size := fun b hb => let ⟨_, e, _⟩ := T.obj _ _ stb b hb; Heap.lt_size e
  have fc : ∀ b ∈ fp, FpOk X pins (upd Hb d (p.o0 d)) b ∧ b < sc.heap.objs.size := fun b hb =>
    ⟨⟨by rw [upd_ne (by rw [← hd]; exact Nat.ne_of_lt (lt b hb))]; exact (fb b hb).1, (fb b hb).2⟩, by rw [hpush, Heap.size_push]; exact Nat.lt_succ_of_lt (lt b hb)⟩
  have stc : tn 0 sc.heap := T.keep _ _ _ stb fun b _ o e => by rw [hpush]; exact Heap.get?_push_of_some _ e
  have Id := block_start Ic ok hN fc
  have pg := hg sc (upd Hb d (p.o0 d)) sc.heap.objs.size (cellsFrom (sc.heap.objs.size + 1) scope.names (cloFrom X.env.cells scope.names [])) fp
  have pt := ht sc (upd Hb d (p.o0 d)) sc.heap.objs.size (cellsFrom (sc.heap.objs.size + 1) scope.names (cloFrom X.env.cells scope.names [])) fp
  have pk := hk sc (upd Hb d (p.o0 d)) sc.heap.objs.size (cellsFrom (sc.heap.objs.size + 1) scope.names (cloFrom X.env.cells scope.names [])) fp
  have pv := he sc (upd Hb d (p.o0 d)) sc.heap.objs.size (cellsFrom (sc.heap.objs.size + 1) scope.names (cloFrom X.env.cells scope.names [])) fp
  show codeAny _ _ (.compStart (.DictComp kx vx [⟨tg, iter, ifs, 0⟩] scope pos) 0 (.ref it) (.ref d) (compEnvC scope (cellsFrom (sc.heap.objs.size + 1) scope.names (cloFrom X.env.cells scope.names [])) sc.heap.objs.size X.env)) (compPost (model X.prog X.w) X.A X.xe use Qf (.ref d) sc.heap.objs.size) { sc with heap := pushCells (sc.heap.push { cls := .type "dict", data := .dict #[] }) scope.names }
  have nfp : ∀ b ∈ fp, (upd Hb d (p.o0 d)) b = none := fun b hb => (fc b hb).1.1
  generalize hev : compEnvC scope (cellsFrom (sc.heap.objs.size + 1) scope.names (cloFrom X.env.cells scope.names [])) sc.heap.objs.size X.env = ev at Id pg pt pk pv ⊢
  have cL : ev.locals = sc.heap.objs.size := by subst hev; rfl
  generalize hHc : upd Hb d (p.o0 d) = Hc at Ic Id pg pt pk pv w0 nfp fc
  generalize hsd : ({ sc with heap := pushCells (sc.heap.push { cls := .type "dict", data := .dict #[] }) scope.names } : Shared) = sd at Id ⊢
  have std : tn 0 sd.heap := T.keep _ _ _ stc fun b _ o e => by rw [← hsd]; exact pushCells_keeps _ _ _ _ (Heap.get?_push_of_some _ e)
  have stat : ∀ {σ' : L2.St} {H' : Hp} {s' : Shared}, Inv (X.blk sc Hc scope ev fp) [] σ' H' s' → (∀ b ∈ fp, H' b = none) → ∀ b ∈ fp, FpOk (X.blk sc Hc scope ev fp) [] H' b := fun {_ _ _} I' hn b hb =>
    ⟨hn b hb, (I'.ok.exf b hb).1, I'.ok.exfs b hb, .inl hb, fun x c e => (I'.ok.exf b hb).2 x c e, fun p hp => absurd (show p ∈ ([] : List (Addr × Obj)) ++ [] from hp) (by simp)⟩
  have loop : codeAny (model X.prog X.w) X.A (.compLoop (.DictComp kx vx [⟨tg, iter, ifs, 0⟩] scope pos) 0 (.ref it) (.ref d) ev) (compPost (model X.prog X.w) X.A X.xe use Qf (.ref d) sc.heap.objs.size) sd := by
    refine compLoop_anyD (fun n s' => ∃ i H', Inv (X.blk sc Hc scope ev fp) [] (wipe σ (own.map (·.2))) H' s' ∧ tn i s'.heap ∧ (∀ b ∈ fp, H' b = none) ∧ W i n H') ?_ m0 ⟨0, Hc, Id, std, nfp, w0⟩
    rintro n se ⟨i, He, Ie, ste, ne, we⟩
    rcases turn i n He we with ⟨stop, qq⟩ | ⟨go, Nx, hNx, step⟩
    · refine thnF (T.done (X.blk sc Hc scope ev fp) rfl rfl rfl hc i [] se _ He (fun _ _ => False) Ie (stat Ie ne) ste stop) fun r sf ⟨hr, If⟩ => ?_
      subst hr
      have Ig : Inv X pins σ He sf := Ic.call' (ch := fp) If.os If.base If.hok If.bare fun b hb => ⟨(fc b hb).1.2.2.2.1, (fc b hb).1.2.1, (fc b hb).1.2.2.2.2.1, (fc b hb).1.2.2.2.2.2⟩
      have nC : He sc.heap.objs.size = none := by rw [← cL]; exact If.free
      obtain ⟨m, hn, _⟩ := If.loc
      have hn : sf.heap.Ns ev.locals m := hn
      rw [cL] at hn
      exact fin d sc.heap.objs.size sf m He Ig qq hn (Ic.fpOk (Nat.le_refl _) nC)
    · refine thnF (T.item (X.blk sc Hc scope ev fp) rfl rfl rfl hc i [] se _ He (fun _ _ => False) Ie (stat Ie ne) ste go) fun r sf ⟨u, hr, hf⟩ => ?_
      subst hr
      refine thnF hf fun _ sg ⟨x, Hg, Ig, rg, yg, stg, ng⟩ => ?_
      refine thnF (pg.run _ sg _ Hg x u _ (Ig.pinned (stat Ig ng) (T.obj _ _ stg)) rg (step x Hg yg)) fun _ sh ⟨σh, Hh, Ih, hw, qh⟩ => ?_
      refine thnF (pt.run _ sh σh Hh _ Ih qh) fun b sj ⟨Hj, Ij, qj⟩ => ?_
      have endd : ∀ {s' : Shared} {H' : Hp}, Inv (X.blk sc Hc scope ev fp) ([] ++ pinsAt fp sg.heap) σh H' s' → Nx H' → ∃ m, m < n ∧ ∃ i H', Inv (X.blk sc Hc scope ev fp) [] (wipe σ (own.map (·.2))) H' s' ∧ tn i s'.heap ∧ (∀ b ∈ fp, H' b = none) ∧ W i m H' := fun {s' H'} I' nx => by
        obtain ⟨m', hm, w'⟩ := hNx H' nx
        have pin' : ∀ b ∈ fp, ∀ o, sg.heap.get? b = some o → s'.heap.get? b = some o ∧ H' b = none := fun b hb o e =>
          let z := I'.pin (b, o) (List.mem_append_right _ (List.mem_append_right _ (mem_pinsAt hb e)))
          ⟨z.1, z.2.1⟩
        have hl : (wipe σ (own.map (·.2))).length = σh.length := by rw [← hw, wipe_length]
        refine ⟨m', hm, i + 1, H', (I'.unpinned (pins := [])).weak hl (fun j v e => by rw [← hw] at e; exact (wipe_some e).1), T.keep _ _ _ stg fun b hb o e => (pin' b hb o e).1, fun b hb => ?_, w'⟩
        obtain ⟨o, e, _⟩ := T.obj _ _ stg b hb
        exact (pin' b hb o e).2
      cases b with
      | false =>
        simp only [Bool.false_eq_true, if_false] at qj ⊢
        exact endd Ij qj
      | true =>
        simp only [if_true] at qj ⊢
        refine thnF (pk.run _ sj σh Hj _ Ij qj) fun z sk ⟨yk, Hk, Ik, rk, qk⟩ => ?_
        refine thnF (pv.run _ sk σh Hk _ Ik qk) fun z2 sl ⟨yv, Hl, Il, rl, hP⟩ => ?_
        exact p.put (Y := X.blk sc Hc scope ev fp) rfl rfl rfl hu Il hP rk rl fun Hm sm Im nx => endd Im nx
  exact codeAny_compStart_dict loop (T.self X.A 0 _ _ _ std loop)
theorem pe_dg {p : PutK X} {kx vx tg iter : Expr} {ifs : List Expr} {scope : Scope} {own : List (Str × Nat)} {pos : Pos} {wi : TI} {g : TG} {tt : TT} {tk tv : TE} (hu : X.A.units + 1 < cLine) (hc : X.calm = true) (hN : X.N.Nodup) (hi : PI X tg iter wi) (ok : BlkOk X.N X.env.scope scope own)
    (hg : ∀ (s : Shared) (H : Hp) (C : Addr) (cl : List (Str × Addr)) (fp : List Addr), PG (X.blk s H scope (compEnvC scope cl C X.env) fp) tg g)
    (ht : ∀ (s : Shared) (H : Hp) (C : Addr) (cl : List (Str × Addr)) (fp : List Addr), PTs (X.blk s H scope (compEnvC scope cl C X.env) fp) ifs tt)
    (hk : ∀ (s : Shared) (H : Hp) (C : Addr) (cl : List (Str × Addr)) (fp : List Addr), PE (X.blk s H scope (compEnvC scope cl C X.env) fp) kx tk)
    (he : ∀ (s : Shared) (H : Hp) (C : Addr) (cl : List (Str × Addr)) (fp : List Addr), PE (X.blk s H scope (compEnvC scope cl C X.env) fp) vx tv) (hs : ∀ x, foldedSetIterable iter X.env x = pure x := by intro _; rfl) :
    PE X (.DictComp kx vx [⟨tg, iter, ifs, 0⟩] scope pos) (tDg p wi g tt tk tv (own.map (·.2))) := ⟨fun pins s σ H Q I h => by
  rw [arm_eval_DictComp]
  exact dg_core hu hc hN I hi ok hg ht hk he hs h fun d C s' m H' I' q hn f => ⟨m, hn, fun h'' sb => ⟨.ref d, H', I'.turned (t' := s'.toks) (fun b o hb e => (sb.2 b hb).trans e) f.1 f.2.1 f.2.2.2.1 f.2.2.2.2.1 f.2.2.2.2.2, rfl, q⟩⟩⟩
/-- name = {..} on one line, the name a local -/
theorem ps_setDg {p : PutK X} {i : Nat} {y : Str} {py : Pos} {kx vx tg iter : Expr} {ifs : List Expr} {scope : Scope} {own : List (Str × Nat)} {pos spos : Pos} {wi : TI} {g : TG} {tt : TT} {tk tv : TE} (hu : X.A.units + 1 < cLine) (hc : X.calm = true) (hN : X.N.Nodup) (hy : X.N[i]? = some y) (hyl : X.env.scope.names.lookup y = some .local)
    (sw : swapsWith (.DictComp kx vx [⟨tg, iter, ifs, 0⟩] scope pos) (some (.Name y py)) spos.line X.env = pure true) (hi : PI X tg iter wi) (ok : BlkOk X.N X.env.scope scope own)
    (hg : ∀ (s : Shared) (H : Hp) (C : Addr) (cl : List (Str × Addr)) (fp : List Addr), PG (X.blk s H scope (compEnvC scope cl C X.env) fp) tg g)
    (ht : ∀ (s : Shared) (H : Hp) (C : Addr) (cl : List (Str × Addr)) (fp : List Addr), PTs (X.blk s H scope (compEnvC scope cl C X.env) fp) ifs tt)
    (hk : ∀ (s : Shared) (H : Hp) (C : Addr) (cl : List (Str × Addr)) (fp : List Addr), PE (X.blk s H scope (compEnvC scope cl C X.env) fp) kx tk)
    (he : ∀ (s : Shared) (H : Hp) (C : Addr) (cl : List (Str × Addr)) (fp : List Addr), PE (X.blk s H scope (compEnvC scope cl C X.env) fp) vx tv) (hs : ∀ x, foldedSetIterable iter X.env x = pure x := by intro _; rfl) :
    PS X (.Assign [.Name y py] (.DictComp kx vx [⟨tg, iter, ifs, 0⟩] scope pos) spos) (tAsg (tDg p wi g tt tk tv (own.map (·.2))) (gName i)) := ⟨fun pins s σ H D I h => by
  rw [exec_Assign_Name_used _ _ _ _ sw]
  refine wpAny_bind (wpAny_standAt (wpAny_bind ?_))
  show wpAny _ X.A (do let _ ← comprehension (.DictComp kx vx [⟨tg, iter, ifs, 0⟩] scope pos) scope X.env (firstIterPos [⟨tg, iter, ifs, 0⟩] pos) newDict false (eval iter X.env) (some (assign (.Name y py) X.env))) _ _ s
  have h' : tDg p wi g tt tk tv (own.map (·.2)) σ H (fun x Ha => gName i x σ Ha D.nx) := h
  refine wpAny_bind (thn (dg_core (Qf := fun _ s' => SP X pins D .next s') hu hc hN I hi ok hg ht hk he hs h' fun d C s' m H' I' q hn f => ?_) fun _ s' hq => wpAny_pure (wpAny_pure hq))
  show wpAny _ _ (assign (.Name y py) X.env (.ref d)) _ _ _
  refine wpAny_assign_Name (store_ok2 (v := V.ref d) I' hN hy (.inl hyl) rfl (fun s2 I2 ⟨a, sb, ha⟩ => ?_) (.inr hyl))
  have haC : C ≠ a := ha.elim (fun z => by rw [z]; exact f.2.1) fun z e => f.2.2.2.2.1 y a z e.symm
  exact ⟨m, hn.sameBut sb haC, fun h3 sb3 => ⟨_, H', I2.turned (t' := s2.toks) (fun b o hb e => (sb3.2 b hb).trans e) f.1 f.2.1 f.2.2.2.1 f.2.2.2.2.1 f.2.2.2.2.2, q⟩⟩⟩
theorem sw_trueD {kx vx : Expr} {gs : List Comprehension} {scope : Scope} {pos py : Pos} {y : Str} {l : Nat} {env : Env} (hk : env.scope.kind = .function) (hy : env.scope.names.lookup y = some .local) (hl : (py.line == pos.line) = true) (ha : (scope.names.any fun (n, k) => n == y && (k == .local || k == .cell)) = false) :
    swapsWith (.DictComp kx vx gs scope pos) (some (.Name y py)) l env = pure true := by
  have hb : env.blockKind = .function := by unfold Env.blockKind; rw [hk]; rfl
  unfold swapsWith
  simp only [hb, show env.kindOf y = some .local from hy, ha, Expr.pos, hl]
  rfl
/-- keys ints or texts; tuples of ints -/
def putKK (X : Cx) : PutK X where
  o0 := fun _ => .dK []
  Pu := fun H d y z R => ∃ kvs k, y = kV k ∧ H d = some (.dK kvs) ∧ kvs.length < sizeLine ∧ R (upd H d (.dK (putK kvs k z)))
  new := fun h H hb => dk_empty h hb
  put := by
    intro Y pins σ H R s d y z u r Q E e1 e2 e3 hu I hP ry rz kk
    obtain ⟨kvs, key, rfl, e, l, q⟩ := hP
    exact d_dictSet (X := Y) I e l ry rz fun s' I' => kk _ s' I' q
def putXX (X : Cx) : PutK X where
  o0 := fun d => exo d oEmpty
  Pu := fun H d y z R => ∃ ob es k b, y = .ref b ∧ H d = some (exo d ob) ∧ OX d ob es ∧ AllT X.K H es ∧ SqT X.K H b (k.map V.int) ∧ es.length < sizeLine ∧ ∀ o', OX d o' (putX es k b z) → R (upd H d (exo d o'))
  new := fun h H hb => dx_empty h
  put := by
    intro Y pins σ H R s d y z u r Q E e1 e2 e3 hu I hP ry rz kk
    obtain ⟨ob, es, key, b, rfl, e, ox, kt, hk, l, q⟩ := hP
    cases ry
    rw [← e3] at kt hk
    exact dx_dictSet (X := Y) (Nat.lt_of_succ_lt hu) I e ox kt hk l rz fun s' o' x' I' => kk _ s' I' (q o' x')
theorem dg_it {p : PutK X} {J : It} {n : Nat} {G : Hp → Prop} {Y : Nat → Hp → V → Hp → Prop} (w : Walk J n G Y) {g : TG} {tt : TT} {tk tv : TE} {vs : List Nat} {σ : L2.St} {Ha : Hp} {d : Addr} {Qd : Hp → Prop} (Pv : Nat → Hp → Prop) (h0 : Pv 0 (upd Ha d (p.o0 d))) (hG : ∀ i H, i ≤ n → Pv i H → G H)
    (hs : ∀ i x H H', i < n → Pv i H → Y i H x H' → g x (wipe σ vs) H' fun σ2 Hc => wipe σ2 vs = wipe σ vs ∧ tt σ2 Hc fun b Hd => if b = true then tk σ2 Hd fun y He => tv σ2 He fun z Hf => p.Pu Hf d y z (Pv (i + 1)) else Pv (i + 1) Hd) (hd : ∀ H, Pv n H → Qd H) :
    ∃ W : Nat → Nat → Hp → Prop, (∃ m, W 0 m (upd Ha d (p.o0 d))) ∧ ∀ i m Hb, W i m Hb → (J.stop i Hb ∧ Qd Hb) ∨ (J.go i Hb ∧ ∃ Nx : Hp → Prop, (∀ H', Nx H' → ∃ m', m' < m ∧ W (i + 1) m' H') ∧
      ∀ x H', J.yld i Hb x H' → g x (wipe σ vs) H' fun σ2 Hc => wipe σ2 vs = wipe σ vs ∧ tt σ2 Hc fun b Hd => if b = true then tk σ2 Hd fun y He => tv σ2 He fun z Hf => p.Pu Hf d y z Nx else Nx Hd) := by
  refine ⟨fun i m Hb => m = n - i ∧ i ≤ n ∧ Pv i Hb, ⟨n, by simp, Nat.zero_le _, h0⟩, ?_⟩
  rintro i m Hb ⟨rfl, hi, pv⟩
  have q := hG i Hb hi pv
  by_cases lt : i < n
  · exact .inr ⟨w.goes i Hb lt q, Pv (i + 1), fun H' p' => ⟨n - (i + 1), by omega, rfl, lt, p'⟩, fun x H' y => hs i x Hb H' lt pv (w.yields i Hb x H' lt q y)⟩
  · obtain rfl : i = n := by omega
    exact .inl ⟨w.stops Hb q, hd Hb pv⟩
end
end MM

/-! M28: new dicts: comprehensions as mirrors, as own dicts and as values. -/
namespace MM
open PySem PySem.Spec PyProof.Rows L2
/-- a new dict -/
def rDi : Rel V (List D × List D) := fun K I _ F H H' v p => ∃ a u, v = .ref a ∧ ¬ F a ∧ H a = none ∧ H' a = some u ∧ DOb K (fun b => F b ∨ b = a) H' a u p.1 p.2 ∧ I (fun b => F b ∨ b = a) H'
theorem okDi : RelOk rDi := ⟨fun K I F0 F H H1 H' v ds s h => by
  obtain ⟨a, u, e, n, q, r⟩ := h
  refine ⟨a, u, e, n, ?_, r⟩
  cases z : H a with
  | none => rfl
  | some o => rw [s a o n z] at q; cases q⟩
abbrev tDi {τ : Type} [Sto τ] (K : Fg) (W : WX) (m : Rho → τ → Res τ (List D × List D)) : TE := tG rDi K W m
section
variable {X : Cx} {W : WX} {τ : Type} [Sto τ] {K : Fg}
abbrev MDi (τ : Type) := Rho → τ → Res τ (List D × List D)
/-- as a value -/
def eDct (a : MDi τ) : ME τ D := fun ρ t => (a ρ t).bind fun p t => .ok (.dct p.1 p.2) t
theorem me_newD {e : Expr} {m : MDi τ} (h : PE X e (tDi K W m)) : PE X e (tE K W (eDct m)) := PE.imp h fun σ H Q ⟨C, ρ, t, A, p⟩ => by
  refine ⟨C, ρ, t, A, ?_⟩
  unfold eDct at p
  cases e : m ρ t with
  | ok d t1 =>
    rw [e] at p
    intro v H1 s1 i1 r1
    obtain ⟨a, u, rfl, n, q, l, r, iv⟩ := r1
    exact p (.ref a) H1 s1 (C.less iv fun _ => .inl) ((r.anti fun _ => .inl).rep n l)
  | ex n fs t1 => rw [e] at p; exact p
  | bad => rw [e] at p; exact p
/-- name = a new dict -/
def sOwnD (i : Nat) (m : MDi τ) : MS τ := sDo m fun p ρ t => .nx (ρ.set i (.dct p.1 p.2)) t
theorem ms_setOwnD {s : Stmt} {i : Nat} {m : MDi τ} (h : PS X s (tAsg (tDi X.K W m) (gName i))) : PS X s (tS X.K W (sOwnD i m)) := PS.imp h fun E σ H ⟨C, ρ, t, A, p⟩ => by
  refine ⟨C, ρ, t, A, ?_⟩
  unfold sOwnD sDo at p
  cases e : m ρ t with
  | ok d t1 =>
    rw [e] at p
    intro v H1 s1 i1 r1
    obtain ⟨a, u, rfl, n, q, l, r, iv⟩ := r1
    obtain ⟨A', sp⟩ := At.setMine (i := i) (x := .dct d.1 d.2) rfl A s1 iv n q l (.dct r)
    exact p _ H1 sp A'
  | ex n fs t1 =>
    rw [e] at p
    exact fun cls dd H' s i x => p cls dd σ H' (Stp.of_sm s fun _ => .inl) (A.next s i) x
  | bad => rw [e] at p; exact p
/-! ### comprehensions -/
def dcompL (pu : List D → List D → D → D → Option (List D × List D)) (g : Tgt) (tt : ME τ Bool) (tk tv : ME τ D) (ρ : Rho) : List D → τ → List D × List D → Res τ (List D × List D)
  | [], t, p => .ok p t
  | d :: ds, t, p => match g ρ d with
    | some ρ1 => (noEx (tt ρ1 t)).bind fun b t => if b = true then (noEx (tk ρ1 t)).bind fun k t => (noEx (tv ρ1 t)).bind fun v t => (match pu p.1 p.2 k v with
        | some p' => dcompL pu g tt tk tv ρ ds t p'
        | none => .bad) else dcompL pu g tt tk tv ρ ds t p
    | none => .bad
def eDComp (pu : List D → List D → D → D → Option (List D × List D)) (ne : Bool) (mi : ME τ (List D)) (vs : List Nat) (g : Tgt) (tt : ME τ Bool) (tk tv : ME τ D) : MDi τ := fun ρ t => (mi ρ t).bind fun ds t =>
  if ds.length ≤ 16777216 ∧ noOwn ρ vs = true then (dcompL pu g tt tk tv (wipeR ρ vs) ds t ([], [])).bind fun p t => if (ne && p.1.isEmpty) = true then .bad else .ok p t else .bad
/-- what such a putting is for data -/
structure PutM (X : Cx) (p : PutK X) (pu : List D → List D → D → D → Option (List D × List D)) (ne : Bool) where
  Ob : Fp → Hp → Addr → HO → List D → List D → Prop
  start : ∀ F H a, sysModules < a → Ob F H a (p.o0 a) [] []
  step : ∀ {F1 F2 H H' a u ks xs}, Ob F1 H a u ks xs → Stp F1 H F2 H' → Ob F2 H' a u ks xs
  put : ∀ {F H a u ks xs y z k d pr}, Ob F H a u ks xs → H a = some u → Rep X.K F H y k → Rep X.K F H z d → pu ks xs k d = some pr → ∀ R : Hp → Prop, (∀ u', Ob F H a u' pr.1 pr.2 → R (upd H a u')) → p.Pu H a y z R
  fin : ∀ {F H a u ks xs}, Ob F H a u ks xs → ¬ (ne && ks.isEmpty) = true → DOb X.K F H a u ks xs
def putMK (X : Cx) : PutM X (putKK X) putAK false where
  Ob := fun F H a u ks xs => ∃ kvs, u = .dK kvs ∧ ks = kvs.map (fun p => keyD p.1) ∧ Reps X.K F H (kvs.map (·.2)) xs
  start := fun F H a _ => ⟨[], rfl, rfl, .nil⟩
  step := fun h s => by
    obtain ⟨kvs, e1, e2, r⟩ := h
    exact ⟨kvs, e1, e2, r.step s⟩
  put := fun {F H a u ks xs y z k d pr} h ha ry rz e R q => by
    obtain ⟨kvs, rfl, rfl, r⟩ := h
    unfold putAK at e
    split at e
    · rename_i hc
      obtain ⟨k0, rfl⟩ := keyD_of hc.1
      obtain ⟨ks', xs', h1, h2, h3⟩ := put_K (k := k0) r rz
      rw [h1] at e
      cases e
      have hy : y = kV k0 := (RepW.of (F0 := F) ry).keyOf
      have hl := hc.2
      rw [List.length_map] at hl
      exact ⟨kvs, k0, hy, ha, hl, q _ ⟨_, rfl, h2, h3⟩⟩
    · cases e
  fin := fun h _ => by
    obtain ⟨kvs, rfl, rfl, r⟩ := h
    exact .k r
def putMX (X : Cx) : PutM X (putXX X) putTK true where
  Ob := fun F H a u ks xs => ∃ o es, u = exo a o ∧ OX a o es ∧ ks = es.map (fun p => D.tup (p.1.map D.int)) ∧ (∀ p ∈ es, TupF X.K F H p.2.1 (p.1.map V.int)) ∧ Reps X.K F H (es.map (·.2.2)) xs
  start := fun F H a hb => ⟨oEmpty, ([] : List EX), rfl, ox_empty hb, rfl, And.intro (fun p h => by cases h) Reps.nil⟩
  step := fun h s => by
    obtain ⟨o, es, e1, ox, e2, kt, r⟩ := h
    exact ⟨o, es, e1, ox, e2, fun p hp => (kt p hp).step s, r.step s⟩
  put := fun {F H a u ks xs y z k d pr} h ha ry rz e R q => by
    obtain ⟨ob, es, rfl, ox, rfl, kt, r⟩ := h
    unfold putTK at e
    split at e
    · rename_i hc
      obtain ⟨ns, rfl⟩ := tuK_of hc.1
      obtain ⟨b, rfl, tb⟩ := (RepW.of (F0 := F) ry).tuOf
      obtain ⟨ks', xs', h1, h2, h3⟩ := put_X (k := ns) (b := b) r rz
      rw [h1] at e
      cases e
      have hl := hc.2
      rw [List.length_map] at hl
      exact ⟨ob, es, ns, b, rfl, ha, ox, allT_of kt, tb.sq, hl, fun o' x' => q _ ⟨o', _, rfl, x', h2, putX_all (P := fun p => TupF X.K F H p.2.1 (p.1.map V.int)) kt tb kt, h3⟩⟩
    · cases e
  fin := fun h n => by
    obtain ⟨o, es, rfl, ox, rfl, kt, r⟩ := h
    refine .x (fun z => n ?_) ox kt r
    rw [z]; rfl
theorem dg_red {p : PutK X} {pu : List D → List D → D → D → Option (List D × List D)} {ne : Bool} (M : PutM X p pu ne) {mi : ME τ (List D)} {vs ws : List Nat} {g : Tgt} {tt : ME τ Bool} {tk tv : ME τ D} {σ : St} {H : Hp} {Q : VK} (hv : ∀ j, j ∈ ws → j ∈ vs) (q0 : tDi X.K W (eDComp pu ne mi vs g tt tk tv) σ H Q) :
    tDg p (tI X.K W mi) (tTg τ X.K g ws) (tT X.K W0 tt) (tE X.K W0 tk) (tE X.K W0 tv) vs σ H Q := by
  obtain ⟨C, ρ, t0, A0, q0⟩ := q0
  refine use okDi A0 q0 fun ds t1 J H1 e1 s1 A1 r1 p1 => ?_
  intro D0 nD bD
  split at p1
  · rename_i hlo
    obtain ⟨hlen, hno⟩ := hlo
    obtain ⟨G, Y, w, hG, hY⟩ := r1
    have nF0 : ¬ Fo C.F ρ σ D0 := fun z => A1.dom D0 z nD
    have sp0 : Stp (Fo C.F ρ σ) H1 (fun b => Fo C.F ρ σ b ∨ b = D0) (upd H1 D0 (p.o0 D0)) := ⟨fun b o _ e => same_upd nD b o e, fun b h => h.elim .inl fun e => .inr (by rw [e]; exact nD)⟩
    refine dg_it w (fun i H' => ∃ (t : τ) (u : HO) (ks xs : List D), C.Iv t (fun b => Fo C.F ρ σ b ∨ b = D0) H' ∧ H' D0 = some u ∧ M.Ob (fun b => Fo C.F ρ σ b ∨ b = D0) H' D0 u ks xs ∧ Sm C.F H1 H' ∧
        Post rDi X.K W C (Fo C.F ρ σ) σ H1 ((dcompL pu g tt tk tv (wipeR ρ vs) (ds.drop i) t (ks, xs)).bind fun p t => if (ne && p.1.isEmpty) = true then .bad else .ok p t) Q)
      ⟨t1, p.o0 D0, [], [], C.step _ _ _ _ _ A1.st (fun b o _ e => same_upd nD b o e) sp0, upd_same, M.start _ _ _ bD, Sm.of_same (same_upd nD), by rw [List.drop_zero]; exact p1⟩ ?_ ?_ ?_
    · rintro i H' hi ⟨t, u, ks, xs, iv, hD, ra, sm, q⟩
      exact hG H' (fun b o n e => sm b o (fun z => n (.inl z)) e)
    · rintro i x H' H'' hi ⟨t, u, ks, xs, iv, hD, ra, sm, q⟩ y
      obtain ⟨AB, fo⟩ := At.blk (vs := vs) A1 nD sm iv hD
      have sp : Stp (Fo C.F ρ σ) H1 (Fo (C.cmp D0 u).F (wipeR ρ vs) (wipe σ vs)) H' := ⟨fun b o n e => sm b o (fun z => n (.inl z)) e, fun b h => (fo b h).elim .inl fun e => .inr (by rw [e]; exact nD)⟩
      obtain ⟨sy, d, ed, r⟩ := hY _ i H' x H'' hi sp AB.dom y
      have AB2 := AB.next (Sm.of_same sy) ((C.cmp D0 u).stay AB.st sy)
      have dr : ds.drop i = d :: ds.drop (i + 1) := by
        obtain ⟨hl, e⟩ := List.getElem?_eq_some_iff.mp ed
        rw [List.drop_eq_getElem_cons hl, e]
      rw [dr] at q
      unfold dcompL at q
      cases eg : g (wipeR ρ vs) d with
      | none => rw [eg] at q; exact q.elim
      | some ρ1 =>
        rw [eg] at q
        dsimp only at q
        refine ⟨C.cmp D0 u, wipeR ρ vs, t, d, AB2, r, ρ1, eg, fun σ2 Hg f2 mg s2 A2 => ⟨(wipe_eq (ws := vs) f2.1 (fun j hj => (f2.2 j hj).1) hv).trans (wipe_eq (ws := vs) (vs := vs) (wipe_length σ vs) (fun j hj => wipe_keep hj) fun _ h => h), ?_⟩⟩
        have sy : Same H' Hg := fun b o e => mg b o (sy b o e)
        have sm2 : Sm C.F H1 Hg := sm.trans (Sm.of_same sy)
        have smB : ∀ {H3 : Hp}, Sm (C.cmp D0 u).F Hg H3 → Sm C.F H1 H3 := fun {H3} s3 b o n e => s3 b o (fun z => z.elim n fun q => by rw [q, nD] at e; cases e) (sm2 b o n e)
        have big : ∀ b, (Fo C.F ρ σ b ∨ b = D0) → Fo (C.cmp D0 u).F ρ1 σ2 b := fun b h => by
          rcases h with (h | ⟨j, xs, h1, h2⟩) | h
          · exact .inl (.inl h)
          · have hj : j ∉ vs := fun hj => noOwn_mine hno h1 hj
            have hj2 : j ∉ ws := fun z => hj (hv j z)
            refine .inr ⟨j, xs, ⟨?_, h1.2⟩, by rw [(f2.2 j hj2).1, wipe_keep hj, h2]⟩
            rw [(f2.2 j hj2).2]
            have : ∀ us : List Nat, j ∉ us → (wipeR ρ us)[j]? = ρ[j]? := fun us => by
              induction us with
              | nil => intro _; rfl
              | cons u us ih =>
                intro hu
                simp only [List.mem_cons, not_or] at hu
                unfold wipeR
                rw [List.getElem?_set_ne (fun e => hu.1 e.symm), ih hu.2]
            rw [this vs hj]; exact h1.1
          · exact .inl (.inr h)
        have raB : ∀ {H3 : Hp}, Sm (C.cmp D0 u).F Hg H3 → M.Ob (fun b => Fo C.F ρ σ b ∨ b = D0) H3 D0 u ks xs := fun {H3} s3 => M.step (M.step ra ⟨fun b o _ e => sy b o e, fun _ h => .inl h⟩) ⟨s3.mono fun b h => h.elim (fun z => .inl (.inl z)) .inr, fun _ h => .inl h⟩
        refine ⟨C.cmp D0 u, ρ1, t, A2, ?_⟩
        unfold noEx at q
        cases et : tt ρ1 t with
        | bad => rw [et] at q; exact q.elim
        | ex n fs t' => rw [et] at q; exact q.elim
        | ok c t3 =>
          rw [et] at q
          intro c' H3 s3 i3 ec
          cases ec
          cases c with
          | false =>
            rw [if_neg Bool.false_ne_true]
            exact ⟨t3, u, ks, xs, C.less i3.1 big, i3.2, raB s3, smB s3, q⟩
          | true =>
            rw [if_pos rfl]
            have A3 := A2.next s3 i3
            refine ⟨C.cmp D0 u, ρ1, t3, A3, ?_⟩
            simp only [Res.bind_ok, if_true] at q
            cases ek : tk ρ1 t3 with
            | bad => rw [ek] at q; exact q.elim
            | ex n fs t' => rw [ek] at q; exact q.elim
            | ok k t4 =>
              rw [ek] at q
              intro kv H4 s4 i4 rk
              have A4 := A3.next s4 i4
              refine ⟨C.cmp D0 u, ρ1, t4, A4, ?_⟩
              simp only [Res.bind_ok] at q
              cases ev : tv ρ1 t4 with
              | bad => rw [ev] at q; exact q.elim
              | ex n fs t' => rw [ev] at q; exact q.elim
              | ok v t5 =>
                rw [ev] at q
                intro vv H5 s5 i5 rv
                simp only [Res.bind_ok] at q
                have s35 : Sm (C.cmp D0 u).F Hg H5 := (s3.trans s4).trans s5
                have kB : Rep X.K (fun b => Fo C.F ρ σ b ∨ b = D0) H5 kv k := Rep.anti (rk.same (s5.mono fun _ => Fo.base)) big
                have vB : Rep X.K (fun b => Fo C.F ρ σ b ∨ b = D0) H5 vv v := Rep.anti rv big
                cases ep : pu ks xs k v with
                | none => rw [ep] at q; exact q.elim
                | some pr =>
                  rw [ep] at q
                  refine M.put (raB s35) i5.2 kB vB ep _ fun u' ob => ?_
                  have sp6 : Stp (fun b => Fo C.F ρ σ b ∨ b = D0) H5 (fun b => Fo C.F ρ σ b ∨ b = D0) (upd H5 D0 u') := ⟨fun b o n e => by rw [upd_ne (fun z => n (.inr z))]; exact e, fun b h => .inl h⟩
                  refine ⟨t5, u', pr.1, pr.2, ?_, upd_same, M.step ob sp6, ?_, q⟩
                  · refine C.step _ _ _ _ _ (C.less i5.1 big) (fun b o h e => ?_) sp6
                    rw [upd_ne (fun z => nF0 (by rw [← z]; exact .inl h))]
                    exact e
                  · intro b o n e
                    have nb : b ≠ D0 := fun z => by rw [z, nD] at e; cases e
                    rw [upd_ne nb]
                    exact smB s35 b o n e
    · rintro H' ⟨t, u, ks, xs, iv, hD, ra, sm, q⟩
      rw [List.drop_length] at q
      unfold dcompL at q
      simp only [Res.bind_ok] at q
      split at q
      · exact q.elim
      · rename_i hn
        exact q (.ref D0) H' sm (C.less iv fun _ => .inl) ⟨D0, u, rfl, nF0, nD, hD, M.fin ra hn, iv⟩
  · exact p1.elim
theorem md_dc {p : PutK X} {pu : List D → List D → D → D → Option (List D × List D)} {ne : Bool} (M : PutM X p pu ne) {kx vx tg iter : Expr} {ifs : List Expr} {scope : Scope} {own : List (Str × Nat)} {ws : List Nat} {pos : Pos} {mi : ME τ (List D)} {g : Tgt} {tt : ME τ Bool} {tk tv : ME τ D} (hu : X.A.units + 1 < cLine) (hc : X.calm = true) (hN : X.N.Nodup) (hi : PI X tg iter (tI X.K W mi)) (ok : BlkOk X.N X.env.scope scope own)
    (hv : ∀ j, j ∈ ws → j ∈ own.map (·.2))
    (hg : ∀ (s : Shared) (H : Hp) (C : Addr) (cl : List (Str × Addr)) (fp : List Addr), PG (X.blk s H scope (compEnvC scope cl C X.env) fp) tg (tTg τ X.K g ws)) (ht : ∀ (s : Shared) (H : Hp) (C : Addr) (cl : List (Str × Addr)) (fp : List Addr), PTs (X.blk s H scope (compEnvC scope cl C X.env) fp) ifs (tT X.K W0 tt))
    (hk : ∀ (s : Shared) (H : Hp) (C : Addr) (cl : List (Str × Addr)) (fp : List Addr), PE (X.blk s H scope (compEnvC scope cl C X.env) fp) kx (tE X.K W0 tk))
    (he : ∀ (s : Shared) (H : Hp) (C : Addr) (cl : List (Str × Addr)) (fp : List Addr), PE (X.blk s H scope (compEnvC scope cl C X.env) fp) vx (tE X.K W0 tv)) (hs : ∀ x, foldedSetIterable iter X.env x = pure x := by intro _; rfl) :
    PE X (.DictComp kx vx [⟨tg, iter, ifs, 0⟩] scope pos) (tDi X.K W (eDComp pu ne mi (own.map (·.2)) g tt tk tv)) := PE.imp (pe_dg (p := p) hu hc hN hi ok hg ht hk he hs) fun _ _ _ q => dg_red M hv q
/-- name = {..}, as an own dict, as a value -/
theorem ms_dcOwn {p : PutK X} {pu : List D → List D → D → D → Option (List D × List D)} {ne : Bool} (M : PutM X p pu ne) {s : Stmt} {i : Nat} {mi : ME τ (List D)} {vs ws : List Nat} {g : Tgt} {tt : ME τ Bool} {tk tv : ME τ D} (hv : ∀ j, j ∈ ws → j ∈ vs) (h : PS X s (tAsg (tDg p (tI X.K W mi) (tTg τ X.K g ws) (tT X.K W0 tt) (tE X.K W0 tk) (tE X.K W0 tv) vs) (gName i))) :
    PS X s (tS X.K W (sOwnD i (eDComp pu ne mi vs g tt tk tv))) := ms_setOwnD (PS.imp h fun _ _ _ q => dg_red M hv q)
end
end MM

/-! M29: dicts: list(d), walking d, max(d.values()), k in d, d.get(k, x). -/
namespace MM
open PySem PySem.Spec PyProof.Rows L2
section
variable {X : Cx} {W : WX} {τ : Type} [Sto τ] {K : Fg}
theorem kdlRaw {prog : Program} {w : World} {d : Addr} {arr : Array DictEntry} {ep : Nat} (lo : (d == sysModules) = false) : PySem.W.KdlSrc prog w "dict" d d arr.size (fun i v => ∃ hi : i < arr.size, v = arr[i].key) (fun h => h.DictRaw d arr ep) where
  type := fun _ hm => hm.typeIs
  there := fun _ hm => let ⟨_, e, _⟩ := hm; ⟨Heap.lt_size e, Heap.lt_size e⟩
  keep := fun _ _ hm hk => hm.at fun o e => hk d (.inl rfl) o e
  notList := by decide
  notTuple := by decide
  hint := fun _ _ _ _ hm hq => PySem.W.kdl_hint_dict hm.typeIs hq
  iter := fun _ s hh hm => ⟨_, _, (fun _ _ hq => wpAny_pyIter_dict_raw lo hm hq), Walks.rawKeys hh _ d (let ⟨_, e, _⟩ := hm; Nat.ne_of_lt (Heap.lt_size e)) arr ep, ⟨⟨_, Heap.get?_push_size _ rfl, rfl, rfl⟩, hm.at fun o e => Heap.get?_push_of_some _ e⟩⟩
theorem px_at : ∀ {es : List EX} {xs : List (List Int × Addr × Value)} {i : Nat} {x : List Int × Addr × Value}, PX es xs → xs[i]? = some x → ∃ p, es[i]? = some p ∧ p.1 = x.1 ∧ p.2.1 = x.2.1 ∧ RelV p.2.2 x.2.2
  | _, _, _, _, .nil, e => by simp at e
  | _, _, 0, _, .cons h _, e => by simp at e; subst e; exact ⟨_, rfl, h⟩
  | _, _, i + 1, x, .cons _ t, e => by
    obtain ⟨p, h1, h2⟩ := px_at (i := i) t (by simpa using e)
    exact ⟨p, by simpa using h1, h2⟩
/-- its entries -/
theorem ox_at {a : Addr} {o : Obj} {es : List EX} (ox : OX a o es) : ∃ (arr : Array DictEntry) (ep : Nat), o.ExactDict ∧ o.data = .dict arr ep ∧ arr.size = es.length ∧ ∀ (i : Nat) (hi : i < arr.size), ∃ p, es[i]? = some p ∧ arr[i].key = .ref p.2.1 ∧ RelV p.2.2 arr[i].val := by
  obtain ⟨_, _, _, xs, r, arr, ep, c, d, q⟩ := ox
  have hl : arr.size = xs.length := by
    have := congrArg List.length q
    rw [List.length_map, Array.length_toList] at this
    exact this
  refine ⟨arr, ep, c, d, by rw [hl, Paired.length r], fun i hi => ?_⟩
  have hx : i < xs.length := hl ▸ hi
  obtain ⟨p, h1, h2, h3, h4⟩ := px_at r (List.getElem?_eq_getElem hx)
  have e : arr[i] = entX xs[i] := by
    have : arr.toList[i]? = (xs.map entX)[i]? := by rw [q]
    rw [List.getElem?_map, List.getElem?_eq_getElem hx, Array.getElem?_toList, Array.getElem?_eq_getElem hi] at this
    exact Option.some.inj this
  exact ⟨p, h1, by rw [e]; show Value.ref xs[i].2.1 = _; rw [h3], by rw [e]; exact h4⟩
/-- list(d) -/
def rListX : List V → Hp → VK → Prop := fun xs H Q => ∃ (a : Addr) (o : Obj) (es : List EX), xs = [.ref a] ∧ H a = some (exo a o) ∧ OX a o es ∧ ∀ l, H l = none → Q (.ref l) (upd H l (.lst (es.map fun p => V.ref p.2.1)))
theorem vals_keys : ∀ {es : List EX} {vs : List Value}, vs.length = es.length → (∀ (i : Nat) (v : Value), vs[i]? = some v → ∃ p : EX, es[i]? = some p ∧ v = Value.ref p.2.1) → Vals (es.map fun p => V.ref p.2.1) vs
  | [], [], _, _ => .nil
  | p :: es, v :: vs, hl, h => by
    obtain ⟨p', e, rfl⟩ := h 0 v rfl
    cases e
    refine .cons rfl (vals_keys (by simpa using hl) fun i v e => ?_)
    obtain ⟨p', e1, e2⟩ := h (i + 1) v (by simpa using e)
    exact ⟨p', by simpa using e1, e2⟩
theorem cr_listX (hc : X.calm = true) : CallR X (.type "list") rListX := by
  intro pins s σ H xs us Q I r h
  obtain ⟨a, o, es, rfl, ha, ox, q⟩ := h
  rw [Vals.ref1 r]
  have hg := exo_get (I.hok a _ ha)
  obtain ⟨arr, ep, c, d, hl, he⟩ := ox_at ox
  have hz : es.length ≤ sizeLine := ox.1
  refine PySem.W.kdl_call (kdlRaw (prog := X.prog) (w := X.w) (arr := arr) (ep := ep) ox.2.1) (I.ok.hd hc) ⟨o, hg, c, d⟩ (by rw [hl]; exact hz) fun h' tk acc' c' hk hS hacc => ?_
  have hn : H s.heap.objs.size = none := I.hok.fresh (Nat.le_refl _)
  have rv : Vals (es.map fun p => V.ref p.2.1) acc'.toList := by
    refine vals_keys (by rw [Array.length_toList, hacc.1, hl]) fun i v e => ?_
    rw [Array.getElem?_toList] at e
    obtain ⟨hi, rfl⟩ := hacc.2 i v e
    obtain ⟨p, h1, h2, _⟩ := he i hi
    exact ⟨p, h1, h2⟩
  refine ⟨.ref s.heap.objs.size, upd H s.heap.objs.size (.lst (es.map fun p => V.ref p.2.1)), ?_, rfl, q _ hn⟩
  exact I.laid (t' := tk) hk (Nat.le_refl _) ⟨by rw [List.length_map]; exact hz, acc'.toList, c', rv, by simpa using hS⟩
def isXk : List D → Bool
  | .tup _ :: _ => true
  | _ => false
def fLstX : List D → Option (List D)
  | [.dct ks _] => if isXk ks = true then some ks else none
  | _ => none
theorem DOb.isX {F : Fp} {H : Hp} {a : Addr} {u : HO} {ks xs : List D} (r : DOb K F H a u ks xs) (h : isXk ks = true) : ∃ (o : Obj) (es : List EX), u = exo a o ∧ OX a o es ∧ ks = es.map (fun p => D.tup (p.1.map D.int)) ∧ (∀ p ∈ es, TupF K F H p.2.1 (p.1.map V.int)) ∧ Reps K F H (es.map (·.2.2)) xs := by
  cases r with
  | k r =>
    rename_i kvs
    cases kvs with
    | nil => cases h
    | cons q kvs =>
      have h' : isXk (keyD q.1 :: kvs.map fun p => keyD p.1) = true := h
      cases hk : q.1 <;> (rw [hk] at h'; cases h')
  | x ne ox kt r => exact ⟨_, _, rfl, ox, rfl, kt, r⟩
theorem reps_keys {F : Fp} {H : Hp} : ∀ {es : List EX}, (∀ p ∈ es, TupF K F H p.2.1 (p.1.map V.int)) → Reps K F H (es.map fun p => V.ref p.2.1) (es.map fun p => D.tup (p.1.map D.int))
  | [], _ => .nil
  | p :: es, h => by
    have ri : ∀ ns : List Int, Reps K F H (ns.map V.int) (ns.map D.int) := fun ns => by
      induction ns with
      | nil => exact .nil
      | cons i ns ih => exact .cons (.int i) ih
    exact .cons (.tup (h p List.mem_cons_self) (ri p.1)) (reps_keys fun q hq => h q (List.mem_cons_of_mem _ hq))
theorem mf_listX {x : Str} {e : Expr} {es : List Expr} {p pos : Pos} {ms : ME τ (List D)} (hc : X.calm = true) (hg : Gl X x) (hm : X.mg x = none) (hv : bootBuiltins x = some (.type "list"))
    (ha : PA X (e :: es) (tAW X.K W ms)) (hn : x ≠ "__name__" := by decide) (hdb : (x == ("__debug__" : Str)) = false := by decide)
    (he : starEach (e :: es) X.env = (false, eval e X.env) :: starEach es X.env := by rfl) (hpl : (backTo pos (starEach es X.env)).any (·.1) = false := by rfl) :
    PE X (.Call (.Name x p) (e :: es) [] pos) (tF X.K W (MM.e1 fLstX ms)) := PE.imp (pe_callTy (cr_listX hc) hg hm hv ha hn hdb he hpl) fun σ H Q ⟨C, ρ, t, A, p⟩ => by
  refine use okF A p fun ds t1 v H1 e1 s1 A1 r1 p1 => ?_
  unfold fLstX at p1
  split at p1
  · obtain ⟨v, rfl, r0⟩ := RepsW.one r1
    obtain ⟨a, u, rfl, h1, rs⟩ := r0.dctOf
    split at p1
    · rename_i hx
      obtain ⟨o, es, rfl, ox, ek, kt, r⟩ := rs.isX hx
      refine ⟨a, o, es, rfl, h1, ox, fun l hl => ?_⟩
      have same : Same H1 (upd H1 l (.lst (es.map fun p => V.ref p.2.1))) := same_upd hl
      have sp : Stp (Fo C.F ρ σ) H1 (fun b => Fo C.F ρ σ b ∨ b = l) (upd H1 l (.lst (es.map fun p => V.ref p.2.1))) := ⟨fun b o _ e => same b o e, fun b h => h.elim .inl fun e => .inr (by rw [e]; exact hl)⟩
      refine p1 (.ref l) _ (Sm.of_same same) (C.stay A1.st same) ⟨l, _, rfl, fun z => A1.dom l z hl, hl, upd_same, ?_, C.step _ _ _ _ _ A1.st (fun b o _ e => same b o e) sp⟩
      rw [ek]
      exact (reps_keys kt).step sp
    · exact p1.elim
  · exact p1.elim
end
theorem _root_.L2.Room.units1 {k : Nat} {A : Around} (r : Room k A) : A.units + 1 < cLine := by have := r.un; omega
end MM

/-! M30: reasoning about dicts, comprehensions of known items, loops over encoded items. -/
namespace MM
open PySem PySem.Spec PyProof.Rows L2
section
variable {τ : Type} {ρ : Rho} {t : τ} {X : Str → Fds → τ → Prop} {P : Pt τ} {g : Tgt} {tt : ME τ Bool} {te tk tv : ME τ D} {pu : List D → List D → D → D → Option (List D × List D)}
@[simp] theorem oE_eDct {a : MDi τ} {Q : D → τ → Prop} : oE (eDct a ρ t) Q X = oE (a ρ t) (fun p t => Q (.dct p.1 p.2) t) X := by unfold eDct; simp
@[simp] theorem oE_dcomp {ne : Bool} {mi : ME τ (List D)} {vs : List Nat} {Q : List D × List D → τ → Prop} : oE (eDComp pu ne mi vs g tt tk tv ρ t) Q X = oE (mi ρ t) (fun ds t => (ds.length ≤ 16777216 ∧ noOwn ρ vs = true) ∧ oE (dcompL pu g tt tk tv (wipeR ρ vs) ds t ([], [])) (fun p t => ¬ (ne && p.1.isEmpty) = true ∧ Q p t) X) X := by
  unfold eDComp
  rw [oE_bind]
  congr; funext ds t
  by_cases h : ds.length ≤ 16777216 ∧ noOwn ρ vs = true
  · rw [if_pos h, oE_bind]
    simp only [h, true_and, and_self]
    congr; funext p t
    by_cases q : (ne && p.1.isEmpty) = true
    · rw [if_pos q]; simp [q]
    · rw [if_neg q]; simp only [oE_ok, q]; simp
  · rw [if_neg h]
    simp only [oE_bad, h, false_and]
theorem oE_dcompNil {p : List D × List D} {Q : List D × List D → τ → Prop} : oE (dcompL pu g tt tk tv ρ [] t p) Q X = Q p t := rfl
theorem oE_dcompCons {d : D} {ds : List D} {p : List D × List D} {Q : List D × List D → τ → Prop} : oE (dcompL pu g tt tk tv ρ (d :: ds) t p) Q X = ∃ ρ1, g ρ d = some ρ1 ∧ oE (tt ρ1 t) (fun b t => (b = true → oE (tk ρ1 t) (fun k t => oE (tv ρ1 t) (fun v t => ∃ p', pu p.1 p.2 k v = some p' ∧ oE (dcompL pu g tt tk tv ρ ds t p') Q X) (fun _ _ _ => False)) (fun _ _ _ => False)) ∧ (¬ b = true → oE (dcompL pu g tt tk tv ρ ds t p) Q X)) (fun _ _ _ => False) := by
  rw [dcompL.eq_def]
  dsimp only
  cases e : g ρ d with
  | none => simp
  | some ρ1 =>
    simp only [Option.some.injEq, exists_eq_left']
    rw [oE_bind, oE_noEx]
    cases e2 : tt ρ1 t with
    | bad => rfl
    | ex n fs t => rfl
    | ok b t1 =>
      simp only [oE_ok]
      cases b with
      | false => simp
      | true =>
        simp only [if_true, not_true_eq_false, false_implies, and_true, forall_const]
        rw [oE_bind, oE_noEx]
        congr; funext k t2
        rw [oE_bind, oE_noEx]
        congr; funext v t3
        cases pu p.1 p.2 k v <;> simp
@[simp] theorem oS_ownD {i : Nat} {m : MDi τ} : oS (sOwnD i m ρ t) P = oE (m ρ t) (fun p t => P.nx (ρ.set i (.dct p.1 p.2)) t) (fun n fs t => P.ex n fs ρ t) := by
  unfold sOwnD; rw [oS_do]; rfl
@[simp] theorem oS_putD {i : Nat} {mv mk : ME τ D} : oS (sPutD i mv mk ρ t) P = (match ρ[i]? with | some (.dct ks xs) => oE (mv ρ t) (fun v t => oE (mk ρ t) (fun k t => ∃ p, putD ks xs k v = some p ∧ P.nx (ρ.set i (.dct p.1 p.2)) t) (fun n fs t => P.ex n fs ρ t)) (fun n fs t => P.ex n fs ρ t) | _ => False) := by
  have key : ∀ o : Option Slot, oS ((match o with
      | some (.dct ks xs) => sDo mv (fun v ρ t => sDo mk (fun k ρ t => match putD ks xs k v with
        | some p => .nx (ρ.set i (.dct p.1 p.2)) t
        | none => .bad) ρ t) ρ t
      | _ => .bad) : Fl τ) P = (match o with | some (.dct ks xs) => oE (mv ρ t) (fun v t => oE (mk ρ t) (fun k t => ∃ p, putD ks xs k v = some p ∧ P.nx (ρ.set i (.dct p.1 p.2)) t) (fun n fs t => P.ex n fs ρ t)) (fun n fs t => P.ex n fs ρ t) | _ => False) := fun o => by
    cases o with
    | none => rfl
    | some s =>
      cases s with
      | no => rfl
      | val d => rfl
      | own _ => rfl
      | dct ks xs =>
        dsimp only
        rw [oS_do]
        congr; funext v t
        rw [oS_do]
        congr; funext k t
        cases putD ks xs k v <;> simp
  exact key (ρ[i]?)
/-- a comprehension of items that are known -/
theorem comp_map {α : Type} {enc f : α → D} : ∀ {xs : List α} {Q : List D → τ → Prop}, (∀ x ∈ xs, ∃ ρ1, g ρ (enc x) = some ρ1 ∧ oE (te ρ1 t) (fun y t' => y = f x ∧ t' = t) (fun _ _ _ => False)) → Q (xs.map f) t →
    oE (compL g (fun _ t => .ok true t) te ρ (xs.map enc) t) Q X
  | [], _, _, h => h
  | x :: xs, Q, hx, h => by
    obtain ⟨ρ1, e1, e2⟩ := hx x List.mem_cons_self
    rw [List.map_cons, oE_compCons]
    refine ⟨ρ1, e1, ?_⟩
    simp only [oE_ok, not_true_eq_false, false_implies, and_true, forall_const]
    refine oE_imp e2 (fun y t' hh => ?_) fun _ _ _ z => z
    rw [hh.1, hh.2]
    exact comp_map (Q := fun ys t => Q (f x :: ys) t) (fun z hz => hx z (List.mem_cons_of_mem _ hz)) h
theorem comp_filt {α : Type} {enc f : α → D} {p : α → Bool} : ∀ {xs : List α} {Q : List D → τ → Prop}, (∀ x ∈ xs, ∃ ρ1, g ρ (enc x) = some ρ1 ∧ oE (tt ρ1 t) (fun b t' => b = p x ∧ t' = t) (fun _ _ _ => False) ∧ (p x = true → oE (te ρ1 t) (fun y t' => y = f x ∧ t' = t) (fun _ _ _ => False))) → Q ((xs.filter p).map f) t →
    oE (compL g tt te ρ (xs.map enc) t) Q X
  | [], _, _, h => h
  | x :: xs, Q, hx, h => by
    obtain ⟨ρ1, e1, e2, e3⟩ := hx x List.mem_cons_self
    rw [List.map_cons, oE_compCons]
    refine ⟨ρ1, e1, ?_⟩
    refine oE_imp e2 (fun b t' hh => ?_) fun _ _ _ z => z
    have eb := hh.1
    rw [hh.2]
    have r := fun z hz => hx z (List.mem_cons_of_mem x hz)
    refine ⟨fun hb => ?_, fun hb => ?_⟩
    · rw [eb] at hb
      rw [List.filter_cons, if_pos hb] at h
      refine oE_imp (e3 hb) (fun y t' hh => ?_) fun _ _ _ z => z
      rw [hh.1, hh.2]
      exact comp_filt (Q := fun ys t => Q (f x :: ys) t) r h
    · rw [eb] at hb
      rw [List.filter_cons, if_neg hb] at h
      exact comp_filt r h
/-- a for over encoded items: what is done, what is still to come -/
theorem oS_loopE {α : Type} {enc : α → D} {b : MS τ} (I : List α → List α → Rho → τ → Prop) (xs : List α) (h0 : I [] xs ρ t)
    (hs : ∀ dn x td ρ t, xs = dn ++ x :: td → I dn (x :: td) ρ t → ∃ ρ1, g ρ (enc x) = some ρ1 ∧ oS (b ρ1 t) { P with nx := I (dn ++ [x]) td, ct := I (dn ++ [x]) td, bk := P.nx }) (hn : ∀ ρ t, I xs [] ρ t → P.nx ρ t) : oS (loopF g b (xs.map enc) ρ t) P := by
  have key : ∀ (td dn : List α) (ρ : Rho) (t : τ), xs = dn ++ td → I dn td ρ t → oS (loopF g b (td.map enc) ρ t) P := by
    intro td
    induction td with
    | nil =>
      intro dn ρ t e h
      rw [List.append_nil] at e
      subst e
      exact hn ρ t h
    | cons x td ih =>
      intro dn ρ t e h
      rw [List.map_cons, oS_loop_cons]
      obtain ⟨ρ1, e1, h1⟩ := hs dn x td ρ t e h
      have e' : xs = (dn ++ [x]) ++ td := by rw [e]; simp
      exact ⟨ρ1, e1, oS_imp h1 (fun ρ t h => ih (dn ++ [x]) ρ t e' h) (fun _ _ h => h) (fun _ _ _ _ h => h) (fun _ _ h => h) (fun ρ t h => ih (dn ++ [x]) ρ t e' h)⟩
  exact key xs [] ρ t rfl h0
/-- a search: a for that goes on or tells -/
theorem oS_all {α : Type} {enc : α → D} {b : MS τ} (xs : List α) (I : Rho → τ → Prop) (h0 : I ρ t) (hs : ∀ x ∈ xs, ∀ ρ t, I ρ t → ∃ ρ1, g ρ (enc x) = some ρ1 ∧ oS (b ρ1 t) { P with nx := I, ct := I, bk := P.nx }) (hn : ∀ ρ t, I ρ t → P.nx ρ t) : oS (loopF g b (xs.map enc) ρ t) P :=
  oS_loopE (fun _ _ => I) xs h0 (fun dn x td ρ t e h => hs x (by rw [e]; simp) ρ t h) hn
end
/-! looking up, putting by names -/
theorem look_map {α : Type} {ks : List α} {k : α → D} {f : α → D} {x : α} (hx : x ∈ ks) (hk : ∀ y ∈ ks, keqD (k x) (k y) = true → f y = f x) (hs : keqD (k x) (k x) = true) : lookL (ks.map k) (ks.map f) (k x) = some (f x) := by
  induction ks with
  | nil => cases hx
  | cons y ks ih =>
    show (if keqD (k x) (k y) = true then some (f y) else lookL (ks.map k) (ks.map f) (k x)) = _
    by_cases q : keqD (k x) (k y) = true
    · rw [if_pos q, hk y List.mem_cons_self q]
    · rw [if_neg q]
      rcases List.mem_cons.mp hx with rfl | hx
      · exact absurd hs q
      · exact ih hx fun z hz => hk z (List.mem_cons_of_mem _ hz)
theorem put_map {α : Type} {ks : List α} {k : α → D} {f : α → D} {x : α} {v : D} (hx : x ∈ ks) (hs : keqD (k x) (k x) = true) : putL (ks.map k) (ks.map f) (k x) v = (ks.map k, ks.map fun y => if keqD (k x) (k y) = true then v else f y) := by
  unfold putL
  rw [if_pos]
  · congr 1
    clear hx
    induction ks with
    | nil => rfl
    | cons y ks ih => simp [ih]
  · rw [List.any_eq_true]
    exact ⟨k x, List.mem_map.mpr ⟨x, hx, rfl⟩, hs⟩
theorem put_new {ks xs : List D} {k v : D} (h : ∀ y ∈ ks, ¬ keqD k y = true) : putL ks xs k v = (ks ++ [k], xs ++ [v]) := by
  unfold putL
  rw [if_neg]
  rw [List.any_eq_true]
  rintro ⟨y, hy, q⟩
  exact h y hy q
@[simp] theorem keq_str {x y : Str} : keqD (.str x) (.str y) = decide (x = y) := rfl
@[simp] theorem keq_int {x y : Int} : keqD (.int x) (.int y) = decide (x = y) := rfl
@[simp] theorem dIxD_dct {ks xs : List D} {k : D} : dIxD (.dct ks xs) k = lookL ks xs k := rfl
end MM

/-! M31: enumerate over tuples. -/
namespace PySem
open Sem (wp)
open AutoSeq1 (wpAny_loadPart')
theorem mEnumT (l : Addr) (ob : Obj) (items : Array Value) (hc : ob.cls = .type "tuple") (hT : ∀ h : Heap, h.get? l = some ob → h.IsTuple l items) :
    Meets (Builtin.«enumerate.__new__» ⟨[.type "enumerate", .ref l], []⟩) (fun _ R s => s.heap.get? l = some ob ∧
      R (.ok (.ret (.ref (s.heap.push { cls := .type "tuple_iterator", data := .fields #[.ref l, .int 0 0] }).objs.size)))
        { s with heap := (s.heap.push { cls := .type "tuple_iterator", data := .fields #[.ref l, .int 0 0] }).push { cls := .type "enumerate", data := .fields #[.none, .bool false, .ref s.heap.objs.size, rawInt 0, .none, .none] } }) :=
  .of_wp fun prog w A R s h => by
    obtain ⟨hp, g, d, tk, os⟩ := s; obtain ⟨hl, h⟩ := h
    have hsub := sub_enumerate
    have hL : Heap.IsTuple (Shared.heap ⟨hp, g, d, tk, os⟩) l items := hT _ hl
    wp_walk using wpAny_loadPart' hl
    refine wpAny_stack_any fun st => wpAny_pure ?_
    split
    · rename_i c _ _ _ _ _
      cases (c == Value.type "enumerate")
      · wp_walk using wpAny_loadPart' hl, wpAny_pyIter_tuple hL
        exact ⟨_, rfl, h⟩
      · wp_walk using wpAny_loadPart' hl, wpAny_pyIter_tuple hL
        exact ⟨_, rfl, h⟩
    · wp_walk using wpAny_loadPart' hl, wpAny_pyIter_tuple hL
      exact ⟨_, rfl, h⟩
end PySem
namespace MM
open PySem PySem.Spec PyProof.Rows L2
theorem pyNext_enumT_end {prog : Program} {w : World} {A : Around} {E : Value → Shared → Prop} {s : Shared} {e it l : Addr} {i : Nat} {items : Array Value} {old : Value} {Q : Option Value → Shared → Prop} (hh : A.handled = none)
    (he : IsEnum s.heap e it i old) (hit : s.heap.IsTupleIter it l i) (hl : s.heap.IsTuple l items) (hx : items[i]? = none) (hQ : ∀ h', Heap.ExtBut it s.heap h' → Q none { s with heap := h' }) : wpAny (model prog w) A (pyNext (.ref e)) Q E s := by
  have hT : s.TypeIs (.ref e) "enumerate" := ⟨_, he, rfl⟩
  unfold pyNext
  refine wpAny_bind (wpAny_attempt (wpAny_callSpecial?_slot (name := Str.ofString "__next__") hT F.slot_enumerate_next (wpAny_call_entry F.slot_enumerate_next hT F.entry_enumerate_next ?_ (F.args_enumerate_next_1 _))))
  show wpAny _ _ (field (.ref e) 2 >>= _) _ _ _
  refine wpAny_bind (wpAny_field he rfl (x := .ref it) rfl (wpAny_bind (wpAny_nextOf_tuple_end hh hit hl hx fun h' x he' hx' => ?_)))
  obtain ⟨o, ho, hc⟩ := hx'
  exact wpAny_bind (wpAny_isInstance (T := "StopIteration") (b := true) ⟨o, ho, hc⟩ isSubtype_stop (wpAny_pure (hQ _ he')))
/-- the tuple at a, each item in a new pair with its place -/
def IteT (K : PySem.W.Frag) (a : Addr) : It :=
  ⟨fun i H => ∃ (xs : List V) (x : V), SqT K H a xs ∧ xs[i]? = some x, fun i H v H' => ∃ T x, v = .ref T ∧ H T = none ∧ H' = upd H T (.tup [.int (i : Nat), x]) ∧ ∀ xs, SqT K H a xs → xs[i]? = some x, fun i H => ∃ xs : List V, SqT K H a xs ∧ xs.length ≤ i⟩
theorem turn_enT {P : Program} {w : World} {K : PySem.W.Frag} {elts : List Expr} {kk : Nat} {tpos : Pos} (a e it : Addr) (hai : a ≠ it) (hae : a ≠ e) :
    Turn P w K (.Tuple elts kk tpos) (IteT K a) [e, it] e (fun i h => (∃ old, IsEnum h e it ((i : Nat) : Int) old) ∧ h.IsTupleIter it a i ∧ e ≠ it) where
  mem := by simp
  obj := fun i h st b hb => by
    obtain ⟨⟨old, he⟩, ⟨o, ho, hc, hd⟩, _⟩ := st
    have hb' : b = e ∨ b = it := by simpa using hb
    rcases hb' with rfl | rfl
    · exact ⟨_, he, fun v q => nomatch q⟩
    · exact ⟨o, ho, fun v q => by rw [hd] at q; cases q⟩
  keep := fun i h h' st k => let ⟨⟨old, he⟩, hi, ne⟩ := st; ⟨⟨old, k e (by simp) _ he⟩, hi.at fun o q => k it (by simp) o q, ne⟩
  item := by
    intro X hP hw hK hc i pins s σ H E I hf st hg
    subst hP hw hK
    obtain ⟨⟨old, he⟩, hit, ne⟩ := st
    obtain ⟨xs, x, hq, hx⟩ := hg
    obtain ⟨its, rv, p, hz⟩ := I.tuple hq
    obtain ⟨u, hu, ru⟩ := rv.get hx
    have lt : i < its.toArray.size := by
      have := (List.getElem?_eq_some_iff.mp hu).1
      simpa using this
    have el : e < s.heap.objs.size := Heap.lt_size he
    have il : it < s.heap.objs.size := by obtain ⟨_, q, _⟩ := hit; exact Heap.lt_size q
    have D := Draws.tuple (prog := X.prog) (w := X.w) (A := X.A.in1) (I.ok.hd hc) it a hai its.toArray
    refine wpAny_pyNext_enum_itemD D he ⟨hit, p⟩ lt ne (by simp only [List.mem_cons, List.not_mem_nil, or_false, not_or]; exact ⟨ne, fun z => hae z.symm⟩) fun y h' tk hy ho hst hT hsz hk => ?_
    have ey : y = u := by
      have hy' : its.toArray[i]? = some y := hy
      rw [List.getElem?_toArray, hu] at hy'
      exact (Option.some.inj hy').symm
    subst ey
    refine ⟨_, rfl, wpAny_letOwnedTupleGo_enum (s := { s with heap := h', toks := tk + 1 }) ho fun h'' he' sb => ?_⟩
    have hT2 : h''.get? s.heap.objs.size = some { cls := .type "tuple", data := .seq #[.int i tk, y] } := (sb.2 _ (Nat.ne_of_gt el)).trans hT
    have new : ObjOk X.prog X.w (upd H s.heap.objs.size (.tup [.int (i : Nat), x])) h'' s.heap.objs.size (.tup [.int (i : Nat), x]) :=
      ⟨by show 2 ≤ sizeLine; decide, [.int i tk, y], .cons ⟨_, rfl⟩ (.cons ru .nil), ⟨_, hT2, rfl, _, rfl⟩⟩
    have I1 : Inv X pins σ (upd H s.heap.objs.size (.tup [.int (i : Nat), x])) { s with heap := h'', toks := tk + 1 } :=
      I.turnedNew (ch := [e, it]) (fun b ob hb q => (sb.2 b (fun z => hb (by simp [z]))).trans (hk b ob (fun z => hb (by simp [z])) (fun z => hb (by simp [z])) q)) hf (Nat.le_refl _) new
    refine ⟨.ref s.heap.objs.size, _, I1, rfl, ⟨_, x, rfl, I.hok.fresh (Nat.le_refl _), rfl, fun ys hys => ?_⟩, ⟨⟨y, ?_⟩, hst.1.at fun o q => (sb.2 it (Ne.symm ne)).trans q, ne⟩, fun b hb => ?_⟩
    · rw [I.tuple_inj hys hq]; exact hx
    · rw [show ((i + 1 : Nat) : Int) = (i : Int) + 1 by omega]; exact he'
    · have hb' : b = e ∨ b = it := by simpa using hb
      have : b < s.heap.objs.size := by rcases hb' with rfl | rfl <;> assumption
      rw [upd_ne (Nat.ne_of_lt this)]
      exact (hf b hb).1
  done := by
    intro X hP hw hK hc i pins s σ H E I hf st hg
    subst hP hw hK
    obtain ⟨⟨old, he⟩, hit, ne⟩ := st
    obtain ⟨xs, hq, hx⟩ := hg
    obtain ⟨its, rv, p, hz⟩ := I.tuple hq
    obtain ⟨f0, f1, f2, f3, f4, f5⟩ := hf it (by simp)
    have hl := rv.length
    exact pyNext_enumT_end (I.ok.hd hc) he hit p (by simp; omega) fun h' eb => ⟨rfl, I.turned (t' := s.toks) (fun b o hb q => eb b o hb q) f0 f1 f3 f4 f5⟩
  self := fun A i s Q E st h => let ⟨⟨_, he⟩, _⟩ := st; wpAny_pyIter_enum he h
def iEnumT (K : PySem.W.Frag) (ta : TA) : TI := fun σ H R => ta σ H fun vs H1 => ∃ a xs, vs = [.ref a] ∧ SqT K H1 a xs ∧ R (IteT K a) H1
theorem pi_enumT {X : Cx} {e : Expr} {ta : TA} {p pos tpos : Pos} {elts : List Expr} {kk : Nat} (hg : Gl X "enumerate") (hm : X.mg "enumerate" = none) (ha : PA X [e] ta) (hs : starEach [e] X.env = [(false, eval e X.env)] := by rfl) :
    PI X (.Tuple elts kk tpos) (.Call (.Name "enumerate" p) [e] [] pos) (iEnumT X.K ta) := by
  refine ⟨fun pins s σ H R I h => ?_⟩
  refine Call_ (ld_blt I hg hm boot_enumerate (PyProof.Rows.callWith_type1 (thn (ha.run pos pins s σ H _ I h) fun us s1 ⟨vs, H1, I1, r1, a, xs, ex, hq, q⟩ => ?_) hs rfl))
  subst ex
  rw [Vals.ref1 r1]
  obtain ⟨its, rv, ⟨ob, hob, hc, n, hd⟩, hz⟩ := I1.tuple hq
  have lt : a < s1.heap.objs.size := Heap.lt_size hob
  refine callType_new F.called_enumerate (by decide) (F.typeCall_enumerate_1 _) (F.newCall_enumerate_1 _) (fun obj => F.args_object_init_2 obj _) F.entry_enumerate_new
    (mEnumT a ob its.toArray hc fun h e => ⟨ob, e, hc, n, hd⟩) ⟨hob, ?_⟩
  have sz : (s1.heap.push { cls := .type "tuple_iterator", data := .fields #[.ref a, .int 0 0] }).objs.size = s1.heap.objs.size + 1 := Heap.size_push ..
  show _ ∧ _
  rw [sz]
  have he := Heap.get?_push_size (s1.heap.push { cls := .type "tuple_iterator", data := .fields #[.ref a, .int 0 0] }) (o := { cls := .type "enumerate", data := .fields #[.none, .bool false, .ref s1.heap.objs.size, rawInt 0, .none, .none] }) rfl
  rw [sz] at he
  have keep : ∀ b o, s1.heap.get? b = some o → ((s1.heap.push { cls := .type "tuple_iterator", data := .fields #[.ref a, .int 0 0] }).push { cls := .type "enumerate", data := .fields #[.none, .bool false, .ref s1.heap.objs.size, rawInt 0, .none, .none] }).get? b = some o := fun b o x => Heap.get?_push_of_some _ (Heap.get?_push_of_some _ x)
  have hit : ((s1.heap.push { cls := .type "tuple_iterator", data := .fields #[.ref a, .int 0 0] }).push { cls := .type "enumerate", data := .fields #[.none, .bool false, .ref s1.heap.objs.size, rawInt 0, .none, .none] }).get? s1.heap.objs.size = some { cls := .type "tuple_iterator", data := .fields #[.ref a, .int 0 0] } := Heap.get?_push_of_some _ (Heap.get?_push_size _ rfl)
  generalize (s1.heap.push { cls := .type "tuple_iterator", data := .fields #[.ref a, .int 0 0] }).push { cls := .type "enumerate", data := .fields #[.none, .bool false, .ref s1.heap.objs.size, rawInt 0, .none, .none] } = h' at he keep hit ⊢
  have hen : IsEnum h' (s1.heap.objs.size + 1) s1.heap.objs.size 0 .none := he
  refine ⟨⟨_, he, rfl⟩, wpAny_pyIter_enum hen ?_⟩
  have I2 : Inv X pins σ H1 { s1 with heap := h' } := I1.kept (t' := s1.toks) keep
  refine ⟨s1.heap.objs.size + 1, [s1.heap.objs.size + 1, s1.heap.objs.size], _, _, H1, rfl, I2, turn_enT a (s1.heap.objs.size + 1) s1.heap.objs.size (Nat.ne_of_lt lt) (Nat.ne_of_lt (Nat.lt_succ_of_lt lt)), ⟨⟨.none, hen⟩, ⟨_, hit, rfl, rfl⟩, Nat.succ_ne_self _⟩, fun b hb => ?_, q⟩
  have hb' : b = s1.heap.objs.size + 1 ∨ b = s1.heap.objs.size := by simpa using hb
  have le : s1.heap.objs.size ≤ b := by
    rcases hb' with rfl | rfl
    · exact Nat.le_add_right _ _
    · exact Nat.le_refl _
  exact I1.fpOk le (I1.hok.fresh le)
section
variable {X : Cx} {W : WX} {τ : Type} [Sto τ] {K : Fg}
def fEnumT : List D → Option (List D)
  | [.tup ds] => some (enumD ds)
  | _ => none
@[simp] theorem fEnumT_tup {ds : List D} : fEnumT [.tup ds] = some (enumD ds) := rfl
theorem rIt_enumT {I : Fp → Hp → Prop} {F0 F : Fp} {H H' : Hp} {a : Addr} {vs : List V} {ds : List D} (hl : TupF K F H' a vs) (r : Reps K F H' vs ds) : rIt K I F0 F H H' (IteT K a) (enumD ds) := by
  have w : Walk (IteT K a) (enumD ds).length (fun H => SqT K H a vs) (YPair (fun i => some (.int (i : Nat))) (fun i => vs[i]?)) := by
    rw [show (enumD ds).length = vs.length by unfold enumD; rw [List.length_mapIdx, r.length]]
    refine ⟨fun i H hi g => ⟨vs, vs[i], g, List.getElem?_eq_getElem hi⟩, fun H g => ⟨vs, g, Nat.le_refl _⟩, fun i H x H' hi g y => ?_⟩
    obtain ⟨T, x0, rfl, nT, rfl, hx⟩ := y
    exact ⟨T, _, x0, rfl, nT, rfl, rfl, hx vs g⟩
  refine ⟨_, _, w, fun H2 s => (hl.step ⟨s, fun _ z => .inl z⟩).sq, fun Fc i H2 x H3 hi s dm y => ?_⟩
  obtain ⟨T, x0, y0, rfl, nT, rfl, e1, e2⟩ := y
  cases e1
  obtain ⟨d, ed, q⟩ := (r.step s).getV e2
  exact ⟨same_upd nT, .tup [.int (i : Nat), d], by unfold enumD; rw [List.getElem?_mapIdx, ed]; rfl, Rep.newTup (.cons (.int _) (.cons q .nil)) dm nT⟩
theorem mi_enumT {e : Expr} {p pos tpos : Pos} {elts : List Expr} {kk : Nat} {m : ME τ (List D)} (hg : Gl X "enumerate") (hm : X.mg "enumerate" = none) (ha : PA X [e] (tA X.K W m)) (hs : starEach [e] X.env = [(false, eval e X.env)] := by rfl) :
    PI X (.Tuple elts kk tpos) (.Call (.Name "enumerate" p) [e] [] pos) (tI X.K W (e1 fEnumT m)) := PI.imp (pi_enumT hg hm ha hs) fun σ H R ⟨C, ρ, t, A, p⟩ => by
  refine use okI A p fun d t1 v H1 e1 s1 A1 r1 p1 => ?_
  unfold fEnumT at p1
  split at p1
  · cases r1 with
    | cons r rr =>
      cases rr
      cases r with
      | tup h rs => exact ⟨_, _, rfl, h.sq, p1 _ H1 (Sm.refl _ _) A1.st (rIt_enumT h rs)⟩
  · exact p1.elim
/-- enumerate over a list or a tuple -/
def fEnum2 : List D → Option (List D)
  | [.tup ds] => some (enumD ds)
  | [.lst ds] => some (enumD ds)
  | _ => none
@[simp] theorem fEnum2_tup {ds : List D} : fEnum2 [.tup ds] = some (enumD ds) := rfl
@[simp] theorem fEnum2_lst {ds : List D} : fEnum2 [.lst ds] = some (enumD ds) := rfl
theorem PI.or {tg e : Expr} {t t' : TI} (h : PI X tg e t) (h' : PI X tg e t') : PI X tg e (fun σ H Q => t σ H Q ∨ t' σ H Q) := ⟨fun pins s σ H R I q => q.elim (h.run pins s σ H R I) (h'.run pins s σ H R I)⟩
theorem mi_enum2 {e : Expr} {p pos tpos : Pos} {elts : List Expr} {kk : Nat} {m : ME τ (List D)} (hg : Gl X "enumerate") (hm : X.mg "enumerate" = none) (ha : PA X [e] (tA X.K W m)) (hs : starEach [e] X.env = [(false, eval e X.env)] := by rfl) :
    PI X (.Tuple elts kk tpos) (.Call (.Name "enumerate" p) [e] [] pos) (tI X.K W (e1 fEnum2 m)) := PI.imp (PI.or (mi_enumT hg hm ha hs) (mi_enum hg hm ha hs)) fun σ H R ⟨C, ρ, t, A, p⟩ => by
  have key : e1 fEnum2 m ρ t = e1 fEnumT m ρ t ∨ e1 fEnum2 m ρ t = e1 fEnum m ρ t := by
    unfold e1
    cases m ρ t with
    | ok ds t1 =>
      show opt (fEnum2 ds) t1 = opt (fEnumT ds) t1 ∨ opt (fEnum2 ds) t1 = opt (fEnum ds) t1
      rcases ds with _ | ⟨d, _ | ⟨d2, dr⟩⟩
      · exact .inl rfl
      · cases d <;> first
          | exact .inl rfl
          | exact .inr rfl
      · left
        cases d <;> rfl
    | ex n fs t1 => exact .inl rfl
    | bad => exact .inl rfl
  rcases key with k | k
  · exact .inl ⟨C, ρ, t, A, k ▸ p⟩
  · exact .inr ⟨C, ρ, t, A, k ▸ p⟩
end
end MM

/-! M32: defs that tell a list of their own, which the caller may change. -/
namespace MM
open PySem PySem.Spec PyProof.Rows L2
section
variable {τ : Type} [Sto τ] {X : Cx} {W : WX} {K : Fg}
abbrev MSf (τ : Type) := Rho → τ → Res τ (List D)
def SPostF (K : Fg) (W : WX) (C : SC τ) (F1 : Fp) (H : Hp) (r : Res τ (List D)) (Q : VK) : Prop := match r with
  | .ok ds t' => ∀ a vs H', Stp F1 H (fun b => C.F b ∨ b = a) H' → ¬ C.F a → H' a = some (.lst vs) → Reps K (fun b => C.F b ∨ b = a) H' vs ds → C.Iv t' (fun b => C.F b ∨ b = a) H' → Q (.ref a) H'
  | .ex n fs t' => ∀ cls dd σ' H' G, (∀ b, C.F b → G b) → Stp F1 H G H' → C.Iv t' G H' → XRep K G H' n fs cls dd → W cls dd σ' H'
  | .bad => False
theorem SPostF.rebase {C : SC τ} {F1 F2 : Fp} {H H1 : Hp} {r : Res τ (List D)} {Q : VK} (h : SPostF K W C F1 H r Q) (s : Stp F1 H F2 H1) : SPostF K W C F2 H1 r Q := by
  cases r with
  | ok ds t' => exact fun a vs H' s' n q r i => h a vs H' (s.trans s') n q r i
  | ex n fs t' => exact fun cls dd σ' H' G g s' i x => h cls dd σ' H' G g (s.trans s') i x
  | bad => exact h
def tSf (K : Fg) (W : WX) (m : MSf τ) : TS := fun E σ H => ∃ (C : SC τ) (ρ : Rho) (t : τ), At K C ρ t σ H ∧ SPostF K W C (Fo C.F ρ σ) H (m ρ t) E.rt
def seqF (a : MS τ) (b : MSf τ) : MSf τ := fun ρ t => match a ρ t with
  | .nx ρ' t' => b ρ' t'
  | .ex n fs _ t' => .ex n fs t'
  | _ => .bad
theorem mss_consF {s : Stmt} {r : List Stmt} {a : MS τ} {b : MSf τ} (h1 : PS X s (tS X.K W a)) (h2 : PSs X r (tSf X.K W b)) : PSs X (s :: r) (tSf X.K W (seqF a b)) := PSs.imp (pss_cons h1 h2) fun E σ H ⟨C, ρ, t, A, p⟩ => by
  refine ⟨C, ρ, t, A, ?_⟩
  unfold seqF at p
  cases e : a ρ t with
  | nx ρ' t' =>
    rw [e] at p
    exact fun σ' H' s' A' => ⟨C, ρ', t', A', SPostF.rebase p s'⟩
  | ex n fs ρ' t' =>
    rw [e] at p
    exact fun cls dd σ' H' s' A' x => p cls dd σ' H' (Fo C.F ρ' σ') (fun _ => .inl) s' A'.st x
  | rt d t' => rw [e] at p; exact p.elim
  | bk ρ' t' => rw [e] at p; exact p.elim
  | ct ρ' t' => rw [e] at p; exact p.elim
  | bad => rw [e] at p; exact p.elim
theorem mss_oneF {s : Stmt} {b : MSf τ} (h : PS X s (tSf X.K W b)) : PSs X [s] (tSf X.K W b) := pss_one h
def retF (i : Nat) : MSf τ := fun ρ t => match ρ[i]? with
  | some (.own xs) => .ok xs t
  | _ => .bad
theorem ms_retF {i : Nat} {n : Expr} {pos : Pos} (hn : PE X n (tVar i)) : PS X (.Return (some n) pos) (tSf X.K W (retF (τ := τ) i)) :=
  PS.imp (ps_ret hn) fun E σ H ⟨C, ρ, t, A, p⟩ => by
    unfold retF at p
    split at p
    · rename_i xs hr
      obtain ⟨a, vs, h1, h2, h3, h4⟩ := A.own i xs hr
      have sub : ∀ b, (C.F b ∨ b = a) → Fo C.F ρ σ b := fun b h => by
        rcases h with h | rfl
        · exact .inl h
        · exact .inr ⟨i, _, ⟨hr, rfl⟩, h1⟩
      exact ⟨_, h1, p a vs H ⟨fun _ _ _ e => e, fun b h => .inl (sub b h)⟩ h2 h3 (h4.anti sub) (C.less A.st sub)⟩
    · exact p.elim
def FPostF (K : Fg) (C : SC τ) (H : Hp) (r : Res τ (List D)) (Q : VK) (E : XK) : Prop := match r with
  | .ok ds t' => ∀ a vs H', Stp C.F H (fun b => C.F b ∨ b = a) H' → ¬ C.F a → H' a = some (.lst vs) → Reps K (fun b => C.F b ∨ b = a) H' vs ds → C.Iv t' (fun b => C.F b ∨ b = a) H' → Q (.ref a) H'
  | .ex n fs t' => ∀ cls dd H', Sm C.F H H' → C.Iv t' C.F H' → XRep K C.F H' n fs cls dd → E cls dd H'
  | .bad => False
def spFF (np : Nat) (K : Fg) (m : List D → τ → Res τ (List D)) : Sp := fun vs H Q E => ∃ (C : SC τ) (ds : List D) (t : τ), Sto.ok K C ∧ C.Iv t C.F H ∧ Reps K C.F H vs ds ∧ ds.length = np ∧ FPostF K C H (m ds t) Q E
def runF (n : Nat) (mb : MSf τ) : List D → τ → Res τ (List D) := fun ds t => mb (ds.map Slot.val ++ List.replicate (n - ds.length) .no) t
theorem fn_mkF {P : Program} {w : World} {K : Fg} {mg : Str → Option Value} {base : Heap} {x qual : Str} {params : Arguments} {body : List Stmt} {scope : Scope} {dvs : List V} {kws : List (Str × V)} {f : Addr} {fd : FuncData} {N ps : List Str} {k : Nat}
    (F : FunD K x qual params body scope dvs kws f fd) (S : FnScope N ps scope) (mb : MSf τ)
    (hb : ∀ (cdv : Value) (A : Around) (outer : List Env) (s : Shared) (H : Hp) (E : XK), Room k (A.deeper (envOfC qual scope s.heap.objs.size f cdv)) →
      PSs (cxOf (L2.CX P w) P w K mg base N qual scope f cdv A outer s H E) body (tSf K (fun cls d _ H => E cls d H) mb)) : FnOk P w K mg base (L2.CX P w) (k + 1) f fd ps (spFF ps.length K (runF N.length mb)) := by
  have hpl : ps.length ≤ N.length := by have := congrArg List.length S.pre; rw [List.length_take] at this; omega
  refine F.ok S (fun vs H Q E ⟨C, ds, t, _, _, r, hl, _⟩ => r.length.trans hl) fun cdv A outer s H vs Q E hr ⟨C, ds, t, okC, iv, r, hl, p⟩ => ⟨_, hb cdv A outer s H E hr, C, _, t, At.start okC iv r (by rw [hl]; exact hpl), ?_⟩
  unfold runF at p
  cases e : mb (ds.map Slot.val ++ List.replicate (N.length - ds.length) .no) t with
  | ok xs t' =>
    rw [e] at p
    exact fun a vs H' s' n q r i => p a vs H' ⟨fun b o n e => s'.keep b o (fun z => n (FoStart z)) e, fun b h => (s'.new b h).elim (fun z => .inl (FoStart z)) .inr⟩ n q r i
  | ex n fs t' =>
    rw [e] at p
    exact fun cls dd σ' H' G g s' i x => p cls dd H' (fun b o n e => s'.keep b o (fun z => n (FoStart z)) e) (C.less i g) (x.anti g)
  | bad => rw [e] at p; exact p.elim
/-- such a def -/
structure DefF (P : Program) (w : World) (K : Fg) (mg : Str → Option Value) (base : Heap) (k : Nat) (x : Str) (np : Nat) (m : List D → τ → Res τ (List D)) : Prop where
  ex : ∃ (fd : FuncData) (ps : List Str) (ds : List Value), FnOk P w K mg base (L2.CX P w) k (He.ga K x) fd ps (spFF np K m) ∧ mg x = some (.ref (He.ga K x)) ∧ PySem.W.keepIn K (.ref (He.ga K x)) = true ∧ Binds K fd ps ds ∧ Vals [] ds
theorem DefF.mk' {P : Program} {w : World} {K : Fg} {mg : Str → Option Value} {base : Heap} {x qual : Str} {params : Arguments} {body : List Stmt} {scope : Scope} {dvs : List V} {kws : List (Str × V)} {fd : FuncData} {N ps : List Str} {k : Nat}
    (F : FunD K x qual params body scope dvs kws (He.ga K x) fd) (hm : mg x = some (.ref (He.ga K x))) (S : FnScope N ps scope) (mb : MSf τ) (hb : ∃ ds, Vals [] ds ∧ Binds K fd ps ds)
    (hbody : ∀ (cdv : Value) (A : Around) (outer : List Env) (s : Shared) (H : Hp) (E : XK), Room k (A.deeper (envOfC qual scope s.heap.objs.size (He.ga K x) cdv)) →
      PSs (cxOf (L2.CX P w) P w K mg base N qual scope (He.ga K x) cdv A outer s H E) body (tSf K (fun cls d _ H => E cls d H) mb)) : DefF P w K mg base (k + 1) x ps.length (runF N.length mb) := by
  obtain ⟨ds, h1, h2⟩ := hb
  exact ⟨fd, ps, ds, fn_mkF F S mb hbody, hm, F.kp, h2, h1⟩
theorem DefF.mono {P : Program} {w : World} {K : Fg} {mg : Str → Option Value} {base : Heap} {j k : Nat} {x : Str} {np : Nat} {m : List D → τ → Res τ (List D)} (F : DefF P w K mg base j x np m) (h : j ≤ k) : DefF P w K mg base k x np m := by
  obtain ⟨fd, ps, ds, F, r⟩ := F.ex
  exact ⟨fd, ps, ds, F.mono h, r⟩
/-- its list as a value -/
def asL (m : List D → τ → Res τ (List D)) : List D → τ → Res τ D := fun ds t => (m ds t).bind fun xs t => .ok (.lst xs) t
theorem DefF.asDef {P : Program} {w : World} {K : Fg} {mg : Str → Option Value} {base : Heap} {k : Nat} {x : Str} {np : Nat} {m : List D → τ → Res τ (List D)} (F : DefF P w K mg base k x np m) : Def P w K mg base k x np [] (asL m) := by
  obtain ⟨fd, ps, ds, F, h1, h2, h3, h4⟩ := F.ex
  refine ⟨fd, ps, ds, [], F.imp fun vs H Q E ⟨C, xs, t, okC, iv, r, hl, p⟩ => ⟨C, xs, t, okC, iv, r, hl, ?_⟩, h1, h2, h3, h4, fun _ _ => .nil⟩
  unfold asL at p
  cases e : m xs t with
  | ok ys t' =>
    rw [e] at p
    exact fun a vs H' s' n q r i => p (.ref a) H' (fun b o n e => s'.keep b o n e) (C.less i fun _ => .inl) (.lst ⟨n, .inl q⟩ (r.anti fun _ => .inl))
  | ex n fs t' => rw [e] at p; exact p
  | bad => rw [e] at p; exact p
/-! calls -/
def eCallF (m : List D → Unit → Res Unit (List D)) (a : ME τ (List D)) : ME τ (List D) := fun ρ t => (a ρ t).bind fun ds t => match m ds () with
  | .ok xs _ => .ok xs t
  | .ex n fs _ => .ex n fs t
  | .bad => .bad
theorem callF_red {np : Nat} {K : Fg} {m : List D → Unit → Res Unit (List D)} {a : ME τ (List D)} {σ : St} {H : Hp} {Q : VK} (hn : ALen a np) (p : tF K W (eCallF m a) σ H Q) :
    tCallSD (spFF np K m) [] (WE W) (tA K W a) σ H Q := by
  obtain ⟨C, ρ, t, A, p⟩ := p
  refine use okF A p fun ds t1 vs H1 e1 s1 A1 r1 p1 => ?_
  rw [List.append_nil]
  refine ⟨SC.pure (Fo C.F ρ σ) H1 A1.dom, ds, (), trivial, ⟨Stp.refl _ _, fun _ _ _ e => e⟩, r1, hn _ _ _ _ e1, ?_⟩
  cases e : m ds () with
  | ok xs u =>
    rw [e] at p1
    refine fun b us H' s n q r i => p1 (.ref b) H' (Sm.of_same (SC.pure_same i)) (C.stay A1.st (SC.pure_same i)) ⟨b, us, rfl, n, ?_, q, r, C.step _ _ _ _ _ A1.st (fun x o _ h => SC.pure_same i x o h) i.1⟩
    rcases s.new b (.inr rfl) with z | z
    · exact absurd z n
    · exact z
  | ex n fs u =>
    rw [e] at p1
    exact fun cls dd H' s i x => p1 cls dd H' (Sm.of_same (SC.pure_same i)) (C.stay A1.st (SC.pure_same i)) x
  | bad =>
    rw [e] at p1
    exact p1.elim
theorem mf_callF {k np : Nat} {x : Str} {m : List D → Unit → Res Unit (List D)} {e : Expr} {es : List Expr} {p pos : Pos} {a : ME τ (List D)} (Df : DefF X.prog X.w X.K X.mg X.base k x np m) (hr : Room k X.A) (tk : Takes X W) (hg : Gl X x) (hn : ALen a np)
    (ha : PA X (e :: es) (tA X.K W a)) (hdb : (x == ("__debug__" : Str)) = false := by decide) (he : starEach (e :: es) X.env = (false, eval e X.env) :: starEach es X.env := by rfl) (hpl : (backTo pos (starEach es X.env)).any (·.1) = false := by rfl) :
    PE X (.Call (.Name x p) (e :: es) [] pos) (tF X.K W (eCallF m a)) := by
  obtain ⟨fd, ps, ds, F, hm, hk, hb, hd⟩ := Df.ex
  exact PE.imp (pe_callSD F hr hg hm hk hb hd (fun σ => passAt tk σ) ha hdb he hpl) fun _ _ _ p => callF_red hn p
end
/-- no claim -/
def sBad {τ : Type} : MS τ := fun _ _ => .bad
section
variable {τ : Type} [Sto τ] {X : Cx} {W : WX}
theorem ms_bad {s : Stmt} : PS X s (tS X.K W (sBad (τ := τ))) := ⟨fun pins s σ H D I ⟨C, ρ, t, A, p⟩ => p.elim⟩
end
@[simp] theorem oS_sBad {τ : Type} {ρ : Rho} {t : τ} {P : Pt τ} : oS (sBad ρ t) P = False := rfl
/-! a part of the script -/
def dCutS : D → Option Int → Option Int → Option (List D)
  | .scr ns, lo, hi => some (cutD (ns.map .int) lo hi)
  | _, _, _ => none
theorem reps_ints {K : Fg} {F : Fp} {H : Hp} : ∀ ns : List Int, Reps K F H (ns.map V.int) (ns.map D.int)
  | [] => .nil
  | n :: ns => .cons (.int n) (reps_ints ns)
section
variable {τ : Type} [Sto τ] {X : Cx} {W : WX}
theorem mf_cutS {e : Expr} {lo hi : Option Expr} {p2 pos : Pos} {m : ME τ D} {ml mh : ME τ (Option Int)} (h : PE X e (tW X.K W m)) (hl : PO X lo (tO X.K W ml)) (hh : PO X hi (tO X.K W mh)) : PE X (.Subscript e (.Slice lo hi none p2) pos) (tF X.K W (e3 dCutS m ml mh)) :=
  PE.imp (pe_slice sl_list h hl hh) fun σ H Q ⟨C, ρ, t, A, p⟩ => by
    refine use okF A p fun d t1 v H1 e1 s1 A1 r1 p1 => ?_
    refine use okF A1 p1 fun l t2 l' H2 e2 s2 A2 rl p2 => ?_
    refine use okF A2 p2 fun u t3 u' H3 e3 s3 A3 ru p3 => ?_
    cases rl
    cases ru
    cases d <;> first
      | exact p3.elim
      | skip
    rename_i ns
    obtain ⟨a, rfl, q⟩ := (RepW.same (RepW.same r1 s2 fun _ => Fo.base) s3 fun _ => Fo.base).scrOf
    exact ⟨a, _, rfl, q.sq, new_fin A3 ((reps_ints ns).cut _ _) p3⟩
end
@[simp] theorem dCutS_scr {xs : List Int} {lo hi : Option Int} : dCutS (.scr xs) lo hi = some (cutD (xs.map .int) lo hi) := rfl
/-! reasoning -/
section
variable {τ α : Type} {X : Str → Fds → τ → Prop} {ρ : Rho} {t : τ}
@[simp] theorem oE_callF {m : List D → Unit → Res Unit (List D)} {a : ME τ (List D)} {Q : List D → τ → Prop} : oE (eCallF m a ρ t) Q X = oE (a ρ t) (fun ds t => oE (m ds ()) (fun d _ => Q d t) (fun n fs _ => X n fs t)) X := by
  unfold eCallF; rw [oE_bind]; congr; funext ds t
  cases m ds () <;> rfl
@[simp] theorem oE_runF {n : Nat} {b : MSf τ} {ds : List D} {Q : List D → τ → Prop} : oE (runF n b ds t) Q X = oE (b (ds.map Slot.val ++ List.replicate (n - ds.length) .no) t) Q X := rfl
@[simp] theorem oE_asL {m : List D → τ → Res τ (List D)} {ds : List D} {Q : D → τ → Prop} : oE (asL m ds t) Q X = oE (m ds t) (fun xs t => Q (.lst xs) t) X := by
  unfold asL; rw [oE_bind]; rfl
@[simp] theorem oE_seqF {a : MS τ} {b : MSf τ} {Q : List D → τ → Prop} : oE (seqF a b ρ t) Q X = oS (a ρ t) { nx := fun ρ t => oE (b ρ t) Q X, rt := fun _ _ => False, ex := fun n fs _ t => X n fs t } := by
  unfold seqF; cases a ρ t <;> rfl
@[simp] theorem oE_retF {i : Nat} {Q : List D → τ → Prop} : oE (retF i ρ t) Q X = (match ρ[i]? with | some (.own xs) => Q xs t | _ => False) := by
  unfold retF; split <;> simp_all [oE]
theorem asL_ok {m : List D → τ → Res τ (List D)} {ds xs : List D} {u : τ} (h : m ds t = .ok xs u) : asL m ds t = .ok (.lst xs) u := by unfold asL; rw [h]; rfl
end
end MM

/-! M33: two lists put together, as a list of one's own. -/
namespace MM
open PySem PySem.Spec PyProof.Rows L2
def fCat : D → D → Option (List D) := fun d e => match d, e with
  | .lst xs, .lst ys => if lim2 (xs.length + ys.length) = true then some (xs ++ ys) else none
  | _, _ => none
section
variable {τ : Type} [Sto τ] {X : Cx} {W : WX}
theorem mf_cat {a b : Expr} {ma mb : ME τ D} {pos : Pos} (ha : PE X a (tW X.K W ma)) (hb : PE X b (tW X.K W mb)) : PE X (.BinOp a .Add b pos) (tF X.K W (MM.e2 fCat ma mb)) :=
  PE.imp (pe_op op_catL ha hb) fun σ H Q ⟨C, ρ, t, A, p⟩ => by
    refine use okF A p fun d t1 v H1 e1 s1 A1 r1 p1 => ?_
    refine use okF A1 p1 fun e t2 u H2 e2 s2 A2 r2 p2 => ?_
    have r1' := RepW.same r1 s2 (fun _ => Fo.base)
    unfold fCat at p2
    split at p2
    · split at p2
      · rename_i hl
        obtain ⟨x, vs, rfl, h1, q1⟩ := r1'.lstOf
        obtain ⟨y, ws, rfl, h2, q2⟩ := r2.lstOf
        exact ⟨x, y, vs, ws, rfl, rfl, h1, h2, by rw [q1.length, q2.length]; exact lim2_le hl, new_fin A2 (q1.append q2) p2⟩
      · exact p2.elim
    · exact p2.elim
end
/-! x in a tuple -/
def rInT (K : PySem.W.Frag) : R2 := fun x y H Q => ∃ d ds, Dp K H x d ∧ Dp K H y (.tuple ds) ∧ SeqAt.shaped d = true ∧ SeqAt.shaped (.tuple ds) = true ∧ Q (.bl (ds.any fun z => PyData.eqv z d)) H
def rNotInT (K : PySem.W.Frag) : R2 := fun x y H Q => ∃ d ds, Dp K H x d ∧ Dp K H y (.tuple ds) ∧ SeqAt.shaped d = true ∧ SeqAt.shaped (.tuple ds) = true ∧ Q (.bl (!ds.any fun z => PyData.eqv z d)) H
section
variable {X : Cx} {K : Fg}
theorem op_inT (hu : X.A.units + 65 < cLine) : OpR X (compareOp .In) (rInT X.K) := by
  intro pins s σ H x y v u Q I rx ry h
  obtain ⟨d, ds, hd, he, sd, se, q⟩ := h
  obtain ⟨as, r1⟩ := Dp.reads I d x v hd rx
  obtain ⟨bs, r2⟩ := Dp.reads I (.tuple ds) y u he ry
  exact SeqAt.in_tuple_reads r2 r1 (SeqAt.canLay_of_shaped se) (SeqAt.canLay_of_shaped sd) (room_in_shaped sd hu) ⟨.bl _, H, I, rfl, q⟩
theorem op_notInT (hu : X.A.units + 65 < cLine) : OpR X (compareOp .NotIn) (rNotInT X.K) := by
  intro pins s σ H x y v u Q I rx ry h
  obtain ⟨d, ds, hd, he, sd, se, q⟩ := h
  obtain ⟨as, r1⟩ := Dp.reads I d x v hd rx
  obtain ⟨bs, r2⟩ := Dp.reads I (.tuple ds) y u he ry
  exact SeqAt.notIn_tuple_reads r2 r1 (SeqAt.canLay_of_shaped se) (SeqAt.canLay_of_shaped sd) (room_in_shaped sd hu) ⟨.bl _, H, I, rfl, q⟩
def inT (d e : D) : Option Bool := match e with
  | .tup es => (match py d, pys es with
    | some p, some ps => if SeqAt.shaped p = true ∧ SeqAt.shaped (.tuple ps) = true then some (ps.any fun z => PyData.eqv z p) else none
    | _, _ => none)
  | _ => none
def dInT : D → D → Option D := fun d e => (inT d e).map .bl
def dNotInT : D → D → Option D := fun d e => (inT d e).map fun b => .bl (!b)
theorem inT_of {d e : D} {b : Bool} (h : inT d e = some b) : ∃ p ps, py d = some p ∧ py e = some (.tuple ps) ∧ SeqAt.shaped p = true ∧ SeqAt.shaped (.tuple ps) = true ∧ b = ps.any fun z => PyData.eqv z p := by
  unfold inT at h
  split at h
  · split at h
    · rename_i es p ps h1 h2
      split at h
      · rename_i hs
        cases h
        exact ⟨p, ps, h1, by simp only [py, h2]; rfl, hs.1, hs.2, rfl⟩
      · cases h
    · cases h
  · cases h
theorem o_inT : DOp2 K (rInT K) dInT := by
  intro F0 F H x y d e z Q dm r1 r2 h q
  unfold dInT at h
  cases e2 : inT d e with
  | none => rw [e2] at h; cases h
  | some b =>
    rw [e2] at h
    cases h
    obtain ⟨p, ps, h1, h2, h3, h4, rfl⟩ := inT_of e2
    exact ⟨p, ps, r1.dp h1, r2.dp h2, h3, h4, q _ _ (fun _ _ e => e) (.bl _)⟩
theorem o_notinT : DOp2 K (rNotInT K) dNotInT := by
  intro F0 F H x y d e z Q dm r1 r2 h q
  unfold dNotInT at h
  cases e2 : inT d e with
  | none => rw [e2] at h; cases h
  | some b =>
    rw [e2] at h
    cases h
    obtain ⟨p, ps, h1, h2, h3, h4, rfl⟩ := inT_of e2
    exact ⟨p, ps, r1.dp h1, r2.dp h2, h3, h4, q _ _ (fun _ _ e => e) (.bl _)⟩
end
@[simp] theorem ex_cat {xs ys : List D} {Q : List D → Prop} : (∃ z, fCat (.lst xs) (.lst ys) = some z ∧ Q z) ↔ xs.length + ys.length ≤ 16777216 ∧ Q (xs ++ ys) := by
  unfold fCat lim2; by_cases h : xs.length + ys.length ≤ 16777216 <;> simp [h]
end MM

/-! M34: the least of data (tuples and lists of alike), the place of a thing in a list. -/
namespace MM
open PySem PySem.Spec PyProof.Rows L2
mutual
def qd : PyData → D
  | .none => .non
  | .bool b => .bl b
  | .int i => .int i
  | .str x => .str x
  | .tuple ps => .tup (qds ps)
  | .list ps => .lst (qds ps)
  | .dict _ => .non
def qds : List PyData → List D
  | [] => []
  | p :: ps => qd p :: qds ps
end
mutual
theorem qd_of : ∀ {d : D} {p : PyData}, py d = some p → qd p = d
  | .non, _, e => by unfold py at e; cases e; rfl
  | .bl b, _, e => by unfold py at e; cases e; rfl
  | .int b, _, e => by unfold py at e; cases e; rfl
  | .str b, _, e => by unfold py at e; cases e; rfl
  | .tup ds, _, e => by
    unfold py at e
    cases q : pys ds with
    | none => rw [q] at e; cases e
    | some ps => rw [q] at e; cases e; unfold qd; rw [qds_of q]
  | .lst ds, _, e => by
    unfold py at e
    cases q : pys ds with
    | none => rw [q] at e; cases e
    | some ps => rw [q] at e; cases e; unfold qd; rw [qds_of q]
theorem qds_of : ∀ {ds : List D} {ps : List PyData}, pys ds = some ps → qds ps = ds
  | [], _, e => by unfold pys at e; cases e; rfl
  | d :: ds, _, e => by
    unfold pys at e
    cases q : py d with
    | none => rw [q] at e; cases e
    | some p =>
      rw [q] at e
      cases q2 : pys ds with
      | none =>
        have e' : (pys ds).map (p :: ·) = some _ := e
        rw [q2] at e'
        cases e'
      | some ps =>
        have e' : (pys ds).map (p :: ·) = some _ := e
        rw [q2] at e'
        cases e'
        unfold qds
        rw [qd_of q, qds_of q2]
end
theorem qds_get : ∀ {ps : List PyData} {i : Nat} {p : PyData}, ps[i]? = some p → (qds ps)[i]? = some (qd p)
  | [], _, _, e => by simp at e
  | _ :: _, 0, _, e => by
    have e' := Option.some.inj e
    subst e'
    rfl
  | _ :: ps, i + 1, p, e => by
    show (qds ps)[i]? = _
    exact qds_get (by simpa using e)
section
variable {X : Cx} {W : WX} {τ : Type} [Sto τ] {K : Fg}
structure MinC (p : PyData) (ps : List PyData) : Prop where
  ok : PySem.W.AlikeAll (p :: ps)
  dep : PyData.depthAll (p :: ps) ≤ 60
def rMinD (K : Fg) : List V → Hp → VK → Prop := fun vs H Q => ∃ (a : Addr) (xs : List V) (p : PyData) (ps : List PyData), vs = [V.ref a] ∧ SqL K H a xs ∧ DpAll K H xs (p :: ps) ∧ MinC p ps ∧ ∀ (i : Nat) (v : V), xs[i]? = some v → (p :: ps)[i]? = some (PySem.W.minD p ps) → Q v H
theorem vals_get : ∀ {xs : List V} {us : List Value} {i : Nat} {u : Value}, Vals xs us → us[i]? = some u → ∃ v, xs[i]? = some v ∧ RelV v u
  | _, _, _, _, .nil, h => by simp at h
  | _, _, 0, _, .cons r t, h => by
    have h' := Option.some.inj h
    subst h'
    exact ⟨_, rfl, r⟩
  | _, _, i + 1, _, .cons r t, h => by
    obtain ⟨v, e, q⟩ := vals_get (i := i) t (by simpa using h)
    exact ⟨v, by simpa using e, q⟩
theorem cr_minD (hc : X.calm = true) (hu : X.A.units + 64 < cLine) : CallR X (.builtin "min") (rMinD X.K) := by
  intro pins s σ H vs us Q I r h
  obtain ⟨a, xs, p, ps, rfl, hs, hd, hm, q⟩ := h
  obtain rfl := Vals.ref1 r
  obtain ⟨its, rv, hl, hz⟩ := I.list hs
  obtain ⟨as, ra⟩ := Dp.readsAll I (p :: ps) xs its hd rv
  have dep := hm.dep
  refine PySem.W.min_list_data (I.ok.hd hc) hl.isList ra hm.ok (by omega) fun i u h' tk bs hi hr hk => ?_
  have hi' : its[i]? = some u := by simpa using hi
  obtain ⟨v, hv, rvu⟩ := vals_get rv hi'
  obtain ⟨bs', rd, lt, _, _⟩ := PySem.W.readsAll_at ra i u hi'
  have e : (p :: ps).getD i .none = PySem.W.minD p ps := (Reads.unique (PySem.W.reads_keeps hk rd) _ _ hr).1
  refine ⟨v, H, I.kept hk, rvu, q i v hv ?_⟩
  rw [← e, List.getD_eq_getElem?_getD, List.getElem?_eq_getElem lt]
  rfl
open Classical in
noncomputable def fMinD : List D → Option D
  | [.lst ds] => (pys ds).bind fun ps => match ps with
    | [] => none
    | p :: ps => if MinC p ps then some (qd (PySem.W.minD p ps)) else none
  | _ => none
theorem reps_get {F : Fp} {H : Hp} : ∀ {vs : List V} {ds : List D} {i : Nat} {v : V} {d : D}, Reps K F H vs ds → vs[i]? = some v → ds[i]? = some d → Rep K F H v d
  | _, _, _, _, _, .nil, h, _ => by simp at h
  | _, _, 0, _, _, .cons r t, h, h' => by
    have e := Option.some.inj h
    have e' := Option.some.inj h'
    subst e e'
    exact r
  | _, _, i + 1, _, _, .cons r t, h, h' => reps_get (i := i) t (by simpa using h) (by simpa using h')
theorem c_minD : DCall K (rMinD K) fMinD := fun F0 F H xs ds z Q dm r q k => by
  unfold fMinD at q
  split at q
  · obtain ⟨v, rfl, r0⟩ := r.one
    obtain ⟨a, vs, rfl, h1, rs⟩ := r0.lstOf
    rename_i ds
    cases e : pys ds with
    | none => rw [e] at q; cases q
    | some ps =>
      rw [e, Option.bind_some] at q
      split at q
      · cases q
      · rename_i p ps
        split at q
        · rename_i hm
          cases q
          refine ⟨a, vs, p, ps, rfl, h1.sq, dps_of (F0 := F0) rs e, hm, fun i v hv hp => k _ _ (Same.refl H) ?_⟩
          have e2 := qds_get hp
          rw [qds_of e] at e2
          exact reps_get rs hv e2
        · cases q
  · cases q
/-! xs.index(x) -/
def dIdx (es : List D) (e : D) : Option D := match pys es, py e with
  | some ps, some p => if SeqAt.shaped (.list ps) = true ∧ SeqAt.shaped p = true then (ps.findIdx? fun z => PyData.eqv z p).map fun j => .int (j : Nat) else none
  | _, _ => none
def eIdx (mo me : ME τ D) : ME τ D := fun ρ t => (mo ρ t).bind fun d t1 => match d with
  | .lst es => (me ρ t1).bind fun e t2 => opt (dIdx es e) t2
  | _ => .bad
theorem me_idx {o e : Expr} {mo me : ME τ D} {apos cpos : Pos} (hu : X.A.units + 65 < cLine) (ho : PE X o (tW X.K W mo)) (he : PE X e (tW X.K W me))
    (hbase : attributeBase o "index" X.env (eval o X.env) = eval o X.env := by rfl)
    (hfew : ((backTo cpos (starEach [e] X.env)).all (fun x => !x.1) && (backToKw cpos (keywordEach [] X.env)).all (fun x => x.1.isSome)
      && decide ([e].length + ([] : List Keyword).length + (if ([] : List Keyword).isEmpty then 0 else 1) < 30)) = true := by rfl)
    (hline : (apos.endLine == cpos.line) = true := by rfl) (hs : starEach [e] X.env = (false, eval e X.env) :: starEach [] X.env := by rfl) (hplain : (backTo cpos (starEach [] X.env)).any (·.1) = false := by rfl) :
    PE X (.Call (.Attribute o "index" apos) [e] [] cpos) (tE X.K W (eIdx mo me)) :=
  PE.imp (pe_bm PySem.F.plainAttrs_list PySem.F.slot_list_index PySem.F.type_list_index (mt_indexD hu) ho (pa_cons he pa_nil hs) hbase hfew hline hs hplain) fun σ H Q ⟨C, ρ, t, A, p⟩ => by
    refine use okE A p fun d t1 v H1 e1 s1 A1 r1 p1 => ?_
    cases d with
    | lst es =>
      obtain ⟨x, vs, rfl, h1, q1⟩ := r1.lstOf
      refine ⟨.inl ⟨rfl, vs, h1.sq⟩, ?_⟩
      refine use okE A1 p1 fun e t2 u H2 e2 s2 A2 r2 p2 => ?_
      have r1' := RepW.same r1 s2 (fun _ => Fo.base)
      unfold dIdx at p2
      split at p2
      · rename_i ps p e3 e4
        split at p2
        · rename_i hsh
          cases e5 : ps.findIdx? fun z => PyData.eqv z p with
          | none => rw [e5] at p2; exact p2.elim
          | some j =>
            rw [e5] at p2
            obtain ⟨hj, h3, h4⟩ := List.findIdx?_eq_some_iff_getElem.mp e5
            refine ⟨x, u, p, ps, j, ps[j], rfl, rfl, RepW.dp r1' (by simp only [py, e3]; rfl), RepW.dp r2 e4, hsh.1, hsh.2, List.getElem?_eq_getElem hj, h3, fun m z' hm hz => ?_, p2 _ H2 (Sm.refl _ _) A2.st (.int _)⟩
            have hml : m < ps.length := Nat.lt_trans hm hj
            rw [List.getElem?_eq_getElem hml] at hz
            cases hz
            have := h4 m hm
            simpa using this
        · exact p2.elim
      · exact p2.elim
    | _ => exact p1.elim
end
section
variable {τ : Type} {Q : D → τ → Prop} {X : Str → Fds → τ → Prop} {ρ : Rho} {t : τ}
@[simp] theorem oE_idx {mo me : ME τ D} : oE (eIdx mo me ρ t) Q X = oE (mo ρ t) (fun d t1 => ∃ es, d = .lst es ∧ oE (me ρ t1) (fun e t2 => ∃ z, dIdx es e = some z ∧ Q z t2) X) X := by
  unfold eIdx
  cases e1 : mo ρ t with
  | ok d t1 =>
    cases d with
    | lst es =>
      simp only [Res.bind_ok, oE_ok, D.lst.injEq, exists_eq_left']
      cases e2 : me ρ t1 with
      | ok e t2 => cases e3 : dIdx es e <;> simp [e3]
      | ex n fs t2 => simp
      | bad => simp
    | _ => simp
  | ex n fs t2 => simp
  | bad => simp
end
end MM

/-! M35: a comparison of three. -/
namespace MM
open PySem PySem.Spec PyProof.Rows L2
section
variable {X : Cx} {W : WX} {τ : Type} [Sto τ] {K : Fg}
def eChain (f g : D → D → Option D) (ma mb mc : ME τ D) : ME τ D := fun ρ t => (ma ρ t).bind fun x t1 => (mb ρ t1).bind fun y t2 => match f x y with
  | some (.bl true) => (mc ρ t2).bind fun w t3 => opt (g y w) t3
  | some (.bl false) => .ok (.bl false) t2
  | _ => .bad
theorem run3 {r r' : R2} {f g : D → D → Option D} {ma mb mc : ME τ D} {σ : L2.St} {H : Hp} {Q : VK} (o1 : DOp2 K r f) (o2 : DOp2 K r' g) (p : tE K W (eChain f g ma mb mc) σ H Q) : tChain r r' (tW K W ma) (tW K W mb) (tW K W mc) σ H Q := by
  obtain ⟨C, ρ, t, A, p⟩ := p
  refine use okE A p fun x t1 v H1 e1 s1 A1 r1 p1 => ?_
  refine use okE A1 p1 fun y t2 u H2 e2 s2 A2 r2 p2 => ?_
  have r1' := RepW.same r1 s2 (fun _ => Fo.base)
  cases e : f x y with
  | none => rw [e] at p2; exact p2.elim
  | some z =>
    rw [e] at p2
    cases z with
    | bl k =>
      refine o1 C.F _ H2 v u x y (.bl k) _ A2.dom r1' r2 e fun v' H3 sm rr => ?_
      cases rr
      refine ⟨k, rfl, ?_⟩
      cases k with
      | false => exact p2 (.bl false) H3 (Sm.of_same sm) (C.stay A2.st sm) (.bl _)
      | true =>
        have A3 := A2.next (Sm.of_same sm) (C.stay A2.st sm)
        rw [if_pos rfl]
        have p2' : Post rE K W C (Fo C.F ρ σ) σ H2 ((mc ρ t2).bind fun w t3 => opt (g y w) t3) Q := p2
        refine use okE A3 (Post.rebase okE p2' (Sm.of_same sm) fun _ => Fo.base) fun w t3 w' H4 e3 s3 A4 r3 p3 => ?_
        have r2' := RepW.same (RepW.same r2 (Sm.of_same sm) (fun _ => Fo.base)) s3 (fun _ => Fo.base)
        cases e5 : g y w with
        | none => rw [e5] at p3; exact p3.elim
        | some z =>
          rw [e5] at p3
          exact o2 C.F _ H4 u w' y w z Q A4.dom r2' r3 e5 fun v'' H5 sm5 rr5 => p3 v'' H5 (Sm.of_same sm5) (C.stay A4.st sm5) rr5
    | _ => exact p2.elim
theorem me_chain {op op' : CmpOp} {a b c : Expr} {r r' : R2} {f g : D → D → Option D} {ma mb mc : ME τ D} {pos : Pos} (ho : OpR X (compareOp op) r) (ho' : OpR X (compareOp op') r') (o1 : DOp2 X.K r f) (o2 : DOp2 X.K r' g) (ha : PE X a (tW X.K W ma)) (hb : PE X b (tW X.K W mb)) (hc : PE X c (tW X.K W mc))
    (hm : lastMarks [op, op'] [b, c] = false := by with_unfolding_all rfl) : PE X (.Compare a [op, op'] [b, c] pos) (tE X.K W (eChain f g ma mb mc)) := PE.imp (pe_chain ho ho' ha hb hc hm) fun σ H Q p => run3 o1 o2 p
end
end MM

/-! M36: a list taken apart: a, b = xs. -/
namespace MM
open PySem PySem.Spec PyProof.Rows L2
section
variable {prog : Program} {w : World} {A : Around} {E : Value → Shared → Prop} {s : Shared}
theorem un_list {l : Addr} {items : Array Value} {Q : List Value → Shared → Prop} (hL : s.heap.IsList l items) (hh : A.handled = none)
    (h : ∀ h2 : Heap, (∀ b o, s.heap.get? b = some o → h2.get? b = some o) → Q items.toList { s with heap := h2 }) :
    wpAny (model prog w) A (unpackItems (.ref l) items.size none) Q E s := by
  have hlt : l ≠ s.heap.objs.size := by obtain ⟨o, ho, _⟩ := hL; exact Nat.ne_of_lt (Heap.lt_size ho)
  unfold unpackItems notIterableAtAll
  refine wpAny_bind (wpAny_bind (wpAny_specialOf hL.typeIs slot_list_iter.lookup (wpAny_pure ?_)))
  simp only [Bool.false_eq_true, if_false]
  refine wpAny_bind (wpAny_holding (wpAny_pyIter_list hL ?_))
  refine wpAny_bind (wpAny_holding (PySem.W.kun_draw hlt items.size 0 _ _ ⟨_, Heap.get?_push_size _ rfl, rfl, rfl⟩ (hL.push _) (by omega) fun h1 it1 sb => ?_))
  have l1 : h1.IsList l items := (hL.push _).extBut sb.extBut hlt
  have hall : List.take items.size (List.drop 0 items.toList) = items.toList := by
    rw [List.drop_zero]; exact List.take_of_length_le (by simp)
  rw [hall, if_neg (by simp)]
  refine wpAny_bind (wpAny_holding (wpAny_pyNext_list_end hh it1 l1 (by simp) fun h2 he2 => ?_))
  simp only [Option.isSome_none, Bool.false_eq_true, if_false]
  exact wpAny_pure (h h2 fun b o e => he2 b o (Nat.ne_of_lt (Heap.lt_size e)) (sb.extBut b o (Nat.ne_of_lt (Heap.lt_size e)) (Heap.get?_push_of_some _ e)))
end
def gTupL (K : Fg) (n : Nat) (t : TGs) : TG := fun v σ H Q => ∃ a xs, v = .ref a ∧ SqL K H a xs ∧ xs.length = n ∧ t xs σ H Q
theorem pg_tupL {X : Cx} {es : List Expr} {k : Nat} {pos : Pos} {t : TGs} {n : Nat} (hc : X.calm = true) (h : PGs X es t)
    (hn : (assignEach es X.env).length = n := by rfl) (hst : (assignEach es X.env).findIdx? (·.1) = none := by rfl) : PG X (.Tuple es k pos) (gTupL X.K n t) := by
  refine ⟨fun pins s σ H v u Q I r hw => ?_⟩
  obtain ⟨a, xs, e1, hq, hl, hw⟩ := hw
  subst e1
  cases r
  obtain ⟨its, rv, pl, hz⟩ := I.list hq
  rw [PyProof.Rows.assign_Tuple]
  refine wpAny_bind (wpAny_standAt ?_)
  unfold unpack
  have hsz : its.toArray.size = n := by simp [← hl, rv.length]
  rw [hn, hst, ← hsz]
  refine wpAny_bind (wpAny_holding (un_list pl.isList (I.ok.hd hc) fun h2 up => ?_))
  exact h.run pins _ σ H xs _ Q (I.kept (t' := s.toks) up) (by simpa using rv) hw
section
variable {X : Cx} {τ : Type} [Sto τ] {K : Fg}
def gTL (gs : Tgts) : Tgt := fun ρ d => match d with
  | .lst ds => gs ρ ds
  | _ => none
theorem mg_tupL {es : List Expr} {k n : Nat} {pos : Pos} {gs : Tgts} (hc : X.calm = true) (hg : glen gs n) {vs : List Nat} (h : PGs X es (tTgs τ X.K gs vs)) (hn : (assignEach es X.env).length = n := by rfl) (hst : (assignEach es X.env).findIdx? (·.1) = none := by rfl) :
    PG X (.Tuple es k pos) (tTg τ X.K (gTL gs) vs) := PG.imp (pg_tupL hc h hn hst) fun v σ H Q ⟨C, ρ, t, d, A, r, ρ', e, k⟩ => by
  cases r with
  | lst lf rs =>
    have e' : gs ρ _ = some ρ' := e
    exact ⟨_, _, rfl, lf.sq, by rw [rs.length]; exact hg _ _ _ e', C, ρ, t, _, A, rs, ρ', e', k⟩
  | _ => cases e
@[simp] theorem gTL_lst {gs : Tgts} {ρ : Rho} {ds : List D} : gTL gs ρ (.lst ds) = gs ρ ds := rfl
end
end MM

/-! M37: a, b, c = x, y, z. -/
namespace MM
open PySem PySem.Spec PyProof.Rows L2
section
variable {X : Cx} {τ : Type} [Sto τ] {W : WX}
def sPar3 (i j l : Nat) (a b c : ME τ D) : MS τ := sDo (aCons a (aCons b (aCons c aNil))) fun ds ρ t => match ds with
  | [d, e, f] => .nx (((ρ.set i (.val d)).set j (.val e)).set l (.val f)) t
  | _ => .bad
theorem ms_par3 {s : Stmt} {i j l : Nat} {ma mb mc : ME τ D} (h : PS X s (tPar3 i j l (tA X.K W (aCons ma (aCons mb (aCons mc aNil)))))) : PS X s (tS X.K W (sPar3 i j l ma mb mc)) := PS.imp h fun E σ H ⟨C, ρ, t, A, p⟩ => by
  refine useS A p fun d t1 v H1 e1 s1 A1 r1 p1 => ?_
  cases r1 with
  | nil => exact p1.elim
  | cons r1 r2 => cases r2 with
    | nil => exact p1.elim
    | cons r2 r3 => cases r3 with
      | nil => exact p1.elim
      | cons r3 r4 => cases r4 with
        | cons => exact p1.elim
        | nil =>
          exact ⟨_, _, _, rfl, p1 _ H1 ((Stp.setVal.trans Stp.setVal).trans Stp.setVal) (((A1.setVal r1).setVal (r2.anti fun _ => Fo.setVal)).setVal (r3.anti fun _ h => Fo.setVal (Fo.setVal h)))⟩
end
section
variable {τ : Type} {P : MM.Pt τ} {ρ : Rho} {t : τ}
@[simp] theorem oS_par3 {i j l : Nat} {a b c : ME τ D} : oS (sPar3 i j l a b c ρ t) P = oE (a ρ t) (fun d t => oE (b ρ t) (fun e t => oE (c ρ t) (fun f t => P.nx (((ρ.set i (.val d)).set j (.val e)).set l (.val f)) t) (fun n fs t => P.ex n fs ρ t)) (fun n fs t => P.ex n fs ρ t)) (fun n fs t => P.ex n fs ρ t) := by
  unfold sPar3; rw [oS_do]; simp
@[simp] theorem oS_asgTL {gs : Tgts} {m : ME τ D} : oS (sAsg (gTL gs) m ρ t) P = oE (m ρ t) (fun d t => ∃ ρ', gTL gs ρ d = some ρ' ∧ P.nx ρ' t) (fun n fs t => P.ex n fs ρ t) := oS_asgG
end
end MM

/-! M38: a tuple backwards: t[::-1]. -/
namespace MM
open PySem PySem.Spec PyProof.Rows L2
section
variable {prog : Program} {w : World} {A : Around} {E : Value → Shared → Prop} {s : Shared}
theorem back_places (n : Nat) : Builtin.Slice.slicePlaces ((n : Int) - 1) (-1) (-1) = n := by
  unfold Builtin.Slice.slicePlaces
  have h1 : ¬ ((-1 : Int) > 0) := by decide
  simp only [h1, if_false]
  by_cases h : (n : Int) - 1 > -1
  · have e : ((n : Int) - 1 - -1 - 1) / (- -1) = (n : Int) - 1 := by
      rw [show (- -1 : Int) = 1 by decide, Int.ediv_one]; omega
    simp only [h, if_true, e]; omega
  · simp only [h, if_false]; omega
theorem back_pick (xs : Array Value) : ((List.range xs.size).filterMap fun (m : Nat) => xs[(((xs.size : Int) - 1) + (m : Int) * (-1)).toNat]?) = xs.toList.reverse := by
  have e : ((List.range xs.size).filterMap fun (m : Nat) => xs[(((xs.size : Int) - 1) + (m : Int) * (-1)).toNat]?) = ((List.range xs.size).map fun k => xs.size - 1 - k).filterMap (xs[·]?) := by
    rw [List.filterMap_map]
    congr 1
    funext m
    have : (((xs.size : Int) - 1) + (m : Int) * (-1)).toNat = xs.size - 1 - m := by omega
    rw [this]; rfl
  rw [e, PySem.W.krv_range, List.filterMap_reverse, PySem.W.krv_all]
theorem tup_back {t sl : Addr} {items : Array Value} {vs : Value} {Q : Value → Shared → Prop} (ht : IsTup s.heap t items) (hs : s.heap.IsSliceOf sl .none .none vs) (ps : IsPart vs (some (-1)))
    (h : Q (.ref s.heap.objs.size) { s with heap := s.heap.push { cls := .type "tuple", data := .seq items.toList.reverse.toArray } })
    (hsz : items.size ≤ sizeLine) : wpAny (model prog w) A (getItem (.ref t) (.ref sl)) Q E s := by
  have htake : sizeOk (.seq items.toList.reverse.toArray) := by
    show items.toList.reverse.toArray.size ≤ sizeLine
    rw [List.size_toArray, List.length_reverse, Array.length_toList]
    exact hsz
  obtain ⟨os, hos, hcs, hds⟩ := id hs
  have hTs : s.TypeIs (.ref sl) "slice" := ⟨os, hos, hcs⟩
  unfold getItem
  try with_reducible refine wpAny_holding ?_
  first | refine wpAny_bind (wpAny_pure ?_) | skip
  refine wpAny_bind (wpAny_sequenceKey ht.typeIs (by decide) ?_)
  refine wpAny_bind (wpAny_callSpecial?_slot (name := Str.ofString "__getitem__") ht.typeIs PyProof.Rows.slot_tuple_getitem
    (wpAny_call_entry PyProof.Rows.slot_tuple_getitem ht.typeIs entry_tuple_getitem ?_ (args_tuple_getitem _ _)))
  show wpAny _ _ (Builtin.Tuple.tupleItemsOf (.ref t) >>= _) _ _ s
  refine wpAny_bind (tupleItemsOf_ ht ?_)
  refine wpAny_bind (wpAny_typeOf hTs ?_)
  rw [if_pos (by decide)]
  have app : ∀ B : Around, wpAny (model prog w) B (Builtin.Slice.sliceApplied (.ref sl) (pure (items.size : Int))) (fun r s' => r = ((items.size : Int) - 1, -1, items.size) ∧ s' = s) E s := by
    intro B
    unfold Builtin.Slice.sliceApplied Builtin.Slice.sliceFields
    refine wpAny_bind (wpAny_bind (wpAny_field hos hds (x := .none) rfl (wpAny_bind (wpAny_field hos hds (x := .none) rfl (wpAny_bind (wpAny_field hos hds (x := vs) rfl (wpAny_pure ?_)))))))
    refine wpAny_bind (HT.slicePart_ ps ?_)
    show wpAny _ _ (if ((-1 : Int) == 0) = true then _ else _) _ _ s
    rw [if_neg (by decide)]
    refine wpAny_bind (HT.slicePart_ .none (wpAny_bind (HT.slicePart_ .none (wpAny_bind (wpAny_pure ?_)))))
    show wpAny _ _ (match Builtin.Slice.sliceAdjust none none (-1) (items.size : Int) with | (lo, hi) => pure (lo, (-1 : Int), Builtin.Slice.slicePlaces lo hi (-1))) _ _ s
    rw [show Builtin.Slice.sliceAdjust none none (-1) (items.size : Int) = ((items.size : Int) - 1, -1) from rfl]
    show wpAny _ _ (pure ((items.size : Int) - 1, (-1 : Int), Builtin.Slice.slicePlaces ((items.size : Int) - 1) (-1) (-1))) _ _ s
    rw [back_places]
    exact wpAny_pure ⟨rfl, rfl⟩
  refine wpAny_bind (thn (app _) ?_)
  rintro r s' ⟨rfl, rfl⟩
  have hno : ¬ (((((items.size : Int) - 1) == 0 && (-1 : Int) == 1 && items.size == items.size)) = true) := by
    intro q
    rw [Bool.and_eq_true, Bool.and_eq_true] at q
    exact absurd q.1.2 (by decide)
  show wpAny _ _ (if ((((items.size : Int) - 1) == 0 && (-1 : Int) == 1 && items.size == items.size)) = true then _ else _) _ _ _
  rw [if_neg hno, back_pick]
  first
    | exact wpAny_bind (m := Builtin.Tuple.tupleExact _) (wpAny_newObj_type (wpAny_pure ⟨_, rfl, wpAny_pure h⟩) htake)
    | exact wpAny_bind (m := Builtin.Tuple.tupleExact _) (wpAny_newObj_type (wpAny_bind (wpAny_pure (wpAny_pure ⟨_, rfl, wpAny_pure h⟩))) htake)
    | exact wpAny_bind (wpAny_bind (m := Builtin.Tuple.tupleExact _) (wpAny_newObj_type (wpAny_pure (wpAny_pure ⟨_, rfl, wpAny_pure h⟩)) htake))
    | exact wpAny_bind (wpAny_bind (m := Builtin.Tuple.tupleExact _) (wpAny_newObj_type (wpAny_pure ⟨_, rfl, wpAny_pure h⟩) htake))
end
section
variable {X : Cx}
def tRevT (K : Fg) (te : TE) : TE := fun σ H Q => te σ H fun x H1 => ∃ a xs, x = .ref a ∧ SqT K H1 a xs ∧ ∀ p, H1 p = none → Q (.ref p) (upd H1 p (.tup xs.reverse))
theorem pe_revT {e : Expr} {te : TE} {k : Nat} {p1 p2 p3 pos : Pos} (he : PE X e te) : PE X (.Subscript e (.Slice none none (some (.UnaryOp .USub (.Constant (.int 1) k p1) p2)) p3) pos) (tRevT X.K te) := by
  refine ⟨fun pins s σ H Q I h => ?_⟩
  refine Subscript_ (thn (he.run pins s σ H _ I h) fun v s1 ⟨x, H1, I1, r1, q1⟩ => ?_)
  obtain ⟨a, xs, ex, hx, q⟩ := q1
  subst ex
  cases r1
  have hst : PO X (some (.UnaryOp .USub (.Constant (.int 1) k p1) p2)) (tPart (tUn (rU fun i => .int (-i)) (tC (.int 1)))) := po_some (pe_un un_neg pe_int)
  refine wpAny_Slice (thn (po_none.run pins s1 σ H1 (fun o H2 => o = none ∧ H2 = H1) I1 ⟨rfl, rfl⟩) fun vl s2 ⟨l, H2, I2, pl, el, e2⟩ => ?_)
  subst el e2
  refine thn (po_none.run pins s2 σ H2 (fun o H3 => o = none ∧ H3 = H2) I2 ⟨rfl, rfl⟩) fun vu s3 ⟨u, H3, I3, pu, eu, e3⟩ => ?_
  subst eu e3
  refine thn (hst.run pins s3 σ H3 (fun o H4 => o = some (-1) ∧ H4 = H3) I3 ⟨1, rfl, -1, rfl, rfl, rfl⟩) fun vs s4 ⟨o, H4, I4, ps, eo, e4⟩ => ?_
  subst eo e4
  cases pl
  cases pu
  have I5 : Inv X pins σ H4 { s4 with heap := s4.heap.push { cls := .type "slice", data := .fields #[.none, .none, vs] } } := I4.kept (t' := s4.toks) fun b ob q => Heap.get?_push_of_some _ q
  obtain ⟨its, r, ht, hz⟩ := I5.tuple hx
  have hlen : its.toArray.size = xs.length := by rw [List.size_toArray]; exact r.length.symm
  show wpAny (model X.prog X.w) X.A (subscriptTail e (.Slice none none (some (.UnaryOp .USub (.Constant (.int 1) k p1) p2)) p3) (.ref a) (.ref s4.heap.objs.size)) (EP X pins σ Q) X.xe { s4 with heap := s4.heap.push { cls := .type "slice", data := .fields #[.none, .none, vs] } }
  refine tail_any (ops := [.ref a, .ref s4.heap.objs.size]) ht.typeIs (PyProof.Rows.slot_tuple_getitem.lookup) ?_ (by with_unfolding_all rfl)
  refine tup_back ht (Heap.IsSliceOf.new _ .none .none vs) ps ?_ (by rw [hlen]; exact hz)
  refine ⟨.ref _, _, I5.laid (t' := s4.toks) (o := .tup xs.reverse) (fun b ob q => Heap.get?_push_of_some _ q) (Nat.le_refl _) ?_, rfl, q _ (I5.hok.fresh (Nat.le_refl _))⟩
  exact ⟨by rw [List.length_reverse]; exact hz, _, r.reverse, IsTup.new _ _⟩
variable {W : WX} {τ : Type} [Sto τ]
def dRevT : D → Option D
  | .tup ds => some (.tup ds.reverse)
  | _ => none
theorem me_revT {e : Expr} {k : Nat} {p1 p2 p3 pos : Pos} {m : ME τ D} (h : PE X e (tW X.K W m)) : PE X (.Subscript e (.Slice none none (some (.UnaryOp .USub (.Constant (.int 1) k p1) p2)) p3) pos) (tE X.K W (MM.e1 dRevT m)) := PE.imp (pe_revT h) fun σ H Q ⟨C, ρ, t, A, p⟩ => by
  refine use okE A p fun d t1 v H1 e1 s1 A1 r1 p1 => ?_
  unfold dRevT at p1
  split at p1
  · obtain ⟨a, vs, rfl, q, rs⟩ := r1.tupOf
    exact ⟨a, vs, rfl, q.sq, fun b nb => p1 _ _ (Sm.of_same (same_upd nb)) (C.stay A1.st (same_upd nb)) (Rep.newTup rs.rev A1.dom nb)⟩
  · exact p1.elim
@[simp] theorem dRevT_tup {ds : List D} : dRevT (.tup ds) = some (.tup ds.reverse) := rfl
end
end MM

/-! M39: xs.count(k), of whole numbers. -/
namespace MM
open PySem PySem.Spec PyProof.Rows L2
section
variable {X : Cx} {W : WX} {τ : Type} [Sto τ] {K : Fg}
def rCountI (K : Fg) : V → List V → Hp → VK → Prop := fun x xs H Q => ∃ (a : Addr) (k : Int) (ns : List Int), x = V.ref a ∧ xs = [.int k] ∧ SqL K H a (ns.map V.int) ∧ Q (.int (ns.count k : Nat)) H
theorem mt_countI : MtR X "list.count" (rCountI X.K) := by
  intro pins s σ H x xs v us Q I rx rxs h
  obtain ⟨a, k, ns, rfl, rfl, hl, q⟩ := h
  cases rx
  cases rxs with
  | cons ry rt =>
    cases rt
    obtain ⟨t, rfl⟩ := ry
    obtain ⟨its, rv, pl, hz⟩ := I.list hl
    exact count_list_ints pl.isList (intsAre_of rv) ⟨.int (ns.count k : Nat), H, I.tok _, ⟨_, rfl⟩, q⟩
def dCnt (es : List D) (e : D) : Option D := match intsD es, e with
  | some ns, .int k => some (.int (ns.count k : Nat))
  | _, _ => none
def eCnt (mo me : ME τ D) : ME τ D := fun ρ t => (mo ρ t).bind fun d t1 => match d with
  | .lst es => (me ρ t1).bind fun e t2 => opt (dCnt es e) t2
  | _ => .bad
theorem me_cnt {o e : Expr} {mo me : ME τ D} {apos cpos : Pos} (ho : PE X o (tW X.K W mo)) (he : PE X e (tW X.K W me))
    (hbase : attributeBase o "count" X.env (eval o X.env) = eval o X.env := by rfl)
    (hfew : ((backTo cpos (starEach [e] X.env)).all (fun x => !x.1) && (backToKw cpos (keywordEach [] X.env)).all (fun x => x.1.isSome)
      && decide ([e].length + ([] : List Keyword).length + (if ([] : List Keyword).isEmpty then 0 else 1) < 30)) = true := by rfl)
    (hline : (apos.endLine == cpos.line) = true := by rfl) (hs : starEach [e] X.env = (false, eval e X.env) :: starEach [] X.env := by rfl) (hplain : (backTo cpos (starEach [] X.env)).any (·.1) = false := by rfl) :
    PE X (.Call (.Attribute o "count" apos) [e] [] cpos) (tE X.K W (eCnt mo me)) :=
  PE.imp (pe_bm PySem.F.plainAttrs_list PySem.F.slot_list_count PySem.F.type_list_count mt_countI ho (pa_cons he pa_nil hs) hbase hfew hline hs hplain) fun σ H Q ⟨C, ρ, t, A, p⟩ => by
    refine use okE A p fun d t1 v H1 e1 s1 A1 r1 p1 => ?_
    cases d with
    | lst es =>
      obtain ⟨x, vs, rfl, h1, q1⟩ := r1.lstOf
      refine ⟨.inl ⟨rfl, vs, h1.sq⟩, ?_⟩
      refine use okE A1 p1 fun e t2 u H2 e2 s2 A2 r2 p2 => ?_
      have r1' := RepW.same r1 s2 (fun _ => Fo.base)
      obtain ⟨x', vs', ex, h2, q2⟩ := r1'.lstOf
      unfold dCnt at p2
      split at p2
      · rename_i ns k e3
        cases ex
        have ev := intsD_ok q2 e3
        subst ev
        refine ⟨x, k, ns, rfl, by rw [r2.intOf], h2.sq, p2 _ H2 (Sm.refl _ _) A2.st (.int _)⟩
      · exact p2.elim
    | _ => exact p1.elim
end
section
variable {τ : Type} {Q : D → τ → Prop} {X : Str → Fds → τ → Prop} {ρ : Rho} {t : τ}
@[simp] theorem oE_cnt {mo me : ME τ D} : oE (eCnt mo me ρ t) Q X = oE (mo ρ t) (fun d t1 => ∃ es, d = .lst es ∧ oE (me ρ t1) (fun e t2 => ∃ z, dCnt es e = some z ∧ Q z t2) X) X := by
  unfold eCnt
  cases e1 : mo ρ t with
  | ok d t1 =>
    cases d with
    | lst es =>
      simp only [Res.bind_ok, oE_ok, D.lst.injEq, exists_eq_left']
      cases e2 : me ρ t1 with
      | ok e t2 => cases e3 : dCnt es e <;> simp [e3]
      | ex n fs t2 => simp
      | bad => simp
    | _ => simp
  | ex n fs t2 => simp
  | bad => simp
end
end MM

/-! M40: a list, some times over: xs * k, few. -/
namespace MM
open PySem PySem.Spec PyProof.Rows L2
section
variable {X : Cx} {K : Fg}
def rRepL (K : Fg) : R2 := fun x y H Q => ∃ a k xs, x = .ref a ∧ y = .int k ∧ SqL K H a xs ∧ 0 ≤ k ∧ k ≤ 1000 ∧ xs.length ≤ 1000 ∧ ∀ p, H p = none → Q (.ref p) (upd H p (.lst (List.replicate k.toNat xs).flatten))
theorem rep_len {α : Type} (xs : List α) : ∀ k, (List.replicate k xs).flatten.length = k * xs.length
  | 0 => by simp
  | k + 1 => by rw [List.replicate_succ, List.flatten_cons, List.length_append, rep_len xs k, Nat.succ_mul, Nat.add_comm]
theorem op_repL : OpR X (binaryOp .Mult) (rRepL X.K) := by
  intro pins s σ H x y v u Q I rx ry h
  obtain ⟨a, k, xs, rfl, rfl, hq, k0, k1, hz, q⟩ := h
  cases rx
  obtain ⟨t, rfl⟩ := ry
  obtain ⟨its, r, pl, _⟩ := I.list hq
  obtain ⟨⟨cls, dd, data, sl⟩, ho, hc, n, hd⟩ := id pl.isList
  simp only at hc hd
  subst hc hd
  have hl := r.length
  have hs : its.toArray.size ≤ 1000 := by rw [List.size_toArray]; omega
  have hp : its.toArray.size * k.toNat ≤ 1000 * 1000 := Nat.mul_le_mul hs (by omega)
  have hz2 := sizeLine_big
  have hp2 : its.length * k.toNat ≤ 1000 * 1000 := by rw [List.size_toArray] at hp; exact hp
  refine wpAny_binaryOp_repeat_ref (T := "list") (U := "int") (by decide) ⟨_, ho, rfl⟩ (fun s' => typeIs_int s' k t) noFill_list_mul F.fills_int_mul F.slot_int_rmul repeat_list F.slot_int_index.lookup
    (call_meets F.slot_int_rmul (typeIs_int s k t) F.entry_int_rmul (F.args_int_rmul_2 _ _) (lm_int_rmul_list_any k t a its.toArray n dd sl)
      ⟨ho, rfl, ⟨_, ho, rfl⟩, call_meets F.slot_list_mul ⟨_, ho, rfl⟩ F.entry_list_mul (F.args_list_mul_2 _ _)
        (lm_list_mul_any a its.toArray n dd sl k t (by simp [Builtin.List.listFitsIndex]; omega) (by omega) (by simp [Builtin.List.listTooLong]; omega))
        ⟨ho, ?_⟩⟩)
  rw [listMul_foldl_if]
  refine ⟨.ref _, _, I.lnew (t' := s.toks) (r.rep k.toNat) ?_, rfl, q _ I.fresh⟩
  rw [rep_len]
  have : k.toNat * xs.length ≤ 1000 * 1000 := Nat.mul_le_mul (by omega) hz
  omega
theorem Reps.rep {F : Fp} {H : Hp} {vs : List V} {ds : List D} (r : Reps K F H vs ds) : ∀ k, Reps K F H (List.replicate k vs).flatten (List.replicate k ds).flatten
  | 0 => .nil
  | k + 1 => by
    rw [List.replicate_succ, List.replicate_succ, List.flatten_cons, List.flatten_cons]
    exact Reps.append r (Reps.rep r k)
variable {W : WX} {τ : Type} [Sto τ]
def fRep : D → D → Option (List D) := fun d e => match d, e with
  | .lst xs, .int k => if 0 ≤ k ∧ k ≤ 1000 ∧ xs.length ≤ 1000 then some (List.replicate k.toNat xs).flatten else none
  | _, _ => none
theorem mf_rep {a b : Expr} {ma mb : ME τ D} {pos : Pos} (ha : PE X a (tW X.K W ma)) (hb : PE X b (tW X.K W mb)) : PE X (.BinOp a .Mult b pos) (tF X.K W (MM.e2 fRep ma mb)) :=
  PE.imp (pe_op op_repL ha hb) fun σ H Q ⟨C, ρ, t, A, p⟩ => by
    refine use okF A p fun d t1 v H1 e1 s1 A1 r1 p1 => ?_
    refine use okF A1 p1 fun e t2 u H2 e2 s2 A2 r2 p2 => ?_
    have r1' := RepW.same r1 s2 (fun _ => Fo.base)
    unfold fRep at p2
    split at p2
    · split at p2
      · rename_i hk
        obtain ⟨x, vs, rfl, h1, q1⟩ := r1'.lstOf
        exact ⟨x, _, vs, rfl, by rw [r2.intOf], h1.sq, hk.1, hk.2.1, by rw [q1.length]; exact hk.2.2, new_fin A2 (q1.rep _) p2⟩
      · exact p2.elim
    · exact p2.elim
end
end MM

/-! M41: a chain as a test. -/
namespace MM
open PySem PySem.Spec PyProof.Rows L2
section
variable {X : Cx} {W : WX} {τ : Type} [Sto τ]
theorem mt_chain {op op' : CmpOp} {a b c : Expr} {r r' : R2} {f g : D → D → Option D} {ma mb mc : ME τ D} {pos : Pos} (ho : OpR X (compareOp op) r) (ho' : OpR X (compareOp op') r') (o1 : DOp2 X.K r f) (o2 : DOp2 X.K r' g) (ha : PE X a (tW X.K W ma)) (hb : PE X b (tW X.K W mb)) (hc : PE X c (tW X.K W mc))
    (hm : lastMarks [op, op'] [b, c] = false := by with_unfolding_all rfl) : PT X (.Compare a [op, op'] [b, c] pos) (tT X.K W (MM.e1 asB (eChain f g ma mb mc))) := by
  refine PT.imp (pt_chain ho ho' ha hb hc hm) fun σ H Q ⟨C, ρ, t, A, p⟩ => ?_
  refine run3 (K := X.K) (W := W) o1 o2 ?_
  refine use okB A p fun d t1 v H1 e1 s1 A1 r1 p1 => ?_
  cases d <;> first
    | exact p1.elim
    | (cases r1; exact ⟨_, rfl, p1 _ H1 (Sm.refl _ _) A1.st rfl⟩)
end
section
variable {τ : Type} {Q : D → τ → Prop} {X : Str → Fds → τ → Prop} {ρ : Rho} {t : τ}
theorem oE_eChain {f g : D → D → Option D} {ma mb mc : ME τ D} : oE (eChain f g ma mb mc ρ t) Q X = oE (ma ρ t) (fun x t1 => oE (mb ρ t1) (fun y t2 => (f x y = some (.bl true) ∧ oE (mc ρ t2) (fun w t3 => ∃ z, g y w = some z ∧ Q z t3) X) ∨ (f x y = some (.bl false) ∧ Q (.bl false) t2)) X) X := by
  unfold eChain
  rw [oE_bind]
  congr; funext x t1
  rw [oE_bind]
  congr; funext y t2
  cases e : f x y with
  | none => simp
  | some z =>
    cases z with
    | bl k =>
      cases k with
      | true =>
        dsimp only
        rw [oE_bind]
        simp
      | false => simp
    | _ => simp
end
end MM

/-! M42: a comprehension over a list of one's own. -/
namespace MM
open PySem PySem.Spec PyProof.Rows L2
section
variable {X : Cx} {W : WX} {τ : Type} [Sto τ]
def eOwnIt (i : Nat) : ME τ (List D) := fun ρ t => match ρ[i]? with
  | some (.own xs) => .ok xs t
  | _ => .bad
theorem mi_own {tg e : Expr} {i : Nat} (h : PE X e (tVar i)) : PI X tg e (tIO X.K W (eOwnIt (τ := τ) i)) := PI.imp (pi_seq h) fun σ H R ⟨C, ρ, t, A, p⟩ => by
  unfold eOwnIt at p
  split at p
  · rename_i xs hi
    obtain ⟨a, u, hs, nF, ha, hr⟩ := A.mine i (.own xs) ⟨hi, rfl⟩
    cases hr with
    | lst rs =>
      rename_i vs
      refine ⟨_, hs, .inl ⟨a, rfl, ⟨vs, .inl (.inl ha)⟩, ?_⟩⟩
      refine p (Itl X.K a) H (Sm.refl _ _) A.st ?_
      have w : Walk (Itl X.K a) xs.length (fun H => SqL X.K H a vs) (YAt vs) := by rw [← rs.length]; exact walk_list
      refine ⟨_, _, w, fun H2 s => .inl (.inl (s a _ nF ha)), fun Fc i H2 x H3 hi s dm y => ?_⟩
      obtain ⟨rfl, y⟩ := y
      obtain ⟨d, e, q⟩ := (rs.step s).getV y
      exact ⟨fun _ _ e => e, d, e, q⟩
  · exact p.elim
end
section
variable {τ : Type} {Q : List D → τ → Prop} {X : Str → Fds → τ → Prop} {ρ : Rho} {t : τ}
@[simp] theorem oE_ownIt {i : Nat} : oE (eOwnIt i ρ t) Q X = (match ρ[i]? with | some (.own xs) => Q xs t | _ => False) := by
  unfold eOwnIt
  split <;> simp_all
end
end MM

/-! M43: the greatest of data. -/
namespace MM
open PySem PySem.Spec PyProof.Rows L2
section
variable {X : Cx} {W : WX} {τ : Type} [Sto τ] {K : Fg}
def rMaxD (K : Fg) : List V → Hp → VK → Prop := fun vs H Q => ∃ (a : Addr) (xs : List V) (p : PyData) (ps : List PyData), vs = [V.ref a] ∧ SqL K H a xs ∧ DpAll K H xs (p :: ps) ∧ MinC p ps ∧ ∀ (i : Nat) (v : V), xs[i]? = some v → (p :: ps)[i]? = some (PySem.W.maxD p ps) → Q v H
theorem cr_maxD (hc : X.calm = true) (hu : X.A.units + 64 < cLine) : CallR X (.builtin "max") (rMaxD X.K) := by
  intro pins s σ H vs us Q I r h
  obtain ⟨a, xs, p, ps, rfl, hs, hd, hm, q⟩ := h
  obtain rfl := Vals.ref1 r
  obtain ⟨its, rv, hl, hz⟩ := I.list hs
  obtain ⟨as, ra⟩ := Dp.readsAll I (p :: ps) xs its hd rv
  have dep := hm.dep
  refine PySem.W.max_list_data (I.ok.hd hc) hl.isList ra hm.ok (by omega) fun i u h' tk bs hi hr hk => ?_
  have hi' : its[i]? = some u := by simpa using hi
  obtain ⟨v, hv, rvu⟩ := vals_get rv hi'
  obtain ⟨bs', rd, lt, _, _⟩ := PySem.W.readsAll_at ra i u hi'
  have e : (p :: ps).getD i .none = PySem.W.maxD p ps := (Reads.unique (PySem.W.reads_keeps hk rd) _ _ hr).1
  refine ⟨v, H, I.kept hk, rvu, q i v hv ?_⟩
  rw [← e, List.getD_eq_getElem?_getD, List.getElem?_eq_getElem lt]
  rfl
open Classical in
noncomputable def fMaxD : List D → Option D
  | [.lst ds] => (pys ds).bind fun ps => match ps with
    | [] => none
    | p :: ps => if MinC p ps then some (qd (PySem.W.maxD p ps)) else none
  | _ => none
theorem c_maxD : DCall K (rMaxD K) fMaxD := fun F0 F H xs ds z Q dm r q k => by
  unfold fMaxD at q
  split at q
  · obtain ⟨v, rfl, r0⟩ := r.one
    obtain ⟨a, vs, rfl, h1, rs⟩ := r0.lstOf
    rename_i ds
    cases e : pys ds with
    | none => rw [e] at q; cases q
    | some ps =>
      rw [e, Option.bind_some] at q
      split at q
      · cases q
      · rename_i p ps
        split at q
        · rename_i hm
          cases q
          refine ⟨a, vs, p, ps, rfl, h1.sq, dps_of (F0 := F0) rs e, hm, fun i v hv hp => k _ _ (Same.refl H) ?_⟩
          have e2 := qds_get hp
          rw [qds_of e] at e2
          exact reps_get rs hv e2
        · cases q
  · cases q
end
end MM

noncomputable section
namespace MM
open PySem PySem.Spec PyProof.Rows L2
def b_divisor : MS Unit :=
  (sSeq (sPar 0 1 (e1 fAbs (aCons (eVarW 0) aNil)) (e1 fAbs (aCons (eVarW 1) aNil)))
  (sSeq (sWhile (e1 asB (e2 dGt (eVarW 1) (eC (.int 0)))) (sPar 0 1 (eVar 1) (e2 dMod (eVarW 0) (eVarW 1))))
  (sRet (eVar 0))))
def m_divisor : List D → Unit → Res Unit D := runB 2 b_divisor
def b_share : MS Unit :=
  (sSeq (sIf (e1 asB (e2 dEq (eVarW 1) (eC (.int 0)))) (sRaise "NoShare") sSkip)
  (sSeq (sAsg (gN 2) (eCall m_divisor [] (aCons (eVar 0) (aCons (eVar 1) aNil))))
  (sSeq (sIf (e1 asB (e2 dLt (eVarW 1) (eC (.int 0)))) (sAsg (gN 2) (e1 dNeg (eVarW 2))) sSkip)
  (sRet (eTup (aCons (e2 dDiv (eVarW 0) (eVarW 2)) (aCons (e2 dDiv (eVarW 1) (eVarW 2)) aNil)))))))
def m_share : List D → Unit → Res Unit D := runB 3 b_share
def b_minus : MS Unit :=
  (sRet (eCall m_share [] (aCons (e2 dSub (e2 dMulI (e2 dIx (eVarW 0) (eC (.int 0))) (e2 dIx (eVarW 1) (eC (.int 1)))) (e2 dMulI (e2 dIx (eVarW 1) (eC (.int 0))) (e2 dIx (eVarW 0) (eC (.int 1))))) (aCons (e2 dMulI (e2 dIx (eVarW 0) (eC (.int 1))) (e2 dIx (eVarW 1) (eC (.int 1)))) aNil))))
def m_minus : List D → Unit → Res Unit D := runB 2 b_minus
def b_order : MS Unit :=
  (sSeq (sAsg (gN 2) (e2 dMulI (e2 dIx (eVarW 0) (eC (.int 0))) (e2 dIx (eVarW 1) (eC (.int 1)))))
  (sSeq (sAsg (gN 3) (e2 dMulI (e2 dIx (eVarW 1) (eC (.int 0))) (e2 dIx (eVarW 0) (eC (.int 1)))))
  (sSeq (sIf (e1 asB (e2 dEq (eVarW 2) (eVarW 3))) (sRet (eC (.int 0))) sSkip)
  (sRet (eIf (e1 asB (e2 dLt (eVarW 2) (eVarW 3))) (e1 dNeg (eC (.int 1))) (eC (.int 1)))))))
def m_order : List D → Unit → Res Unit D := runB 4 b_order
def b_along : MS Unit :=
  (sSeq (sAsg (gT (gCons (gT (gCons (gN 2) (gCons (gN 3) gNil))) (gCons (gT (gCons (gN 4) (gCons (gN 5) gNil))) gNil))) (eVar 1))
  (sRet (eCall m_share [] (aCons (e2 dAdd (e2 dMulI (e2 dMulI (e2 dIx (eVarW 0) (eC (.int 0))) (eVarW 2)) (eVarW 5)) (e2 dMulI (e2 dMulI (e2 dIx (eVarW 0) (eC (.int 1))) (eVarW 4)) (eVarW 3))) (aCons (e2 dMulI (eVarW 3) (eVarW 5)) aNil)))))
def m_along : List D → Unit → Res Unit D := runB 6 b_along
def b_spot_minus : MS Unit :=
  (sRet (e1 fTup (aCons (eLst (eComp (e1 fZipS (aCons (eVar 0) (aCons (eVar 1) aNil))) [2, 3] (gT (gCons (gN 2) (gCons (gN 3) gNil))) (fun _ t => .ok true t) (eCall m_minus [] (aCons (eVar 2) (aCons (eVar 3) aNil))))) aNil)))
def m_spot_minus : List D → Unit → Res Unit D := runB 4 b_spot_minus
def b_find_row : MS Unit :=
  (sSeq (sFor (e1 itD (eVar 0)) (gN 2) (sIf (e1 asB (e2 dEq (e2 dIx (eVarW 2) (eC (.int 0))) (eVarW 1))) (sRet (eVar 2)) sSkip))
  sBad)
def m_find_row : List D → Unit → Res Unit D := runB 3 b_find_row
def b_parting : MS Unit :=
  (sSeq (sAsg (gT (gCons (gN 2) (gCons (gN 3) (gCons (gN 4) gNil)))) (eVar 1))
  (sRet (eCall m_along [] (aCons (eVar 4) (aCons (eCall m_spot_minus [] (aCons (e2 dIx (eCall m_find_row [] (aCons (eVar 0) (aCons (eVar 3) aNil))) (eC (.int 5))) (aCons (e2 dIx (eCall m_find_row [] (aCons (eVar 0) (aCons (eVar 2) aNil))) (eC (.int 5))) aNil))) aNil)))))
def m_parting : List D → Unit → Res Unit D := runB 5 b_parting
def b_closing : MS Unit :=
  (sRet (e1 fAny (aCons (eLst (eComp (e1 itD (eVar 1)) [2] (gN 2) (fun _ t => .ok true t) (e2 dLt (eCall m_order [] (aCons (eCall m_parting [] (aCons (eVar 0) (aCons (eVar 2) aNil))) (aCons (eC (.tup [(.int 0), (.int 1)])) aNil))) (eC (.int 0))))) aNil)))
def m_closing : List D → Unit → Res Unit D := runB 3 b_closing
def b__law_cell_at : MS Unit :=
  (sSeq (sIf (e1 asB (e2 dEq (e1 fLen (aCons (eVarW 0) aNil)) (eC (.int 0)))) (sRet (e2 dAdd (e2 dMulI (eC (.int 7)) (eVarW 1)) (eC (.int 3)))) sSkip)
  (sRet (e1 fAbs (aCons (e2 dIx (eVarW 0) (e2 dMod (eVarW 1) (e1 fLen (aCons (eVarW 0) aNil)))) aNil))))
def m__law_cell_at : List D → Unit → Res Unit D := runB 2 b__law_cell_at
def b__law_mixed : MS Unit :=
  (sSeq (sAsg (gN 3) (e2 dMod (e2 dPow (e2 dAdd (e2 dMulI (e2 dAdd (e2 dMod (eCall m__law_cell_at [] (aCons (eVar 0) (aCons (eVar 1) aNil))) (eC (.int 1000003))) (eC (.int 5))) (e2 dAdd (eVarW 1) (eC (.int 2)))) (e2 dMulI (eC (.int 7919)) (eVarW 1))) (eC (.int 5))) (eC (.int 2147483647))))
  (sRet (e2 dMod (e2 dDiv (eVarW 3) (eC (.int 13))) (eVarW 2))))
def m__law_mixed : List D → Unit → Res Unit D := runB 4 b__law_mixed
def b__law_new_deck : MSd :=
  (retD 0 (eComp (e1 itD (eVar 0)) [1] (gN 1) (e1 asB (e2 dGe (e1 fAbs (aCons (eVarW 1) aNil)) (e2 dPow (eC (.int 10)) (eC (.int 18))))) (e1 fAbs (aCons (eVarW 1) aNil))))
def m__law_new_deck : List D → Option (D × List Int) := runD 2 b__law_new_deck
def b__law_take : MS Dk :=
  (sSeq (sWhile (e1 asB (e2 dLt (eDk 0 2) (eDkLen 0))) (sSeq (sAsg (gN 2) (eDkAt 0))
  (sSeq (sIf (e1 asB (e2 dGt (eVarW 2) (eC (.int 0)))) (sSeq (sDkBig 0 (e2 dDiv (eVarW 2) (eVarW 1)))
  (sRet (e2 dMod (eVarW 2) (eVarW 1)))) sSkip)
  (sDkSet 0 2 (e2 dAdd (eDk 0 2) (eC (.int 1)))))))
  (sSeq (sDkSet 0 3 (e2 dAdd (eDk 0 3) (eC (.int 1))))
  (sRet (eCall m__law_mixed [] (aCons (eDk 0 0) (aCons (eDk 0 3) (aCons (eVar 1) aNil)))))))
def m__law_take : List D → Dk → Res Dk D := runB 3 b__law_take
def b__law_gcd : MS Unit :=
  (sSeq (sWhile (e1 asB (e2 dNe (eVarW 1) (eC (.int 0)))) (sSeq (sAsg (gN 2) (e2 dMod (eVarW 0) (eVarW 1)))
  (sSeq (sAsg (gN 0) (eVar 1))
  (sAsg (gN 1) (eVar 2)))))
  (sRet (e1 fAbs (aCons (eVarW 0) aNil))))
def m__law_gcd : List D → Unit → Res Unit D := runB 3 b__law_gcd
def b__law_lowest : MS Unit :=
  (sSeq (sAsg (gN 2) (eCall m__law_gcd [] (aCons (eVar 0) (aCons (eVar 1) aNil))))
  (sSeq (sIf (e1 asB (e2 dLt (eVarW 1) (eC (.int 0)))) (sAsg (gN 2) (e1 dNeg (eVarW 2))) sSkip)
  (sRet (eTup (aCons (e2 dDiv (eVarW 0) (eVarW 2)) (aCons (e2 dDiv (eVarW 1) (eVarW 2)) aNil))))))
def m__law_lowest : List D → Unit → Res Unit D := runB 3 b__law_lowest
def b__law_plus : MS Unit :=
  (sRet (eCall m__law_lowest [] (aCons (e2 dAdd (e2 dMulI (e2 dIx (eVarW 0) (eC (.int 0))) (e2 dIx (eVarW 1) (eC (.int 1)))) (e2 dMulI (e2 dIx (eVarW 1) (eC (.int 0))) (e2 dIx (eVarW 0) (eC (.int 1))))) (aCons (e2 dMulI (e2 dIx (eVarW 0) (eC (.int 1))) (e2 dIx (eVarW 1) (eC (.int 1)))) aNil))))
def m__law_plus : List D → Unit → Res Unit D := runB 2 b__law_plus
def b__law_times : MS Unit :=
  (sRet (eCall m__law_lowest [] (aCons (e2 dMulI (e2 dIx (eVarW 0) (eC (.int 0))) (e2 dIx (eVarW 1) (eC (.int 0)))) (aCons (e2 dMulI (e2 dIx (eVarW 0) (eC (.int 1))) (e2 dIx (eVarW 1) (eC (.int 1)))) aNil))))
def m__law_times : List D → Unit → Res Unit D := runB 2 b__law_times
def b__law_spot_plus : MS Unit :=
  (sRet (eTup (aCons (eCall m__law_plus [] (aCons (e2 dIx (eVarW 0) (eC (.int 0))) (aCons (e2 dIx (eVarW 1) (eC (.int 0))) aNil))) (aCons (eCall m__law_plus [] (aCons (e2 dIx (eVarW 0) (eC (.int 1))) (aCons (e2 dIx (eVarW 1) (eC (.int 1))) aNil))) aNil))))
def m__law_spot_plus : List D → Unit → Res Unit D := runB 2 b__law_spot_plus
def b__law_spot_times : MS Unit :=
  (sRet (eTup (aCons (eCall m__law_times [] (aCons (e2 dIx (eVarW 0) (eC (.int 0))) (aCons (eVar 1) aNil))) (aCons (eCall m__law_times [] (aCons (e2 dIx (eVarW 0) (eC (.int 1))) (aCons (eVar 1) aNil))) aNil))))
def m__law_spot_times : List D → Unit → Res Unit D := runB 2 b__law_spot_times
def b__law_spot_less : MS Unit :=
  (sRet (eCall m__law_spot_plus [] (aCons (eVar 0) (aCons (eCall m__law_spot_times [] (aCons (eVar 1) (aCons (eTup (aCons (e1 dNeg (eC (.int 1))) (aCons (eC (.int 1)) aNil))) aNil))) aNil))))
def m__law_spot_less : List D → Unit → Res Unit D := runB 2 b__law_spot_less
def b__law_dot : MS Unit :=
  (sRet (eCall m__law_plus [] (aCons (eCall m__law_times [] (aCons (eTup (aCons (e2 dIx (eVarW 0) (eC (.int 0))) (aCons (eC (.int 1)) aNil))) (aCons (e2 dIx (eVarW 1) (eC (.int 0))) aNil))) (aCons (eCall m__law_times [] (aCons (eTup (aCons (e2 dIx (eVarW 0) (eC (.int 1))) (aCons (eC (.int 1)) aNil))) (aCons (e2 dIx (eVarW 1) (eC (.int 1))) aNil))) aNil))))
def m__law_dot : List D → Unit → Res Unit D := runB 2 b__law_dot
def b__law_spot_of : MS Unit :=
  (sRet (eTup (aCons (eTup (aCons (e2 dIx (eVarW 0) (eC (.int 0))) (aCons (eC (.int 1)) aNil))) (aCons (eTup (aCons (e2 dIx (eVarW 0) (eC (.int 1))) (aCons (eC (.int 1)) aNil))) aNil))))
def m__law_spot_of : List D → Unit → Res Unit D := runB 1 b__law_spot_of
def b__law_left : MS Unit :=
  (sRet (e2 dSub (e2 dMulI (e2 dSub (e2 dIx (eVarW 1) (eC (.int 0))) (e2 dIx (eVarW 0) (eC (.int 0)))) (e2 dSub (e2 dIx (eVarW 2) (eC (.int 1))) (e2 dIx (eVarW 0) (eC (.int 1))))) (e2 dMulI (e2 dSub (e2 dIx (eVarW 1) (eC (.int 1))) (e2 dIx (eVarW 0) (eC (.int 1)))) (e2 dSub (e2 dIx (eVarW 2) (eC (.int 0))) (e2 dIx (eVarW 0) (eC (.int 0)))))))
def m__law_left : List D → Unit → Res Unit D := runB 3 b__law_left
def b__law_half : MS Unit :=
  (sSeq (sAsg (gN 1) (eLst (e1 lim aNil)))
  (sSeq (sFor (e1 itD (eVar 0)) (gN 2) (sSeq (sWhile (tAnd2 (e1 asB (e2 dGt (e1 fLen (aCons (eVarW 1) aNil)) (eC (.int 1)))) (e1 asB (e2 dLe (eCall m__law_left [] (aCons (e2 dIx (eVarW 1) (e1 dNeg (eC (.int 2)))) (aCons (e2 dIx (eVarW 1) (e1 dNeg (eC (.int 1)))) (aCons (eVar 2) aNil)))) (eC (.int 0))))) (sAsg (gN 1) (e3 dCutA (eVarW 1) oNone (oSome (e1 dNeg (eC (.int 1)))))))
  (sAsg (gN 1) (e2 dAdd (eVarW 1) (eLst (e1 lim (aCons (eVar 2) aNil)))))))
  (sRet (e3 dCutA (eVarW 1) oNone (oSome (e1 dNeg (eC (.int 1))))))))
def m__law_half : List D → Unit → Res Unit D := runB 3 b__law_half
def b__law_signed : MS Dk :=
  (sRet (e2 dSub (eCallS m__law_take [] (aCons (eVar 0) (aCons (e2 dAdd (e2 dMulI (eC (.int 2)) (eVarW 1)) (eC (.int 1))) aNil))) (eVarW 1)))
def m__law_signed : List D → Dk → Res Dk D := runB 2 b__law_signed
def b__law_drawn_shape : MS Dk :=
  (sSeq (sAsg (gN 2) (e2 dAdd (eC (.int 1)) (eCallS m__law_take [] (aCons (eVar 0) (aCons (eVar 1) aNil)))))
  (sSeq (sIf (e1 asB (e2 dGt (eCallS m__law_take [] (aCons (eVar 0) (aCons (eC (.int 3)) aNil))) (eC (.int 0)))) (sSeq (sAsg (gN 3) (e2 dAdd (eC (.int 1)) (eCallS m__law_take [] (aCons (eVar 0) (aCons (eVar 1) aNil)))))
  (sRet (eTup (aCons (eTup (aCons (eC (.int 0)) (aCons (eC (.int 0)) aNil))) (aCons (eTup (aCons (eVar 2) (aCons (eC (.int 0)) aNil))) (aCons (eTup (aCons (eVar 2) (aCons (eVar 3) aNil))) (aCons (eTup (aCons (eC (.int 0)) (aCons (eVar 3) aNil))) aNil))))))) sSkip)
  (sSeq (sAsg (gN 4) (eLst (e1 fSortD (aCons (eLst (eComp (e1 fRng1 (aCons (e2 dAdd (eC (.int 3)) (eCallS m__law_take [] (aCons (eVar 0) (aCons (eC (.int 6)) aNil)))) aNil)) [6] (gN 6) (fun _ t => .ok true t) (eTup (aCons (eCallS m__law_signed [] (aCons (eVar 0) (aCons (eVar 1) aNil))) (aCons (eCallS m__law_signed [] (aCons (eVar 0) (aCons (eVar 1) aNil))) aNil))))) aNil))))
  (sSeq (sAsg (gN 5) (e1 fTup (aCons (e2 dAdd (eCall m__law_half [] (aCons (eVar 4) aNil)) (eCall m__law_half [] (aCons (eLst (e1 dRev (eVarW 4))) aNil))) aNil)))
  (sSeq (sIf (e1 asB (e2 dLt (e1 fLen (aCons (eVarW 5) aNil)) (eC (.int 3)))) (sRet (eTup (aCons (eTup (aCons (eC (.int 0)) (aCons (eC (.int 0)) aNil))) (aCons (eTup (aCons (eVar 2) (aCons (eC (.int 0)) aNil))) (aCons (eTup (aCons (eC (.int 0)) (aCons (eC (.int 2)) aNil))) aNil))))) sSkip)
  (sRet (eVar 5)))))))
def m__law_drawn_shape : List D → Dk → Res Dk D := runB 7 b__law_drawn_shape
def b__law_drawn_size : MS Dk :=
  (sRet (eCall m__law_lowest [] (aCons (eCallS m__law_signed [] (aCons (eVar 0) (aCons (eVar 1) aNil))) (aCons (e2 dAdd (eC (.int 1)) (e2 dMulI (eCallS m__law_take [] (aCons (eVar 0) (aCons (eC (.int 4)) aNil))) (eCallS m__law_take [] (aCons (eVar 0) (aCons (eC (.int 2)) aNil))))) aNil))))
def m__law_drawn_size : List D → Dk → Res Dk D := runB 2 b__law_drawn_size
def b__law_above : MS Dk :=
  (sRet (eCall m__law_lowest [] (aCons (e2 dAdd (eC (.int 1)) (eCallS m__law_take [] (aCons (eVar 0) (aCons (eVar 1) aNil)))) (aCons (e2 dAdd (eC (.int 1)) (e2 dMulI (eCallS m__law_take [] (aCons (eVar 0) (aCons (eC (.int 4)) aNil))) (eCallS m__law_take [] (aCons (eVar 0) (aCons (eC (.int 2)) aNil))))) aNil))))
def m__law_above : List D → Dk → Res Dk D := runB 2 b__law_above
def b__law_side_ways : MS Unit :=
  (sSeq (sOwn 1 (e1 lim aNil))
  (sSeq (sFor (e1 fEnum2 (aCons (eVar 0) aNil)) (gT (gCons (gN 2) (gCons (gN 3) gNil))) (sSeq (sAsg (gN 4) (e2 dIx (eVarW 0) (e2 dMod (e2 dAdd (eVarW 2) (eC (.int 1))) (e1 fLen (aCons (eVarW 0) aNil)))))
  (sSeq (sAsg (gN 5) (eCall m__law_gcd [] (aCons (e2 dSub (e2 dIx (eVarW 4) (eC (.int 1))) (e2 dIx (eVarW 3) (eC (.int 1)))) (aCons (e2 dSub (e2 dIx (eVarW 3) (eC (.int 0))) (e2 dIx (eVarW 4) (eC (.int 0)))) aNil))))
  (sApp 1 (eTup (aCons (e2 dDiv (e2 dSub (e2 dIx (eVarW 4) (eC (.int 1))) (e2 dIx (eVarW 3) (eC (.int 1)))) (eVarW 5)) (aCons (e2 dDiv (e2 dSub (e2 dIx (eVarW 3) (eC (.int 0))) (e2 dIx (eVarW 4) (eC (.int 0)))) (eVarW 5)) aNil)))))))
  (sFrz 1 (sRet (eVar 1)))))
def m__law_side_ways : List D → Unit → Res Unit D := runB 6 b__law_side_ways
def b__law_pair_ways : MS Unit :=
  (sSeq (sAsg (gN 2) (eCall m__law_side_ways [] (aCons (e2 dIx (eVarW 0) (eC (.int 1))) aNil)))
  (sSeq (sAsg (gN 3) (eLst (eComp (e1 itD (eCall m__law_side_ways [] (aCons (e2 dIx (eVarW 1) (eC (.int 1))) aNil))) [4, 5] (gT (gCons (gN 4) (gCons (gN 5) gNil))) (fun _ t => .ok true t) (eTup (aCons (e1 dNeg (eVarW 4)) (aCons (e1 dNeg (eVarW 5)) aNil))))))
  (sRet (eLst (e1 fSortD (aCons (e2 dAdd (eVarW 2) (eLst (eComp (e1 itD (eVar 3)) [6] (gN 6) (e1 asB (e2 dNotIn (eVarW 6) (eVarW 2))) (eVar 6)))) aNil))))))
def m__law_pair_ways : List D → Unit → Res Unit D := runB 7 b__law_pair_ways
def b__law_far : MS Unit :=
  (sRet (e1 fMaxL (aCons (eLst (eComp (e1 itD (eVar 0)) [2] (gN 2) (fun _ t => .ok true t) (e2 dAdd (e2 dMulI (e2 dIx (eVarW 1) (eC (.int 0))) (e2 dIx (eVarW 2) (eC (.int 0)))) (e2 dMulI (e2 dIx (eVarW 1) (eC (.int 1))) (e2 dIx (eVarW 2) (eC (.int 1))))))) aNil)))
def m__law_far : List D → Unit → Res Unit D := runB 3 b__law_far
def b__law_speed : MS Unit :=
  (sRet (eCall m__law_dot [] (aCons (eVar 2) (aCons (eCall m__law_spot_less [] (aCons (e2 dIx (eVarW 1) (eC (.int 5))) (aCons (e2 dIx (eVarW 0) (eC (.int 5))) aNil))) aNil))))
def m__law_speed : List D → Unit → Res Unit D := runB 3 b__law_speed
def b__law_between : MS Unit :=
  (sSeq (sAsg (gN 3) (eCall m__law_spot_less [] (aCons (e2 dIx (eVarW 1) (eC (.int 4))) (aCons (e2 dIx (eVarW 0) (eC (.int 4))) aNil))))
  (sSeq (sAsg (gN 3) (eCall m__law_spot_plus [] (aCons (eVar 3) (aCons (eCall m__law_spot_times [] (aCons (eCall m__law_spot_less [] (aCons (e2 dIx (eVarW 1) (eC (.int 5))) (aCons (e2 dIx (eVarW 0) (eC (.int 5))) aNil))) (aCons (eVar 2) aNil))) aNil))))
  (sRet (eTup (aCons (e2 dMulI (e2 dIx (e2 dIx (eVarW 3) (eC (.int 0))) (eC (.int 0))) (e2 dIx (e2 dIx (eVarW 3) (eC (.int 1))) (eC (.int 1)))) (aCons (e2 dMulI (e2 dIx (e2 dIx (eVarW 3) (eC (.int 1))) (eC (.int 0))) (e2 dIx (e2 dIx (eVarW 3) (eC (.int 0))) (eC (.int 1)))) (aCons (e2 dMulI (e2 dIx (e2 dIx (eVarW 3) (eC (.int 0))) (eC (.int 1))) (e2 dIx (e2 dIx (eVarW 3) (eC (.int 1))) (eC (.int 1)))) aNil)))))))
def m__law_between : List D → Unit → Res Unit D := runB 4 b__law_between
def b__law_room_by : MS Unit :=
  (sSeq (sAsg (gN 4) (e2 dAdd (eCall m__law_far [] (aCons (e2 dIx (eVarW 0) (eC (.int 1))) (aCons (eVar 2) aNil))) (eCall m__law_far [] (aCons (e2 dIx (eVarW 1) (eC (.int 1))) (aCons (eTup (aCons (e1 dNeg (e2 dIx (eVarW 2) (eC (.int 0)))) (aCons (e1 dNeg (e2 dIx (eVarW 2) (eC (.int 1)))) aNil))) aNil)))))
  (sRet (e2 dSub (e2 dAdd (e2 dMulI (e2 dIx (eVarW 2) (eC (.int 0))) (e2 dIx (eVarW 3) (eC (.int 0)))) (e2 dMulI (e2 dIx (eVarW 2) (eC (.int 1))) (e2 dIx (eVarW 3) (eC (.int 1))))) (e2 dMulI (eVarW 4) (e2 dIx (eVarW 3) (eC (.int 2)))))))
def m__law_room_by : List D → Unit → Res Unit D := runB 5 b__law_room_by
def b__law_rooms : MS Unit :=
  (sSeq (sAsg (gN 3) (eCall m__law_between [] (aCons (eVar 0) (aCons (eVar 1) (aCons (eVar 2) aNil)))))
  (sRet (eLst (eComp (e1 itD (eCall m__law_pair_ways [] (aCons (eVar 0) (aCons (eVar 1) aNil)))) [4] (gN 4) (fun _ t => .ok true t) (eTup (aCons (eCall m__law_room_by [] (aCons (eVar 0) (aCons (eVar 1) (aCons (eVar 4) (aCons (eVar 3) aNil))))) (aCons (eVar 4) aNil)))))))
def m__law_rooms : List D → Unit → Res Unit D := runB 5 b__law_rooms
def b__law_over : MS Unit :=
  (sRet (e2 dLt (e2 dIx (e1 fMaxD (aCons (eCall m__law_rooms [] (aCons (eVar 0) (aCons (eVar 1) (aCons (eVar 2) aNil)))) aNil)) (eC (.int 0))) (eC (.int 0))))
def m__law_over : List D → Unit → Res Unit D := runB 3 b__law_over
def b__law_drawn_name : MS Dk :=
  (sSeq (sAsg (gN 1) (e2 dAdd (e2 dAdd (eC (.int 1)) (eCallS m__law_take [] (aCons (eVar 0) (aCons (eC (.int 3)) aNil)))) (e2 dMulI (eC (.int 9)) (e1 fIntA (aCons (e2 dEq (eCallS m__law_take [] (aCons (eVar 0) (aCons (eC (.int 9)) aNil))) (eC (.int 0))) aNil)))))
  (sRet (e1 (dJoin "") (eLst (eComp (e1 fRng1 (aCons (eVarW 1) aNil)) [2] (gN 2) (fun _ t => .ok true t) (e2 dIx (eC (.str "abcdefghijklmnopqrstuvwxyz")) (eCallS m__law_take [] (aCons (eVar 0) (aCons (eC (.int 26)) aNil)))))))))
def m__law_drawn_name : List D → Dk → Res Dk D := runB 3 b__law_drawn_name
def b__law_drawn_way : MS Dk :=
  (sSeq (sAsg (gN 2) (eCallS m__law_signed [] (aCons (eVar 0) (aCons (eVar 1) aNil))))
  (sSeq (sAsg (gN 3) (eCallS m__law_signed [] (aCons (eVar 0) (aCons (eVar 1) aNil))))
  (sSeq (sAsg (gN 4) (e1 fMax2 (aCons (eC (.int 1)) (aCons (eCall m__law_gcd [] (aCons (eVar 2) (aCons (eVar 3) aNil))) aNil))))
  (sRet (e2 dIx (eLst (e1 lim (aCons (eTup (aCons (e2 dDiv (eVarW 2) (eVarW 4)) (aCons (e2 dDiv (eVarW 3) (eVarW 4)) aNil))) (aCons (eTup (aCons (eC (.int 1)) (aCons (eC (.int 0)) aNil))) aNil)))) (e1 fIntA (aCons (eAnd2 (e2 dEq (eVarW 2) (eC (.int 0))) (e2 dEq (eVarW 3) (eC (.int 0)))) aNil)))))))
def m__law_drawn_way : List D → Dk → Res Dk D := runB 5 b__law_drawn_way
def b__law_drawn_row : MS Dk :=
  (sSeq (sAsg (gN 3) (eCallS m__law_drawn_name [] (aCons (eVar 0) aNil)))
  (sSeq (sAsg (gN 4) (eCallS m__law_take [] (aCons (eVar 0) (aCons (eC (.int 6)) aNil))))
  (sSeq (sIf (e1 asB (e2 dEq (eVarW 4) (eC (.int 0)))) (sRet (eTup (aCons (eVar 3) (aCons (eVar 1) (aCons (eC (.int 0)) (aCons (eC .non) (aCons (eVar 2) (aCons (eTup (aCons (eTup (aCons (eC (.int 0)) (aCons (eC (.int 1)) aNil))) (aCons (eTup (aCons (eC (.int 0)) (aCons (eC (.int 1)) aNil))) aNil))) aNil)))))))) sSkip)
  (sSeq (sAsg (gN 5) (e2 dAdd (eC (.int 1)) (eCallS m__law_take [] (aCons (eVar 0) (aCons (eC (.int 5)) aNil)))))
  (sSeq (sAsg (gN 6) (eTup (aCons (eCallS m__law_drawn_size [] (aCons (eVar 0) (aCons (eC (.int 4)) aNil))) (aCons (eCallS m__law_drawn_size [] (aCons (eVar 0) (aCons (eC (.int 4)) aNil))) aNil))))
  (sSeq (sIf (e1 asB (e2 dGt (eVarW 4) (eC (.int 1)))) (sRet (eTup (aCons (eVar 3) (aCons (eVar 1) (aCons (eVar 5) (aCons (eC .non) (aCons (eVar 2) (aCons (eVar 6) aNil)))))))) sSkip)
  (sSeq (sAsg (gN 7) (eCallS m__law_drawn_way [] (aCons (eVar 0) (aCons (eC (.int 3)) aNil))))
  (sRet (eTup (aCons (eVar 3) (aCons (eVar 1) (aCons (eVar 5) (aCons (eVar 7) (aCons (eVar 2) (aCons (eCall m__law_spot_times [] (aCons (eCall m__law_spot_of [] (aCons (eVar 7) aNil)) (aCons (e2 dIx (eVarW 6) (eC (.int 0))) aNil))) aNil)))))))))))))))
def m__law_drawn_row : List D → Dk → Res Dk D := runB 8 b__law_drawn_row
def b__law_beside : MS Dk :=
  (sSeq (sAsg (gN 3) (e2 dAdd (eCall m__law_pair_ways [] (aCons (eVar 1) (aCons (eVar 2) aNil))) (eLst (e1 lim (aCons (eCallS m__law_drawn_way [] (aCons (eVar 0) (aCons (eC (.int 4)) aNil))) aNil)))))
  (sSeq (sAsg (gN 4) (e2 dIx (eVarW 3) (eCallS m__law_take [] (aCons (eVar 0) (aCons (e1 fLen (aCons (eVarW 3) aNil)) aNil)))))
  (sSeq (sAsg (gN 5) (e2 dIx (eLst (e1 lim (aCons (eTup (aCons (eC (.int 0)) (aCons (eC (.int 1)) aNil))) (aCons (eCallS m__law_drawn_size [] (aCons (eVar 0) (aCons (eC (.int 2)) aNil))) aNil)))) (eCallS m__law_take [] (aCons (eVar 0) (aCons (eC (.int 2)) aNil)))))
  (sSeq (sAsg (gN 6) (e2 dIx (eLst (e1 lim (aCons (eTup (aCons (eC (.int 0)) (aCons (eC (.int 1)) aNil))) (aCons (eTup (aCons (eC (.int 0)) (aCons (eC (.int 1)) aNil))) (aCons (eCallS m__law_above [] (aCons (eVar 0) (aCons (eC (.int 4)) aNil))) aNil))))) (eCallS m__law_take [] (aCons (eVar 0) (aCons (eC (.int 3)) aNil)))))
  (sSeq (sAsg (gN 7) (e2 dSub (eC (.int 1)) (e2 dMulI (eC (.int 2)) (eCallS m__law_take [] (aCons (eVar 0) (aCons (eC (.int 2)) aNil))))))
  (sSeq (sAsg (gN 8) (e2 dIx (e1 fMaxD (aCons (eLst (eComp (e1 itD (e2 dIx (eVarW 1) (eC (.int 1)))) [11] (gN 11) (fun _ t => .ok true t) (eTup (aCons (e2 dAdd (e2 dMulI (e2 dIx (eVarW 4) (eC (.int 0))) (e2 dIx (eVarW 11) (eC (.int 0)))) (e2 dMulI (e2 dIx (eVarW 4) (eC (.int 1))) (e2 dIx (eVarW 11) (eC (.int 1))))) (aCons (eVar 11) aNil))))) aNil)) (eC (.int 1))))
  (sSeq (sAsg (gN 9) (e2 dIx (e1 fMinD (aCons (eLst (eComp (e1 itD (e2 dIx (eVarW 2) (eC (.int 1)))) [11] (gN 11) (fun _ t => .ok true t) (eTup (aCons (e2 dAdd (e2 dMulI (e2 dIx (eVarW 4) (eC (.int 0))) (e2 dIx (eVarW 11) (eC (.int 0)))) (e2 dMulI (e2 dIx (eVarW 4) (eC (.int 1))) (e2 dIx (eVarW 11) (eC (.int 1))))) (aCons (e2 dMulI (eVarW 7) (e2 dIx (eVarW 11) (eC (.int 0)))) (aCons (e2 dMulI (eVarW 7) (e2 dIx (eVarW 11) (eC (.int 1)))) (aCons (eVar 11) aNil))))))) aNil)) (eC (.int 3))))
  (sSeq (sAsg (gN 10) (eCall m__law_spot_plus [] (aCons (e2 dIx (eVarW 1) (eC (.int 4))) (aCons (eCall m__law_spot_of [] (aCons (eTup (aCons (e2 dSub (e2 dIx (eVarW 8) (eC (.int 0))) (e2 dIx (eVarW 9) (eC (.int 0)))) (aCons (e2 dSub (e2 dIx (eVarW 8) (eC (.int 1))) (e2 dIx (eVarW 9) (eC (.int 1)))) aNil))) aNil)) aNil))))
  (sSeq (sAsg (gN 10) (eCall m__law_spot_plus [] (aCons (eVar 10) (aCons (eCall m__law_spot_times [] (aCons (eCall m__law_spot_of [] (aCons (eTup (aCons (e1 dNeg (e2 dIx (eVarW 4) (eC (.int 1)))) (aCons (e2 dIx (eVarW 4) (eC (.int 0))) aNil))) aNil)) (aCons (eVar 5) aNil))) aNil))))
  (sRet (e2 dAdd (e2 dAdd (e3 dCutA (eVarW 2) oNone (oSome (eC (.int 4)))) (eTup (aCons (eCall m__law_spot_plus [] (aCons (eVar 10) (aCons (eCall m__law_spot_times [] (aCons (eCall m__law_spot_of [] (aCons (eVar 4) aNil)) (aCons (eVar 6) aNil))) aNil))) aNil))) (e3 dCutA (eVarW 2) (oSome (eC (.int 5))) oNone))))))))))))
def m__law_beside : List D → Dk → Res Dk D := runB 12 b__law_beside
def b__law_scene : MS Dk :=
  (sSeq (sOwn 2 (e1 lim aNil))
  (sSeq (sFor (e1 fRng1 (aCons (e2 dAdd (eC (.int 1)) (eCallS m__law_take [] (aCons (eVar 0) (aCons (eVar 1) aNil)))) aNil)) (gN 3) (sSeq (sAsg (gN 4) (eCallS m__law_drawn_row [] (aCons (eVar 0) (aCons (eCallS m__law_drawn_shape [] (aCons (eVar 0) (aCons (eC (.int 3)) aNil))) (aCons (eTup (aCons (eCallS m__law_drawn_size [] (aCons (eVar 0) (aCons (eC (.int 9)) aNil))) (aCons (eCallS m__law_drawn_size [] (aCons (eVar 0) (aCons (eC (.int 9)) aNil))) aNil))) aNil)))))
  (sSeq (sIf (e1 asB (e2 dNe (eVarW 2) (eLst (e1 lim aNil)))) (sAsg (gN 4) (eCallS m__law_beside [] (aCons (eVar 0) (aCons (e2 dIx (eVarW 2) (eCallS m__law_take [] (aCons (eVar 0) (aCons (e1 fLen (aCons (eVarW 2) aNil)) aNil)))) (aCons (eVar 4) aNil))))) sSkip)
  (sIf (e1 asB (e2 dEq (eLst (eComp (eOwnIt 2) [6] (gN 6) (tOr2 (e1 asB (e2 dEq (e2 dIx (eVarW 6) (eC (.int 0))) (e2 dIx (eVarW 4) (eC (.int 0))))) (e1 truth (eCall m__law_over [] (aCons (eVar 6) (aCons (eVar 4) (aCons (eTup (aCons (eC (.int 0)) (aCons (eC (.int 1)) aNil))) aNil)))))) (eVar 6))) (eLst (e1 lim aNil)))) (sApp 2 (eVar 4)) sSkip))))
  (sSeq (sAsg (gN 5) (eLst (eComp (eOwnIt 2) [4] (gN 4) (e1 asB (e2 dEq (e2 dIx (eVarW 4) (eC (.int 2))) (eC (.int 0)))) (eVar 4))))
  (sSeq (sIf (tAnd2 (e1 asB (e2 dGt (e1 fLen (aCons (eVarW 5) aNil)) (eC (.int 0)))) (e1 asB (e2 dEq (eCallS m__law_take [] (aCons (eVar 0) (aCons (eC (.int 3)) aNil))) (eC (.int 0))))) (sApp 2 (e2 dAdd (eTup (aCons (eC (.str "again")) aNil)) (e3 dCutA (e2 dIx (eVarW 5) (eC (.int 0))) (oSome (eC (.int 1))) oNone))) sSkip)
  (sFrz 2 (sRet (e1 fTup (aCons (eLst (e1 fSortD (aCons (eVarW 2) aNil))) aNil))))))))
def m__law_scene : List D → Dk → Res Dk D := runB 7 b__law_scene
def b__law_whole : MS Unit :=
  (sRet (eAnd2 (e1 fIsi (aCons (eVarW 0) (aCons (eC (.ty "int")) aNil))) (eNot1 (e1 fIsi (aCons (eVarW 0) (aCons (eC (.ty "bool")) aNil))))))
def m__law_whole : List D → Unit → Res Unit D := runB 1 b__law_whole
def b__law_two : MS Unit :=
  (sSeq (sIf (tOr2 (tNot1 (e1 truth (e1 fIsi (aCons (eVarW 0) (aCons (eC (.ty "tuple")) aNil))))) (tOr2 (e1 asB (e2 dNe (e1 fLen (aCons (eVarW 0) aNil)) (eC (.int 2)))) (tOr2 (tNot1 (e1 truth (eCall m__law_whole [] (aCons (e2 dIx (eVarW 0) (eC (.int 0))) aNil)))) (tNot1 (e1 truth (eCall m__law_whole [] (aCons (e2 dIx (eVarW 0) (eC (.int 1))) aNil))))))) (sRet (eC (.bl false))) sSkip)
  (sRet (e2 dEq (eCall m__law_gcd [] (aCons (e2 dIx (eVarW 0) (eC (.int 0))) (aCons (e2 dIx (eVarW 0) (eC (.int 1))) aNil))) (eC (.int 1)))))
def m__law_two : List D → Unit → Res Unit D := runB 1 b__law_two
def b__law_is_size : MS Unit :=
  (sRet (eAnd2 (eCall m__law_two [] (aCons (eVar 0) aNil)) (e2 dGt (e2 dIx (eVarW 0) (eC (.int 1))) (eC (.int 0)))))
def m__law_is_size : List D → Unit → Res Unit D := runB 1 b__law_is_size
def b__law_fast : MS Unit :=
  (sSeq (sAsg (gN 2) (e2 dIx (eLst (eComp (e1 itD (eVar 0)) [4] (gN 4) (e1 asB (e2 dEq (e2 dIx (eVarW 4) (eC (.int 0))) (e2 dIx (eVarW 1) (eC (.int 0))))) (eVar 4))) (eC (.int 0))))
  (sSeq (sAsg (gN 3) (e2 dIx (eLst (eComp (e1 itD (eVar 0)) [4] (gN 4) (e1 asB (e2 dEq (e2 dIx (eVarW 4) (eC (.int 0))) (e2 dIx (eVarW 1) (eC (.int 1))))) (eVar 4))) (eC (.int 0))))
  (sRet (eCall m__law_speed [] (aCons (eVar 2) (aCons (eVar 3) (aCons (e2 dIx (eVarW 1) (eC (.int 2))) aNil)))))))
def m__law_fast : List D → Unit → Res Unit D := runB 5 b__law_fast
def b__law_closes : MS Unit :=
  (sRet (e2 dNe (eLst (eComp (e1 itD (eVar 1)) [2] (gN 2) (e1 asB (e2 dLt (e2 dIx (eCall m__law_fast [] (aCons (eVar 0) (aCons (eVar 2) aNil))) (eC (.int 0))) (eC (.int 0)))) (eVar 2))) (eLst (e1 lim aNil))))
def m__law_closes : List D → Unit → Res Unit D := runB 3 b__law_closes
def b__law_anew : MS Dk :=
  (sSeq (sOwn 2 (e1 lim aNil))
  (sSeq (sFor (e1 itD (eVar 1)) (gN 3) (sSeq (sAsg (gN 4) (eTup (aCons (eCallS m__law_drawn_size [] (aCons (eVar 0) (aCons (eC (.int 4)) aNil))) (aCons (eCallS m__law_drawn_size [] (aCons (eVar 0) (aCons (eC (.int 4)) aNil))) aNil))))
  (sSeq (sIf (e1 asB (e2 dEq (e2 dIx (eVarW 3) (eC (.int 2))) (eC (.int 0)))) (sAsg (gN 4) (e2 dIx (eVarW 3) (eC (.int 5)))) sSkip)
  (sSeq (sIf (e1 asB (e2 dIsnt (e2 dIx (eVarW 3) (eC (.int 3))) (eC .non))) (sAsg (gN 4) (eCall m__law_spot_times [] (aCons (eCall m__law_spot_of [] (aCons (e2 dIx (eVarW 3) (eC (.int 3))) aNil)) (aCons (e2 dIx (eVarW 4) (eC (.int 0))) aNil)))) sSkip)
  (sApp 2 (e2 dAdd (e3 dCutA (eVarW 3) oNone (oSome (eC (.int 5)))) (eTup (aCons (eVar 4) aNil))))))))
  (sFrz 2 (sRet (e1 fTup (aCons (eVarW 2) aNil))))))
def m__law_anew : List D → Dk → Res Dk D := runB 5 b__law_anew
def b__law_any : MS Dk :=
  (sSeq (sAsg (gN 2) (eCallS m__law_take [] (aCons (eVar 0) (aCons (e2 dSub (e1 fLen (aCons (eVarW 1) aNil)) (eC (.int 1))) aNil))))
  (sSeq (sAsg (gN 3) (e2 dIx (eVarW 1) (e2 dAdd (e2 dAdd (eVarW 2) (eC (.int 1))) (eCallS m__law_take [] (aCons (eVar 0) (aCons (e2 dSub (e2 dSub (e1 fLen (aCons (eVarW 1) aNil)) (eC (.int 1))) (eVarW 2)) aNil))))))
  (sSeq (sAsg (gN 4) (e2 dIx (eLst (e1 lim (aCons (eC (.int 1)) (aCons (e2 dPow (eC (.int 10)) (eC (.int 39))) aNil)))) (e1 fIntA (aCons (e2 dEq (eCallS m__law_take [] (aCons (eVar 0) (aCons (eC (.int 3)) aNil))) (eC (.int 0))) aNil))))
  (sSeq (sAsg (gN 5) (e2 dAdd (e2 dMulI (eCallS m__law_signed [] (aCons (eVar 0) (aCons (eC (.int 9)) aNil))) (eVarW 4)) (eCallS m__law_signed [] (aCons (eVar 0) (aCons (eC (.int 9)) aNil)))))
  (sSeq (sAsg (gN 6) (e2 dAdd (e2 dMulI (eCallS m__law_signed [] (aCons (eVar 0) (aCons (eC (.int 9)) aNil))) (eVarW 4)) (eCallS m__law_signed [] (aCons (eVar 0) (aCons (eC (.int 7)) aNil)))))
  (sSeq (sAsg (gN 7) (e1 fMax2 (aCons (eC (.int 1)) (aCons (eCall m__law_gcd [] (aCons (eVar 5) (aCons (eVar 6) aNil))) aNil))))
  (sSeq (sAsg (gN 8) (e2 dIx (eLst (e1 lim (aCons (eTup (aCons (e2 dDiv (eVarW 5) (eVarW 7)) (aCons (e2 dDiv (eVarW 6) (eVarW 7)) aNil))) (aCons (eTup (aCons (eC (.int 0)) (aCons (e1 dNeg (eC (.int 1))) aNil))) aNil)))) (e1 fIntA (aCons (eAnd2 (e2 dEq (eVarW 5) (eC (.int 0))) (e2 dEq (eVarW 6) (eC (.int 0)))) aNil))))
  (sRet (eTup (aCons (e2 dIx (e2 dIx (eVarW 1) (eVarW 2)) (eC (.int 0))) (aCons (e2 dIx (eVarW 3) (eC (.int 0))) (aCons (eVar 8) aNil))))))))))))
def m__law_any : List D → Dk → Res Dk D := runB 9 b__law_any
def b__law_right : MS Unit :=
  (sSeq (sFor (e1 itD (eVar 1)) (gN 2) (sSeq (sAsg (gN 3) (eCall m_parting [] (aCons (eVar 0) (aCons (eVar 2) aNil))))
  (sIf (tOr2 (tNot1 (e1 truth (eCall m__law_is_size [] (aCons (eVar 3) aNil)))) (e1 asB (e2 dNe (eVarW 3) (eCall m__law_fast [] (aCons (eVar 0) (aCons (eVar 2) aNil)))))) (sRet (eC (.bl false))) sSkip)))
  (sSeq (sIf (e1 truth (eCall m__law_closes [] (aCons (eVar 0) (aCons (eVar 1) aNil)))) (sRet (e2 dIsB (eCall m_closing [] (aCons (eVar 0) (aCons (e1 fTup (aCons (eVarW 1) aNil)) aNil))) (eC (.bl true)))) sSkip)
  (sRet (e2 dIsB (eCall m_closing [] (aCons (eVar 0) (aCons (e1 fTup (aCons (eVarW 1) aNil)) aNil))) (eC (.bl false))))))
def m__law_right : List D → Unit → Res Unit D := runB 4 b__law_right
def b_law : MS Dk :=
  (sSeq (sAsg (gN 2) (eCallS m__law_scene [] (aCons (eVar 1) (aCons (eC (.int 4)) aNil))))
  (sSeq (sIf (e1 asB (e2 dLt (e1 fLen (aCons (eVarW 2) aNil)) (eC (.int 2)))) (sAsg (gN 2) (e1 fTup (aCons (eLst (e1 fSortD (aCons (e2 dAdd (eLst (e1 lim (aCons (e2 dAdd (eTup (aCons (eC (.str "again")) (aCons (eTup (aCons (eTup (aCons (eC (.int 0)) (aCons (eC (.int 0)) aNil))) (aCons (eTup (aCons (eC (.int 1)) (aCons (eC (.int 0)) aNil))) (aCons (eTup (aCons (eC (.int 0)) (aCons (eC (.int 1)) aNil))) aNil)))) (aCons (eC (.int 2)) (aCons (eC .non) aNil))))) (eTup (aCons (e2 dIx (e2 dIx (eVarW 2) (eC (.int 0))) (eC (.int 4))) (aCons (e2 dIx (e2 dIx (eVarW 2) (eC (.int 0))) (eC (.int 4))) aNil)))) aNil))) (eLst (e1 fLst (aCons (eVarW 2) aNil)))) aNil))) aNil))) sSkip)
  (sSeq (sAsg (gN 3) (eLst (eComp (e1 fRng1 (aCons (e2 dAdd (eC (.int 1)) (eCallS m__law_take [] (aCons (eVar 1) (aCons (eC (.int 6)) aNil)))) aNil)) [6] (gN 6) (fun _ t => .ok true t) (eCallS m__law_any [] (aCons (eVar 1) (aCons (eVar 2) aNil))))))
  (sSeq (sAsg (gN 4) (eLst (eComp (e1 itD (eVar 3)) [7] (gN 7) (e1 asB (e2 dGe (e2 dIx (eCall m__law_fast [] (aCons (eVar 2) (aCons (eVar 7) aNil))) (eC (.int 0))) (eC (.int 0)))) (eVar 7))))
  (sSeq (sIf (tOr2 (e1 asB (e2 dIsntB (eCall m_closing [] (aCons (eVar 2) (aCons (eTup aNil) aNil))) (eC (.bl false)))) (tOr2 (tNot1 (e1 truth (eCall m__law_right [] (aCons (eVar 2) (aCons (eVar 3) aNil))))) (tNot1 (e1 truth (eCall m__law_right [] (aCons (eVar 2) (aCons (eLst (e2 fRep (e3 dCutA (eVarW 3) oNone (oSome (eC (.int 1)))) (eC (.int 2)))) aNil))))))) (sRet (eC (.bl false))) sSkip)
  (sSeq (sAsg (gN 5) (eCallS m__law_anew [] (aCons (eVar 1) (aCons (eVar 2) aNil))))
  (sRet (eAnd2 (eCall m__law_right [] (aCons (eVar 5) (aCons (eVar 3) aNil))) (eAnd2 (eCall m__law_right [] (aCons (eVar 2) (aCons (eVar 4) aNil))) (eCall m__law_right [] (aCons (eVar 2) (aCons (eVar 3) aNil))))))))))))
end MM
end
namespace MM
open PySem PySem.Spec PyProof.Rows L2
theorem fmod_nat (x y : Nat) : Int.fmod (x : Int) (y : Int) = ((x % y : Nat) : Int) := by
  rw [Int.fmod_eq_emod_of_nonneg _ (by omega)]; rfl
theorem gcd_step {x n : Nat} {g : Nat} (h : x.gcd n = g) : n.gcd (x % n) = g := by rw [Nat.gcd_comm, ← Nat.gcd_rec, Nat.gcd_comm]; exact h
theorem cast1 (n : Nat) : ((n : Int) = 1) = (n = 1) := by simp; omega
def isWh : D → Bool
  | .int _ => true
  | _ => false
theorem tyN_dct {ks vs : List D} (h : (tyN (.dct ks vs)).isSome = true) : tyN (.dct ks vs) = some "dict" := by
  have e : tyN (.dct ks vs) = if (ks.all fun k => (keyOf k).isSome) = true then some "dict" else none := rfl
  rw [e] at h ⊢
  split
  · rfl
  · rename_i q
    rw [if_neg q] at h
    cases h
theorem isi_int {d : D} (h : (tyN d).isSome = true) : ∃ a b : Bool, isi d "int" = some a ∧ isi d "bool" = some b ∧ (a && !b) = isWh d := by
  cases d <;> first
    | (cases h; done)
    | exact ⟨_, _, rfl, rfl, rfl⟩
    | exact ⟨false, false, by unfold isi; rw [tyN_dct h]; rfl, by unfold isi; rw [tyN_dct h]; rfl, rfl⟩
def sh : D → Bool
  | .tup [.int a, .int b] => decide (1 ≤ b) && decide (Int.gcd a b = 1)
  | _ => false
def plain1 : D → Bool
  | .tup [x, y] => (tyN x).isSome && (tyN y).isSome
  | d => (tyN d).isSome
theorem isi_tup {d : D} (h : (tyN d).isSome = true) (hn : ∀ xs, d ≠ .tup xs) : isi d "tuple" = some false := by
  cases d <;> first
    | (cases h; done)
    | rfl
    | (unfold isi; rw [tyN_dct h]; rfl)
    | exact absurd rfl (hn _)
theorem isi_tupT {xs : List D} : isi (.tup xs) "tuple" = some true := rfl
theorem fdiv_gcd {g a' : Int} (hg : g ≠ 0) : (g * a').fdiv g = a' := Int.mul_fdiv_cancel_left _ hg
theorem gcd_parts (a b : Int) (hb : b ≠ 0) : ∃ a' b' : Int, a = (Int.gcd a b : Int) * a' ∧ b = (Int.gcd a b : Int) * b' ∧ Int.gcd a' b' = 1 ∧ (0 : Int) < Int.gcd a b := by
  have hg : 0 < Int.gcd a b := Int.gcd_pos_of_ne_zero_right _ hb
  refine ⟨a / (Int.gcd a b : Int), b / (Int.gcd a b : Int), ?_, ?_, ?_, by omega⟩
  · rw [Int.mul_ediv_cancel' (Int.gcd_dvd_left ..)]
  · rw [Int.mul_ediv_cancel' (Int.gcd_dvd_right ..)]
  · exact Int.gcd_ediv_gcd_ediv_gcd hg
theorem fmod_pos {a b : Int} (hb : 1 ≤ b) : 0 ≤ a.fmod b ∧ a.fmod b < b := by
  rw [Int.fmod_eq_emod_of_nonneg _ (by omega)]
  exact ⟨Int.emod_nonneg _ (by omega), Int.emod_lt_of_pos _ (by omega)⟩
def manyOk (m : Int) : Prop := 1 ≤ m ∧ m.natAbs < 2 ^ 8000
theorem many_of {m : Int} (h1 : 1 ≤ m) (h2 : m ≤ 1000000000000) : manyOk m := ⟨h1, Nat.lt_of_lt_of_le (show m.natAbs < 2 ^ 50 by omega) (Nat.pow_le_pow_right (by decide) (by decide))⟩
theorem divisor_ok (a b : Int) : m_divisor [.int a, .int b] () = .ok (.int (Int.gcd a b)) () := by
  apply oE_eq
  unfold m_divisor b_divisor
  simp [Nxt, Nxt]
  refine oS_while (fun n ρ t => ∃ x y : Nat, ρ = [.val (.int x), .val (.int y)] ∧ n = y ∧ Nat.gcd x y = Int.gcd a b) ?_ b.natAbs _ _ ⟨a.natAbs, b.natAbs, rfl, rfl, rfl⟩
  rintro n ρ t ⟨x, y, rfl, rfl, h⟩
  simp [Nxt]
  by_cases hn : n = 0
  · subst hn; left; simp at h; exact ⟨rfl, by rw [h]⟩
  · right
    exact ⟨by omega, hn, x % n, Nat.mod_lt _ (by omega), n, x % n, ⟨rfl, by rw [fmod_nat]⟩, rfl, gcd_step h⟩
/-- a share as data -/
def R (r : Rat) : D := .tup [.int r.num, .int (r.den : Int)]
structure Sz (n : Nat) (r : Rat) : Prop where
  nu : r.num.natAbs < 2 ^ n
  de : r.den < 2 ^ n
theorem Sz.le {n m : Nat} {r : Rat} (h : Sz n r) (hm : n ≤ m) : Sz m r := ⟨Nat.lt_of_lt_of_le h.nu (Nat.pow_le_pow_right (by decide) hm), Nat.lt_of_lt_of_le h.de (Nat.pow_le_pow_right (by decide) hm)⟩
@[simp] theorem R_ix0 {r : Rat} : dIx (R r) (.int 0) = some (.int r.num) := rfl
@[simp] theorem R_ix1 {r : Rat} : dIx (R r) (.int 1) = some (.int (r.den : Int)) := rfl
@[simp] theorem R_gT {r : Rat} {gs : Tgts} {ρ : Rho} : gT gs ρ (R r) = gs ρ [.int r.num, .int (r.den : Int)] := rfl
@[simp] theorem R_len {r : Rat} : fLen [R r] = some (.int 2) := rfl
@[simp] theorem R_it {r : Rat} : itD (R r) = some [.int r.num, .int (r.den : Int)] := rfl
@[simp] theorem R_isT {r : Rat} : fIsi [R r, .ty "tuple"] = some (.bl true) := rfl
@[simp] theorem isi_int_int {i : Int} : fIsi [.int i, .ty "int"] = some (.bl true) := rfl
@[simp] theorem isi_int_bool {i : Int} : fIsi [.int i, .ty "bool"] = some (.bl false) := rfl
theorem R_inj {r s : Rat} : R r = R s ↔ r = s := by
  constructor
  · intro h
    unfold R at h
    injection h with h
    injection h with h1 h2
    injection h2 with h2 _
    injection h1 with h1
    injection h2 with h2
    exact Rat.ext h1 (by omega)
  · intro h; rw [h]
@[simp] theorem R_eq {r s : Rat} : dEq (R r) (R s) = some (.bl (decide (r = s))) := by
  unfold R
  rw [dEq_pair]
  congr 2
  by_cases h : r = s
  · subst h; simp
  · rw [decide_eq_false h]
    by_cases h1 : r.num = s.num
    · by_cases h2 : (r.den : Int) = s.den
      · exact absurd (Rat.ext h1 (by omega)) h
      · rw [decide_eq_false h2, Bool.and_false]
    · rw [decide_eq_false h1, Bool.false_and]
@[simp] theorem R_ne {r s : Rat} : dNe (R r) (R s) = some (.bl (!decide (r = s))) := by
  have h : dEq (R r) (R s) = some (.bl (decide (r = s))) := R_eq
  unfold dEq at h
  unfold dNe
  cases e : eqD (R r) (R s) with
  | none => rw [e] at h; cases h
  | some b =>
    rw [e] at h
    have : b = decide (r = s) := by
      have h' : some (D.bl b) = some (.bl (decide (r = s))) := h
      injection h' with h'
      injection h'
    rw [this]; rfl
theorem R_zero : R 0 = .tup [.int 0, .int 1] := rfl
theorem R_one : R 1 = .tup [.int 1, .int 1] := rfl
theorem den_pos (r : Rat) : (1 : Int) ≤ r.den := by have := r.den_pos; omega
theorem rat_of {a b p q : Int} (hb : b ≠ 0) (hq : 1 ≤ q) (hg : Int.gcd p q = 1) (he : p * b = q * a) : (Rat.divInt a b).num = p ∧ ((Rat.divInt a b).den : Int) = q := by
  have nz : q.natAbs ≠ 0 := by omega
  have e : (Rat.mk' p q.natAbs nz hg) = Rat.divInt a b := by
    rw [← Rat.num_divInt_den (Rat.mk' p q.natAbs nz hg)]
    show Rat.divInt p (q.natAbs : Int) = Rat.divInt a b
    rw [show ((q.natAbs : Nat) : Int) = q by omega, Rat.divInt_eq_divInt_iff (by omega) hb, he, Int.mul_comm]
  rw [← e]
  exact ⟨rfl, by show ((q.natAbs : Nat) : Int) = q; omega⟩
theorem divInt_sz {a b : Int} {n : Nat} (hb : b ≠ 0) (h1 : a.natAbs < 2 ^ n) (h2 : b.natAbs < 2 ^ n) : Sz n (Rat.divInt a b) := by
  obtain ⟨a', b', e1, e2, e3, e4⟩ := gcd_parts a b hb
  have la : a'.natAbs ≤ a.natAbs := by
    conv => rhs; rw [e1]
    rw [Int.natAbs_mul]; exact Nat.le_mul_of_pos_left _ (by omega)
  have lb : b'.natAbs ≤ b.natAbs := by
    conv => rhs; rw [e2]
    rw [Int.natAbs_mul]; exact Nat.le_mul_of_pos_left _ (by omega)
  have b0 : b' ≠ 0 := fun z => hb (by rw [e2, z, Int.mul_zero])
  have cross : a' * b = b' * a := by
    conv => lhs; rw [e2]
    conv => rhs; rw [e1]
    rw [← Int.mul_assoc, ← Int.mul_assoc, Int.mul_comm a', Int.mul_comm b', Int.mul_assoc, Int.mul_assoc, Int.mul_comm a' b']
  rcases Int.lt_or_gt_of_ne b0 with h | h
  · obtain ⟨q1, q2⟩ := rat_of (a := a) (b := b) (p := -a') (q := -b') hb (by omega) (by rw [Int.gcd_neg, Int.neg_gcd]; exact e3) (by rw [Int.neg_mul, Int.neg_mul, cross])
    exact ⟨by rw [q1]; omega, by omega⟩
  · obtain ⟨q1, q2⟩ := rat_of (a := a) (b := b) (p := a') (q := b') hb (by omega) e3 cross
    exact ⟨by rw [q1]; omega, by omega⟩
theorem sz_mul {a b : Int} {n m : Nat} (h1 : a.natAbs < 2 ^ n) (h2 : b.natAbs < 2 ^ m) : (a * b).natAbs < 2 ^ (n + m) := by
  rw [Int.natAbs_mul, Nat.pow_add]
  exact Nat.mul_lt_mul'' h1 h2
theorem sz_add {a b : Int} {n : Nat} (h1 : a.natAbs < 2 ^ n) (h2 : b.natAbs < 2 ^ n) : (a + b).natAbs < 2 ^ (n + 1) := by
  rw [Nat.pow_succ]; omega
theorem sz_sub {a b : Int} {n : Nat} (h1 : a.natAbs < 2 ^ n) (h2 : b.natAbs < 2 ^ n) : (a - b).natAbs < 2 ^ (n + 1) := by
  rw [Nat.pow_succ]; omega
theorem Sz.den {n : Nat} {r : Rat} (h : Sz n r) : (r.den : Int).natAbs < 2 ^ n := h.de
@[simp] theorem R_plain {r : Rat} {i : Int} : atI [D.int r.num, D.int (r.den : Int)] 0 = some (.int r.num) := rfl
theorem max_eq (i j : Int) : (if j > i then j else i) = max i j := by omega
@[simp] theorem fMax2_int {i j : Int} : fMax2 [.int i, .int j] = some (.int (max i j)) := by show some (D.int (if j > i then j else i)) = _; rw [max_eq]
theorem min_eq (i j : Int) : (if j < i then j else i) = min i j := by omega
@[simp] theorem fMin2_int {i j : Int} : fMin2 [.int i, .int j] = some (.int (min i j)) := by show some (D.int (if j < i then j else i)) = _; rw [min_eq]
theorem den_mul_ne (r s : Rat) : (r.den : Int) * s.den ≠ 0 := by
  have := r.den_pos; have := s.den_pos
  intro z
  rcases Int.mul_eq_zero.mp z with h | h <;> omega
theorem add_divInt (r s : Rat) : r + s = Rat.divInt (r.num * s.den + s.num * r.den) (r.den * s.den) := by
  conv => lhs; rw [← Rat.num_divInt_den r, ← Rat.num_divInt_den s]
  rw [Rat.divInt_add_divInt _ _ (by have := r.den_pos; omega) (by have := s.den_pos; omega)]
theorem sub_divInt (r s : Rat) : r - s = Rat.divInt (r.num * s.den - s.num * r.den) (r.den * s.den) := by
  conv => lhs; rw [← Rat.num_divInt_den r, ← Rat.num_divInt_den s]
  rw [Rat.divInt_sub_divInt _ _ (by have := r.den_pos; omega) (by have := s.den_pos; omega)]
theorem mul_divInt (r s : Rat) : r * s = Rat.divInt (r.num * s.num) (r.den * s.den) := by
  conv => lhs; rw [← Rat.num_divInt_den r, ← Rat.num_divInt_den s]
  rw [Rat.divInt_mul_divInt]
theorem num_ne {s : Rat} (h : s ≠ 0) : s.num ≠ 0 := fun z => h (Rat.num_eq_zero.mp z)
theorem div_divInt (r s : Rat) : r / s = Rat.divInt (r.num * s.den) (r.den * s.num) := by
  conv => lhs; rw [← Rat.num_divInt_den r, ← Rat.num_divInt_den s]
  rw [Rat.div_def, Rat.inv_divInt, Rat.divInt_mul_divInt]
theorem den_num_ne (r : Rat) {s : Rat} (h : s ≠ 0) : (r.den : Int) * s.num ≠ 0 := fun z => by
  rcases Int.mul_eq_zero.mp z with h' | h'
  · have := r.den_pos; omega
  · exact num_ne h h'
theorem Sz.add {n m : Nat} {r s : Rat} (h1 : Sz n r) (h2 : Sz m s) : Sz (n + m + 1) (r + s) := by
  rw [add_divInt]
  refine divInt_sz (den_mul_ne r s) (sz_add (sz_mul h1.nu h2.den) ?_) (Nat.lt_of_lt_of_le (sz_mul h1.den h2.den) (Nat.pow_le_pow_right (by decide) (by omega)))
  rw [Nat.add_comm n m]; exact sz_mul h2.nu h1.den
theorem Sz.sub {n m : Nat} {r s : Rat} (h1 : Sz n r) (h2 : Sz m s) : Sz (n + m + 1) (r - s) := by
  rw [sub_divInt]
  refine divInt_sz (den_mul_ne r s) (sz_sub (sz_mul h1.nu h2.den) ?_) (Nat.lt_of_lt_of_le (sz_mul h1.den h2.den) (Nat.pow_le_pow_right (by decide) (by omega)))
  rw [Nat.add_comm n m]; exact sz_mul h2.nu h1.den
theorem Sz.mul {n m : Nat} {r s : Rat} (h1 : Sz n r) (h2 : Sz m s) : Sz (n + m) (r * s) := by
  rw [mul_divInt]
  exact divInt_sz (den_mul_ne r s) (sz_mul h1.nu h2.nu) (sz_mul h1.den h2.den)
theorem Sz.div {n m : Nat} {r s : Rat} (h0 : s ≠ 0) (h1 : Sz n r) (h2 : Sz m s) : Sz (n + m) (r / s) := by
  rw [div_divInt]
  exact divInt_sz (den_num_ne r h0) (sz_mul h1.nu h2.den) (sz_mul h1.den h2.nu)
theorem Sz.neg {n : Nat} {r : Rat} (h : Sz n r) : Sz n (-r) := ⟨by show (-r.num).natAbs < _; rw [Int.natAbs_neg]; exact h.nu, h.de⟩
theorem R_neg (r : Rat) : D.tup [.int (-r.num), .int (r.den : Int)] = R (-r) := rfl
theorem share_no (a : Int) : m_share [.int a, .int 0] () = .ex "NoShare" none () := by
  apply oE_eqx
  unfold m_share b_share
  simp [Nxt, Nxt]
theorem share_ok (a b : Int) (hb : b ≠ 0) (hs : b.natAbs < 2 ^ 8000) : ∃ p q : Int, m_share [.int a, .int b] () = .ok (.tup [.int p, .int q]) () ∧ 1 ≤ q ∧ Int.gcd p q = 1 ∧ p * b = q * a ∧ p.natAbs ≤ a.natAbs ∧ q.natAbs ≤ b.natAbs := by
  obtain ⟨a', b', e1, e2, e3, e4⟩ := gcd_parts a b hb
  have sg : (Int.gcd a b : Int).natAbs < 2 ^ 8000 := by
    have : Int.gcd a b ≤ b.natAbs := Int.gcd_le_natAbs_right _ (by omega)
    omega
  have gz : (Int.gcd a b : Int) ≠ 0 := by omega
  generalize hgg : (Int.gcd a b : Int) = g at *
  have da : a.fdiv g = a' := by rw [e1]; exact fdiv_gcd gz
  have db : b.fdiv g = b' := by rw [e2]; exact fdiv_gcd gz
  have dna : a.fdiv (-g) = -a' := by rw [e1, show g * a' = (-g) * (-a') by rw [Int.neg_mul_neg]]; exact fdiv_gcd (by omega)
  have dnb : b.fdiv (-g) = -b' := by rw [e2, show g * b' = (-g) * (-b') by rw [Int.neg_mul_neg]]; exact fdiv_gcd (by omega)
  have o1 : ∀ x, divOk x g = true := fun x => small_div gz sg (by decide) (by decide)
  have o2 : ∀ x, divOk x (-g) = true := fun x => small_div (by omega) (by rw [Int.natAbs_neg]; exact sg) (by decide) (by decide)
  have run : oE (m_share [.int a, .int b] ()) (fun d _ => d = if b < 0 then .tup [.int (-a'), .int (-b')] else .tup [.int a', .int b']) (fun _ _ _ => False) := by
    unfold m_share b_share
    simp [Nxt, hb, divisor_ok, hgg, da, db, dna, dnb, o1, o2]
    by_cases h : b < 0
    · right; exact ⟨h, fun z => absurd h (by omega)⟩
    · left; exact ⟨by omega, fun z => absurd z h⟩
  have bpos : b < 0 ↔ b' < 0 := by
    rw [e2]
    constructor
    · intro h
      apply Classical.byContradiction
      intro z
      have := Int.mul_nonneg (Int.le_of_lt e4) (show 0 ≤ b' by omega)
      omega
    · intro h
      have := Int.mul_neg_of_pos_of_neg e4 h
      omega
  have b0 : b' ≠ 0 := fun z => hb (by rw [e2, z, Int.mul_zero])
  have cross : a' * b = b' * a := by
    rw [e1, e2]
    rw [← Int.mul_assoc, ← Int.mul_assoc, Int.mul_comm a' g, Int.mul_comm b' g, Int.mul_assoc, Int.mul_assoc, Int.mul_comm a' b']
  have la : a'.natAbs ≤ a.natAbs := by rw [e1, Int.natAbs_mul]; exact Nat.le_mul_of_pos_left _ (by omega)
  have lb : b'.natAbs ≤ b.natAbs := by rw [e2, Int.natAbs_mul]; exact Nat.le_mul_of_pos_left _ (by omega)
  by_cases h : b < 0
  · refine ⟨-a', -b', oE_eq (oE_imp run (fun d t e => ⟨by rw [e, if_pos h], rfl⟩) fun _ _ _ z => z), by have := bpos.mp h; omega, by rw [Int.gcd_neg, Int.neg_gcd]; exact e3, by rw [Int.neg_mul, Int.neg_mul, cross], by rw [Int.natAbs_neg]; exact la, by rw [Int.natAbs_neg]; exact lb⟩
  · exact ⟨a', b', oE_eq (oE_imp run (fun d t e => ⟨by rw [e, if_neg h], rfl⟩) fun _ _ _ z => z), by
      have : ¬ b' < 0 := fun z => h (bpos.mpr z)
      omega, e3, cross, la, lb⟩

theorem share_one (a : Int) : m_share [.int a, .int 1] () = .ok (.tup [.int a, .int 1]) () := by
  obtain ⟨p, q, e, h1, h2, h3, _, _⟩ := share_ok a 1 (by decide) (by decide)
  rw [e]
  have : p = q * a := by omega
  have hq : Int.gcd p q = q.natAbs := by
    rw [this, Int.mul_comm]
    exact Int.gcd_mul_left_left ..
  have : q = 1 := by omega
  subst this
  rw [show p = a by omega]
theorem share_R {a b : Int} (hb : b ≠ 0) (hs : b.natAbs < 2 ^ 8000) : m_share [.int a, .int b] () = .ok (R (Rat.divInt a b)) () := by
  obtain ⟨p, q, e, h1, h2, h3, _, _⟩ := share_ok a b hb hs
  obtain ⟨e1, e2⟩ := rat_of hb h1 h2 h3
  rw [e]
  unfold R
  rw [e1, e2]
theorem mulOk_sz {a b : Int} {n m : Nat} (h1 : a.natAbs < 2 ^ n) (h2 : b.natAbs < 2 ^ m) (h : n + m ≤ 8000) : mulOk a b = true :=
  small_mul (a := n + 1) (b := m + 1) (Nat.lt_of_lt_of_le h1 (Nat.pow_le_pow_right (by decide) (by omega))) (Nat.lt_of_lt_of_le h2 (Nat.pow_le_pow_right (by decide) (by omega))) (by omega) (by omega) (by omega)
theorem up8 {x n : Nat} (h : x < 2 ^ n) (hn : n ≤ 8000) : x < 2 ^ 8000 := Nat.lt_of_lt_of_le h (Nat.pow_le_pow_right (by decide) hn)
/-- a spot, a way as data -/
def S2 (x y : Rat) : D := .tup [R x, R y]
def Wy (p q : Int) : D := .tup [.int p, .int q]
@[simp] theorem S2_ix0 {x y : Rat} : dIx (S2 x y) (.int 0) = some (R x) := rfl
@[simp] theorem S2_ix1 {x y : Rat} : dIx (S2 x y) (.int 1) = some (R y) := rfl
@[simp] theorem S2_gT {x y : Rat} {gs : Tgts} {ρ : Rho} : gT gs ρ (S2 x y) = gs ρ [R x, R y] := rfl
@[simp] theorem Wy_ix0 {p q : Int} : dIx (Wy p q) (.int 0) = some (.int p) := rfl
@[simp] theorem Wy_ix1 {p q : Int} : dIx (Wy p q) (.int 1) = some (.int q) := rfl
@[simp] theorem Wy_gT {p q : Int} {gs : Tgts} {ρ : Rho} : gT gs ρ (Wy p q) = gs ρ [.int p, .int q] := rfl
theorem int_eq_R (p : Int) : (p : Rat) = Rat.divInt p 1 := (Rat.num_divInt_den (p : Rat)).symm
theorem along_divInt (p q : Int) (x y : Rat) : (p : Rat) * x + (q : Rat) * y = Rat.divInt (p * x.num * y.den + q * y.num * x.den) (x.den * y.den) := by
  have e1 : (p : Rat) * x = Rat.divInt (p * x.num) x.den := by
    conv => lhs; rw [← Rat.num_divInt_den x]
    rw [int_eq_R, Rat.divInt_mul_divInt, Int.one_mul]
  have e2 : (q : Rat) * y = Rat.divInt (q * y.num) y.den := by
    conv => lhs; rw [← Rat.num_divInt_den y]
    rw [int_eq_R, Rat.divInt_mul_divInt, Int.one_mul]
  rw [e1, e2, Rat.divInt_add_divInt _ _ (by have := x.den_pos; omega) (by have := y.den_pos; omega)]
theorem Sz.int {p : Int} {n : Nat} (h : p.natAbs < 2 ^ n) (h0 : 1 ≤ n) : Sz n (p : Rat) := ⟨h, by show 1 < 2 ^ n; exact Nat.one_lt_two_pow (by omega)⟩
theorem R_int (p : Int) : D.tup [.int p, .int 1] = R (p : Rat) := rfl
@[simp] theorem atI_0 {α : Type} {x : α} {xs : List α} : atI (x :: xs) 0 = some x := atI_nat (j := 0) rfl
@[simp] theorem atI_1 {α : Type} {x y : α} {xs : List α} : atI (x :: y :: xs) 1 = some y := atI_nat (j := 1) rfl
@[simp] theorem atI_2 {α : Type} {x y z : α} {xs : List α} : atI (x :: y :: z :: xs) 2 = some z := atI_nat (j := 2) rfl
@[simp] theorem atI_3 {α : Type} {x y z u : α} {xs : List α} : atI (x :: y :: z :: u :: xs) 3 = some u := atI_nat (j := 3) rfl
@[simp] theorem atI_4 {α : Type} {x y z u v : α} {xs : List α} : atI (x :: y :: z :: u :: v :: xs) 4 = some v := atI_nat (j := 4) rfl
@[simp] theorem atI_5 {α : Type} {x y z u v w : α} {xs : List α} : atI (x :: y :: z :: u :: v :: w :: xs) 5 = some w := atI_nat (j := 5) rfl
theorem minus_R {r s : Rat} {n m : Nat} (h1 : Sz n r) (h2 : Sz m s) (h : n + m + 1 ≤ 8000) : m_minus [R r, R s] () = .ok (R (r - s)) () := by
  apply oE_eq
  unfold m_minus b_minus
  simp
  rw [share_R (den_mul_ne r s) (up8 (sz_mul h1.den h2.den) (by omega)), ← sub_divInt]
  exact ⟨mulOk_sz h1.nu h2.den (by omega), mulOk_sz h2.nu h1.den (by omega), mulOk_sz h1.den h2.den (by omega), rfl⟩
theorem along_R {p q : Int} {x y : Rat} {n m k : Nat} (hp : p.natAbs < 2 ^ n) (hq : q.natAbs < 2 ^ n) (hx : Sz m x) (hy : Sz k y) (h : n + m + k ≤ 8000) : m_along [Wy p q, S2 x y] () = .ok (R ((p : Rat) * x + (q : Rat) * y)) () := by
  apply oE_eq
  unfold m_along b_along
  simp
  unfold Nxt
  simp
  rw [share_R (den_mul_ne x y) (up8 (sz_mul hx.den hy.den) (by omega)), ← along_divInt]
  exact ⟨mulOk_sz hp hx.nu (by omega), mulOk_sz (sz_mul hp hx.nu) hy.den (by omega), mulOk_sz hq hy.nu (by omega), mulOk_sz (sz_mul hq hy.nu) hx.den (by omega), mulOk_sz hx.den hy.den (by omega), rfl⟩
theorem spot_minus_R {a b c d : Rat} {n m : Nat} (ha : Sz n a) (hb : Sz n b) (hc : Sz m c) (hd : Sz m d) (h : n + m + 1 ≤ 8000) : m_spot_minus [S2 a b, S2 c d] () = .ok (S2 (a - c) (b - d)) () := by
  apply oE_eq
  unfold m_spot_minus b_spot_minus S2
  simp [zipD, oE_compCons, oE_compNil, wipeR, noOwn, minus_R ha hc h, minus_R hb hd h]
/-- sizes of top and bottom apart -/
structure Sd (n d : Nat) (r : Rat) : Prop where
  nu : r.num.natAbs < 2 ^ n
  de : r.den < 2 ^ d
theorem Sz.sd {n : Nat} {r : Rat} (h : Sz n r) : Sd n n r := ⟨h.nu, h.de⟩
theorem Sd.le {n d n' d' : Nat} {r : Rat} (h : Sd n d r) (hn : n ≤ n') (hd : d ≤ d') : Sd n' d' r := ⟨Nat.lt_of_lt_of_le h.nu (Nat.pow_le_pow_right (by decide) hn), Nat.lt_of_lt_of_le h.de (Nat.pow_le_pow_right (by decide) hd)⟩
theorem Sd.den {n d : Nat} {r : Rat} (h : Sd n d r) : (r.den : Int).natAbs < 2 ^ d := h.de
theorem Sd.int {p : Int} {n : Nat} (h : p.natAbs < 2 ^ n) : Sd n 1 (p : Rat) := ⟨h, by show 1 < 2 ^ 1; decide⟩
theorem Sd.zero : Sd 0 1 0 := ⟨by decide, by decide⟩
theorem Sd.neg {n d : Nat} {r : Rat} (h : Sd n d r) : Sd n d (-r) := ⟨by show (-r.num).natAbs < _; rw [Int.natAbs_neg]; exact h.nu, h.de⟩
theorem mulW {a b : Int} {n m : Nat} (h1 : a.natAbs < 2 ^ n) (h2 : b.natAbs < 2 ^ m) (h : n + m ≤ 900000) : mulOk a b = true :=
  small_mul (a := n + 1) (b := m + 1) (Nat.lt_of_lt_of_le h1 (Nat.pow_le_pow_right (by decide) (by omega))) (Nat.lt_of_lt_of_le h2 (Nat.pow_le_pow_right (by decide) (by omega))) (by omega) (by omega) (by omega)
theorem divInt_sd {a b : Int} {n d : Nat} (hb : b ≠ 0) (h1 : a.natAbs < 2 ^ n) (h2 : b.natAbs < 2 ^ d) : Sd n d (Rat.divInt a b) := by
  obtain ⟨a', b', e1, e2, e3, e4⟩ := gcd_parts a b hb
  have la : a'.natAbs ≤ a.natAbs := by
    conv => rhs; rw [e1]
    rw [Int.natAbs_mul]; exact Nat.le_mul_of_pos_left _ (by omega)
  have lb : b'.natAbs ≤ b.natAbs := by
    conv => rhs; rw [e2]
    rw [Int.natAbs_mul]; exact Nat.le_mul_of_pos_left _ (by omega)
  have b0 : b' ≠ 0 := fun z => hb (by rw [e2, z, Int.mul_zero])
  have cross : a' * b = b' * a := by
    conv => lhs; rw [e2]
    conv => rhs; rw [e1]
    rw [← Int.mul_assoc, ← Int.mul_assoc, Int.mul_comm a', Int.mul_comm b', Int.mul_assoc, Int.mul_assoc, Int.mul_comm a' b']
  rcases Int.lt_or_gt_of_ne b0 with h | h
  · obtain ⟨q1, q2⟩ := rat_of (a := a) (b := b) (p := -a') (q := -b') hb (by omega) (by rw [Int.gcd_neg, Int.neg_gcd]; exact e3) (by rw [Int.neg_mul, Int.neg_mul, cross])
    exact ⟨by rw [q1]; omega, by omega⟩
  · obtain ⟨q1, q2⟩ := rat_of (a := a) (b := b) (p := a') (q := b') hb (by omega) e3 cross
    exact ⟨by rw [q1]; omega, by omega⟩
theorem lt_up {x n m : Nat} (h : x < 2 ^ n) (hm : n ≤ m) : x < 2 ^ m := Nat.lt_of_lt_of_le h (Nat.pow_le_pow_right (by decide) hm)
theorem sz_mulN {a b : Int} {n m N : Nat} (h1 : a.natAbs < 2 ^ n) (h2 : b.natAbs < 2 ^ m) (h : n + m ≤ N) : (a * b).natAbs < 2 ^ N := lt_up (sz_mul h1 h2) h
theorem Sd.add {n d m e N M : Nat} {r s : Rat} (h1 : Sd n d r) (h2 : Sd m e s) (hN : n + e < N) (hN' : m + d < N) (hM : d + e ≤ M) : Sd N M (r + s) := by
  rw [add_divInt]
  obtain ⟨N, rfl⟩ : ∃ k, N = k + 1 := ⟨N - 1, by omega⟩
  exact divInt_sd (den_mul_ne r s) (sz_add (sz_mulN h1.nu h2.den (by omega)) (sz_mulN h2.nu h1.den (by omega))) (sz_mulN h1.den h2.den hM)
theorem Sd.sub {n d m e N M : Nat} {r s : Rat} (h1 : Sd n d r) (h2 : Sd m e s) (hN : n + e < N) (hN' : m + d < N) (hM : d + e ≤ M) : Sd N M (r - s) := by
  rw [sub_divInt]
  obtain ⟨N, rfl⟩ : ∃ k, N = k + 1 := ⟨N - 1, by omega⟩
  exact divInt_sd (den_mul_ne r s) (sz_sub (sz_mulN h1.nu h2.den (by omega)) (sz_mulN h2.nu h1.den (by omega))) (sz_mulN h1.den h2.den hM)
theorem Sd.mul {n d m e : Nat} {r s : Rat} (h1 : Sd n d r) (h2 : Sd m e s) : Sd (n + m) (d + e) (r * s) := by
  rw [mul_divInt]
  exact divInt_sd (den_mul_ne r s) (sz_mul h1.nu h2.nu) (sz_mul h1.den h2.den)
theorem Sd.div {n d m e : Nat} {r s : Rat} (h0 : s ≠ 0) (h1 : Sd n d r) (h2 : Sd m e s) : Sd (n + e) (d + m) (r / s) := by
  rw [div_divInt]
  exact divInt_sd (den_num_ne r h0) (sz_mul h1.nu h2.den) (sz_mul h1.den h2.nu)
theorem minus_S {n d m e : Nat} {r s : Rat} (h1 : Sd n d r) (h2 : Sd m e s) (h : n + e + m + d ≤ 900000) (hd : d + e ≤ 8000) : m_minus [R r, R s] () = .ok (R (r - s)) () := by
  apply oE_eq
  unfold m_minus b_minus
  simp
  rw [share_R (den_mul_ne r s) (sz_mulN h1.den h2.den hd), ← sub_divInt]
  exact ⟨mulW h1.nu h2.den (by omega), mulW h2.nu h1.den (by omega), mulW h1.den h2.den (by omega), rfl⟩
theorem along_S {p q : Int} {x y : Rat} {k n d m e : Nat} (hp : p.natAbs < 2 ^ k) (hq : q.natAbs < 2 ^ k) (hx : Sd n d x) (hy : Sd m e y) (h : k + n + d + m + e ≤ 900000) (hd : d + e ≤ 8000) : m_along [Wy p q, S2 x y] () = .ok (R ((p : Rat) * x + (q : Rat) * y)) () := by
  apply oE_eq
  unfold m_along b_along
  simp
  unfold Nxt
  simp
  rw [share_R (den_mul_ne x y) (sz_mulN hx.den hy.den hd), ← along_divInt]
  exact ⟨mulW hp hx.nu (by omega), mulW (sz_mul hp hx.nu) hy.den (by omega), mulW hq hy.nu (by omega), mulW (sz_mul hq hy.nu) hx.den (by omega), mulW hx.den hy.den (by omega), rfl⟩
theorem Sd.along {p q : Int} {x y : Rat} {k n d m e N M : Nat} (hp : p.natAbs < 2 ^ k) (hq : q.natAbs < 2 ^ k) (hx : Sd n d x) (hy : Sd m e y) (hN : k + n + e < N) (hN' : k + m + d < N) (hM : d + e ≤ M) : Sd N M ((p : Rat) * x + (q : Rat) * y) := by
  rw [along_divInt]
  obtain ⟨N, rfl⟩ : ∃ k, N = k + 1 := ⟨N - 1, by omega⟩
  exact divInt_sd (den_mul_ne x y) (sz_add (sz_mulN (sz_mul hp hx.nu) hy.den (by omega)) (sz_mulN (sz_mul hq hy.nu) hx.den (by omega))) (sz_mulN hx.den hy.den hM)
theorem spot_minus_S {a b c d : Rat} {n e m f : Nat} (ha : Sd n e a) (hb : Sd n e b) (hc : Sd m f c) (hd : Sd m f d) (h : n + f + m + e ≤ 900000) (h' : e + f ≤ 8000) : m_spot_minus [S2 a b, S2 c d] () = .ok (S2 (a - c) (b - d)) () := by
  apply oE_eq
  unfold m_spot_minus b_spot_minus S2
  simp [zipD, oE_compCons, oE_compNil, wipeR, noOwn, minus_S ha hc h h', minus_S hb hd h h']
theorem eq_cross {r s : Rat} : r = s ↔ r.num * s.den = s.num * r.den := by
  have h1 := r.den_pos
  have h2 := s.den_pos
  constructor
  · intro h; subst h; rfl
  · intro h
    rw [← Rat.num_divInt_den r, ← Rat.num_divInt_den s, Rat.divInt_eq_divInt_iff (by omega) (by omega)]
    exact h
def cmpR (r s : Rat) : Int := if r = s then 0 else if r < s then -1 else 1
theorem cmpR_neg {r s : Rat} : cmpR r s < 0 ↔ r < s := by
  unfold cmpR
  by_cases e : r = s
  · rw [if_pos e, e]; exact ⟨fun z => by omega, fun z => absurd z (Rat.not_lt.mpr Rat.le_refl)⟩
  · rw [if_neg e]
    by_cases l : r < s
    · rw [if_pos l]; exact ⟨fun _ => l, fun _ => by decide⟩
    · rw [if_neg l]; exact ⟨fun z => by omega, fun z => absurd z l⟩
theorem cmpR_pos {r s : Rat} : 0 < cmpR r s ↔ s < r := by
  unfold cmpR
  by_cases e : r = s
  · rw [if_pos e, e]; exact ⟨fun z => by omega, fun z => absurd z (Rat.not_lt.mpr Rat.le_refl)⟩
  · rw [if_neg e]
    by_cases l : r < s
    · rw [if_pos l]; exact ⟨fun z => by omega, fun z => by grind⟩
    · rw [if_neg l]; exact ⟨fun z => by grind, fun _ => by decide⟩
theorem num_neg' {q : Rat} : q.num < 0 ↔ q < 0 := by
  have := Rat.num_nonneg (q := q)
  constructor
  · intro h; exact Rat.not_le.mp fun z => by have := this.mpr z; omega
  · intro h
    apply Classical.byContradiction
    intro n
    exact absurd (this.mp (by omega)) (Rat.not_le.mpr h)
theorem num_pos' {q : Rat} : 0 < q.num ↔ 0 < q := by
  have h1 := Rat.num_nonneg (q := q)
  have h2 := Rat.num_eq_zero (q := q)
  constructor
  · intro h
    have := h1.mp (by omega)
    have : q ≠ 0 := fun z => by rw [z] at h; exact absurd h (by decide)
    grind
  · intro h
    have := h1.mpr (Rat.le_of_lt h)
    have : q.num ≠ 0 := fun z => by rw [h2.mp z] at h; exact absurd h (Rat.not_lt.mpr Rat.le_refl)
    omega
theorem order_S {r s : Rat} {n d m e : Nat} (h1 : Sd n d r) (h2 : Sd m e s) (h : n + e + m + d ≤ 900000) : m_order [R r, R s] () = .ok (.int (cmpR r s)) () := by
  apply oE_eq
  unfold m_order b_order
  simp [Nxt, mulW h1.nu h2.den (by omega), mulW h2.nu h1.den (by omega), ← eq_cross, ← Rat.lt_iff]
  unfold cmpR
  by_cases e : r = s
  · simp [e]
  · by_cases l : r < s
    · simp [e, l]
    · simp [e, l]
/-- place by place -/
inductive Pw {α β : Type} (p : α → β → Prop) : List α → List β → Prop
  | nil : Pw p [] []
  | cons {x : α} {y : β} {xs : List α} {ys : List β} : p x y → Pw p xs ys → Pw p (x :: xs) (y :: ys)
theorem Pw.len {α β : Type} {p : α → β → Prop} : ∀ {xs : List α} {ys : List β}, Pw p xs ys → xs.length = ys.length
  | _, _, .nil => rfl
  | _, _, .cons _ t => congrArg (· + 1) t.len
theorem Pw.right {α β : Type} {p : α → β → Prop} : ∀ {xs : List α} {ys : List β}, Pw p xs ys → ∀ y ∈ ys, ∃ x ∈ xs, p x y
  | _, _, .cons h t, y, hy => by
    rcases List.mem_cons.mp hy with rfl | hy
    · exact ⟨_, List.mem_cons_self, h⟩
    · obtain ⟨x, hx, hp⟩ := t.right y hy
      exact ⟨x, List.mem_cons_of_mem _ hx, hp⟩
theorem Pw.mono {α β : Type} {p q : α → β → Prop} (h : ∀ x y, p x y → q x y) : ∀ {xs : List α} {ys : List β}, Pw p xs ys → Pw q xs ys
  | _, _, .nil => .nil
  | _, _, .cons a t => .cons (h _ _ a) (t.mono h)
/-- small letters alone, at most n -/
structure Nm (n : Nat) (x : Str) : Prop where
  lt : ∀ c ∈ x.cps.toList, 97 ≤ c ∧ c ≤ 122
  le : x.length ≤ n
theorem str_len (x : Str) : x.length = x.cps.toList.length := by show x.cps.size = _; simp
theorem Nm.mono {n m : Nat} {x : Str} (h : Nm n x) (hm : n ≤ m) : Nm m x := ⟨h.lt, Nat.le_trans h.le hm⟩
theorem Nm.ok {n : Nat} {x : Str} (h : Nm n x) : PyData.canLay0 (.str x) = true := by
  show (x.cps.all fun c => decide (c < 1114112)) = true
  rw [← Array.all_toList, List.all_eq_true]
  intro c hc
  have := h.lt c hc
  exact decide_eq_true (by omega)
theorem Nm.app {n m : Nat} {x y : Str} (h : Nm n x) (h2 : Nm m y) : Nm (n + m) (x ++ y) := by
  have e : (x ++ y).cps.toList = x.cps.toList ++ y.cps.toList := TL.tl_append x y
  refine ⟨fun c hc => ?_, ?_⟩
  · rw [e] at hc
    rcases List.mem_append.mp hc with q | q
    · exact h.lt c q
    · exact h2.lt c q
  · have a := h.le; have b := h2.le
    rw [str_len] at *
    rw [e, List.length_append]; omega
theorem Nm.cut {n : Nat} {x : Str} (h : Nm n x) (lo hi : Option Int) : Nm n (cutS x lo hi) := by
  have e : (cutS x lo hi).cps.toList = ((x.cps.toList.drop (HT.sIx x.length 0 lo)).take (HT.sIx x.length x.length hi - HT.sIx x.length 0 lo)) := by unfold cutS; simp
  refine ⟨fun c hc => ?_, ?_⟩
  · rw [e] at hc; exact h.lt c (List.mem_of_mem_drop (List.mem_of_mem_take hc))
  · have a := h.le
    rw [str_len] at *
    rw [e, List.length_take, List.length_drop]; omega
theorem Nm.nil : Nm 0 ⟨#[]⟩ := ⟨fun c hc => (nomatch hc), Nat.le_refl _⟩
theorem nm_join {n : Nat} : ∀ ys : List Str, (∀ y ∈ ys, Nm n y) → Nm (n * ys.length) (Txt.join "" ys) := fun ys h => by
  rw [TL.join_eq]
  have key : ∀ ys : List Str, (∀ y ∈ ys, Nm n y) → (∀ c ∈ TL.joinL [] (ys.map TL.tl), 97 ≤ c ∧ c ≤ 122) ∧ (TL.joinL [] (ys.map TL.tl)).length ≤ n * ys.length := by
    intro ys
    induction ys with
    | nil => intro _; exact ⟨fun c hc => (nomatch hc), Nat.le_refl _⟩
    | cons y r ih =>
      intro h
      have h1 := h y List.mem_cons_self
      have ih := ih fun z hz => h z (List.mem_cons_of_mem _ hz)
      have e : TL.joinL [] ((y :: r).map TL.tl) = TL.tl y ++ TL.joinL [] (r.map TL.tl) := by
        cases r with
        | nil => simp [TL.joinL]
        | cons z r => simp [TL.joinL]
      rw [e]
      refine ⟨fun c hc => ?_, ?_⟩
      · rcases List.mem_append.mp hc with q | q
        · exact h1.lt c q
        · exact ih.1 c q
      · rw [List.length_append, List.length_cons, Nat.mul_add, Nat.mul_one]
        have := h1.le
        rw [str_len] at this
        have : (TL.tl y).length ≤ n := this
        have := ih.2
        omega
  have e : (Str.join "" ys).cps.toList = TL.joinL [] (ys.map TL.tl) := TL.tl_join "" ys
  obtain ⟨k1, k2⟩ := key ys h
  exact ⟨fun c hc => k1 c (by rw [← e]; exact hc), by rw [str_len, e]; exact k2⟩
theorem letter_at {k : Int} (h0 : 0 ≤ k) (h1 : k < 26) : ∃ z, dIx (.str "abcdefghijklmnopqrstuvwxyz") (.int k) = some (.str z) ∧ Nm 1 z := by
  obtain ⟨j, rfl⟩ : ∃ j : Nat, k = (j : Int) := ⟨k.toNat, by omega⟩
  have all : ∀ c ∈ ("abcdefghijklmnopqrstuvwxyz" : Str).cps.toList, 97 ≤ c ∧ c ≤ 122 := by decide
  have hl : ("abcdefghijklmnopqrstuvwxyz" : Str).cps.toList.length = 26 := by decide
  have hj : j < ("abcdefghijklmnopqrstuvwxyz" : Str).cps.toList.length := by omega
  have e : atI ("abcdefghijklmnopqrstuvwxyz" : Str).cps.toList (j : Int) = some (("abcdefghijklmnopqrstuvwxyz" : Str).cps.toList[j]) := atI_nat (by rw [List.getElem?_eq_getElem hj])
  refine ⟨⟨#[("abcdefghijklmnopqrstuvwxyz" : Str).cps.toList[j]]⟩, ?_, fun c hc => ?_, Nat.le_refl _⟩
  · show (if lim2 ("abcdefghijklmnopqrstuvwxyz" : Str).length = true then (atI ("abcdefghijklmnopqrstuvwxyz" : Str).cps.toList (j : Int)).map fun c => D.str ⟨#[c]⟩ else none) = _
    rw [if_pos (by decide), e]; rfl
  · simp at hc
    rw [hc]
    exact all _ (List.getElem_mem hj)
theorem strsD_map : ∀ ys : List Str, strsD (ys.map D.str) = some ys
  | [] => rfl
  | y :: ys => by show (strsD (ys.map D.str)).map (y :: ·) = _; rw [strsD_map ys]; rfl
theorem join_ok {n : Nat} {ys : List Str} (h : ∀ y ∈ ys, Nm n y) (hl : n * ys.length ≤ 1000000) : dJoin "" (.lst (ys.map D.str)) = some (.str (Txt.join "" ys)) := by
  show (strsD (ys.map D.str)).bind _ = _
  rw [strsD_map, Option.bind_some, if_pos]
  refine decide_eq_true ?_
  have : ∀ ys : List Str, (∀ y ∈ ys, Nm n y) → (ys.map (·.length)).sum ≤ n * ys.length := fun ys => by
    induction ys with
    | nil => intro _; exact Nat.le_refl _
    | cons y r ih =>
      intro h
      have h1 := (h y List.mem_cons_self).le
      have ih := ih fun z hz => h z (List.mem_cons_of_mem _ hz)
      simp only [List.map_cons, List.sum_cons, List.length_cons, Nat.mul_add, Nat.mul_one]
      omega
  have := this ys h
  have e0 : ("" : Str).length = 0 := rfl
  rw [e0, Nat.mul_zero]; omega
theorem lim2_nm {n : Nat} {x : Str} (h : Nm n x) (hn : n ≤ 1000) : lim2 x.length = true := decide_eq_true (by have := h.le; omega)
theorem pys_strs : ∀ ys : List Str, pys (ys.map D.str) = some (ys.map .str)
  | [] => rfl
  | y :: ys => by show (py (.str y)).bind (fun p => (pys (ys.map D.str)).map (p :: ·)) = _; rw [pys_strs ys]; rfl
theorem depth_strs : ∀ ys : List Str, PyData.depthAll (ys.map .str) = 0
  | [] => rfl
  | y :: ys => by simp [PyData.depthAll, PyData.depth, depth_strs ys]
theorem canLay_strs : ∀ ys : List Str, (∀ y ∈ ys, PyData.canLay0 (.str y) = true) → PyData.canLayAll0 (ys.map .str) = true
  | [], _ => rfl
  | y :: ys, h => by
    simp only [List.map_cons, PyData.canLayAll0, Bool.and_eq_true]
    exact ⟨h y List.mem_cons_self, canLay_strs ys fun z hz => h z (List.mem_cons_of_mem _ hz)⟩
theorem inD_strs {x : Str} {ys : List Str} (hx : PyData.canLay0 (.str x) = true) (h : ∀ y ∈ ys, PyData.canLay0 (.str y) = true) : inD (.str x) (.lst (ys.map D.str)) = some (decide (x ∈ ys)) := by
  unfold inD
  dsimp only
  rw [pys_strs]
  dsimp only [py]
  rw [if_pos]
  · congr 1
    rw [List.any_map]
    induction ys with
    | nil => rfl
    | cons y r ih =>
      rw [List.any_cons, ih fun z hz => h z (List.mem_cons_of_mem _ hz)]
      by_cases e : x = y
      · subst e; simp [PyData.eqv]
      · have e' : ¬ y = x := fun z => e z.symm
        simp [PyData.eqv, e, e']
  · refine ⟨Bool.and_eq_true_iff.mpr ⟨hx, rfl⟩, Bool.and_eq_true_iff.mpr ⟨?_, ?_⟩⟩
    · exact canLay_strs ys h
    · rw [show PyData.depth (.list (ys.map .str)) = PyData.depthAll (ys.map .str) + 1 from rfl, depth_strs]; rfl
theorem eqD_str {x y : Str} (hx : PyData.canLay0 (.str x) = true) (hy : PyData.canLay0 (.str y) = true) : eqD (.str x) (.str y) = some (decide (x = y)) := by
  unfold eqD
  dsimp only [py]
  rw [if_pos ⟨Bool.and_eq_true_iff.mpr ⟨hx, rfl⟩, Bool.and_eq_true_iff.mpr ⟨hy, rfl⟩⟩]
  by_cases e : x = y <;> simp [PyData.eqv, e]
theorem add_nm {n m : Nat} {x y : Str} (h : Nm n x) (h2 : Nm m y) (hn : n + m ≤ 1000) : dAdd (.str x) (.str y) = some (.str (x ++ y)) := by
  show (if lim2 (x.length + y.length) = true then some (D.str (x ++ y)) else none) = _
  rw [if_pos]
  exact decide_eq_true (by have := h.le; have := h2.le; omega)
theorem cut_nm {n : Nat} {x : Str} {lo hi : Option Int} (h : Nm n x) (hn : n ≤ 1000) : dCutA (.str x) lo hi = some (.str (cutS x lo hi)) := by
  show (if lim2 x.length = true then some (D.str (cutS x lo hi)) else none) = _
  rw [if_pos (lim2_nm h hn)]
theorem canLay_iff {x : Str} : PyData.canLay0 (.str x) = true ↔ ∀ c ∈ x.cps.toList, c < 1114112 := by
  show (x.cps.all fun c => decide (c < 1114112)) = true ↔ _
  rw [← Array.all_toList, List.all_eq_true]
  exact ⟨fun h c hc => of_decide_eq_true (h c hc), fun h c hc => decide_eq_true (h c hc)⟩
theorem canLay_app {x y : Str} (h : PyData.canLay0 (.str x) = true) (h2 : PyData.canLay0 (.str y) = true) : PyData.canLay0 (.str (x ++ y)) = true := by
  rw [canLay_iff] at *
  have e : (x ++ y).cps.toList = x.cps.toList ++ y.cps.toList := TL.tl_append x y
  intro c hc
  rw [e] at hc
  rcases List.mem_append.mp hc with q | q
  · exact h c q
  · exact h2 c q
theorem add_str {x y : Str} (h : x.length + y.length ≤ 1000) : dAdd (.str x) (.str y) = some (.str (x ++ y)) := by
  show (if lim2 (x.length + y.length) = true then some (D.str (x ++ y)) else none) = _
  rw [if_pos]
  exact decide_eq_true (by omega)
theorem cell_ok (ns : List Int) (k : Nat) (hk : k ≤ 1000000000000) : ∃ c : Nat, m__law_cell_at [.scr ns, .int (k : Nat)] () = .ok (.int c) () := by
  by_cases h : ns.length = 0
  · refine ⟨7 * k + 3, oE_eq ?_⟩
    unfold m__law_cell_at b__law_cell_at
    simp [Nxt, h]
    exact small_mul (i := 7) (j := k) (a := 8) (b := 50) (by decide) (by omega) (by decide) (by decide) (by decide)
  · have hl : k % ns.length < ns.length := Nat.mod_lt _ (by omega)
    refine ⟨(ns[k % ns.length]).natAbs, oE_eq ?_⟩
    have e : atI ns ((k : Int) % (ns.length : Int)) = some ns[k % ns.length] := by rw [← Int.natCast_emod]; exact atI_nat (by rw [List.getElem?_eq_getElem hl])
    have h' : ((ns.length : Nat) : Int) ≠ 0 := by omega
    unfold m__law_cell_at b__law_cell_at
    simp [Nxt, h, h', fmod_nat, e]
theorem mixed_ok (ns : List Int) (k : Nat) (hk : k ≤ 1000000000000) (m : Int) (hm : manyOk m) : ∃ r : Int, m__law_mixed [.scr ns, .int (k : Nat), .int m] () = .ok (.int r) () ∧ 0 ≤ r ∧ r < m := by
  obtain ⟨c, hc⟩ := cell_ok ns k hk
  have c1 := fmod_pos (a := (c : Int)) (b := 1000003) (by decide)
  have key : oE (m__law_mixed [.scr ns, .int (k : Nat), .int m] ()) (fun d _ => ∃ r : Int, d = .int r ∧ 0 ≤ r ∧ r < m) (fun _ _ _ => False) := by
    unfold m__law_mixed b__law_mixed
    simp [Nxt, hc]
    generalize (c : Int).fmod 1000003 = x at c1 ⊢
    have m1 : (x + 5) * (k + 2) ≤ 1000008 * (k + 2) := Int.mul_le_mul_of_nonneg_right (by omega) (by omega)
    have m0 : 0 ≤ (x + 5) * (k + 2) := Int.mul_nonneg (by omega) (by omega)
    refine ⟨small_mul (i := x + 5) (j := k + 2) (a := 50) (b := 50) (by omega) (by omega) (by decide) (by decide) (by decide), small_mul (i := 7919) (j := k) (a := 50) (b := 50) (by decide) (by omega) (by decide) (by decide) (by decide), decide_eq_true ⟨by decide, by decide, ?_⟩, ?_, ?_, fmod_pos hm.1⟩
    · generalize (x + 5) * (k + 2) = y at m1 m0 ⊢
      omega
    · exact small_div (b := 4) (by decide) (by decide) (by decide) (by decide)
    · have := hm.1; omega
  obtain ⟨d, u, e, r, rfl, h⟩ := oE_ex' key
  exact ⟨r, e, h⟩
structure TkOk (ns : List Int) (t t' : Dk) : Prop where
  a : t'.a = t.a
  scr : t'.scr = .scr ns
  cnt : t'.cnt ≤ t.cnt + 1
theorem take_ok {ns : List Int} {t : Dk} (hs : t.scr = .scr ns) (hc : t.cnt < 1000000000000) {m : Int} (hm : manyOk m) : ∃ (r : Int) (t' : Dk), m__law_take [.at t.a, .int m] t = .ok (.int r) t' ∧ 0 ≤ r ∧ r < m ∧ TkOk ns t t' := by
  have key : oE (m__law_take [.at t.a, .int m] t) (fun d t' => ∃ r : Int, d = .int r ∧ 0 ≤ r ∧ r < m ∧ TkOk ns t t') (fun _ _ _ => False) := by
    unfold m__law_take b__law_take
    simp [Nxt, Nxt]
    refine oS_while (fun n ρ u => ∃ (z : Slot), ρ = [.val (.at t.a), .val (.int m), z] ∧ u.a = t.a ∧ u.scr = .scr ns ∧ u.cnt = t.cnt ∧ n = u.big.length - u.pos) ?_ _ _ _ ⟨_, rfl, rfl, hs, rfl, rfl⟩
    rintro n ρ u ⟨z, rfl, ha, hsc, hcn, rfl⟩
    simp [Nxt, ha, hsc, hcn]
    by_cases hp : u.pos < u.big.length
    · right
      refine ⟨hp, u.big[u.pos], List.getElem?_eq_getElem hp, ?_⟩
      by_cases hc0 : u.big[u.pos] ≤ 0
      · left; exact ⟨hc0, by omega, by omega⟩
      · right
        have f := fmod_pos (a := u.big[u.pos]) hm.1
        exact ⟨by omega, small_div (by have := hm.1; omega) hm.2 (by decide) (by decide), hp, by have := hm.1; omega, f.1, f.2, rfl, rfl, Nat.le_succ _⟩
    · left
      refine ⟨by omega, by omega, ?_⟩
      have e : max ((t.cnt : Int) + 1) 0 = ((t.cnt + 1 : Nat) : Int) := by omega
      obtain ⟨r, e2, h0, h1⟩ := mixed_ok ns (t.cnt + 1) (by omega) m hm
      rw [e, e2]
      exact ⟨r, rfl, h0, h1, rfl, rfl, Nat.le_refl _⟩
  obtain ⟨d, u, e, r, rfl, h⟩ := oE_ex' key
  exact ⟨r, u, e, h⟩
/-- the deck's state: its place a, at most n takings beyond the cells -/
structure Gd (ns : List Int) (a : Addr) (n : Nat) (t : Dk) : Prop where
  scr : t.scr = .scr ns
  ad : t.a = a
  cnt : t.cnt ≤ n
theorem Gd.le {ns : List Int} {a : Addr} {n m : Nat} {t : Dk} (g : Gd ns a n t) (h : n ≤ m) : Gd ns a m t := ⟨g.scr, g.ad, Nat.le_trans g.cnt h⟩
theorem take_wp {ns : List Int} {a : Addr} {n : Nat} {t : Dk} {m : Int} {Q : D → Dk → Prop} {X : Str → Fds → Dk → Prop} (g : Gd ns a n t) (hc : n < 1000000000000) (hm : manyOk m) (h : ∀ (r : Int) (t' : Dk), 0 ≤ r → r < m → Gd ns a (n + 1) t' → Q (.int r) t') :
    oE (m__law_take [.at a, .int m] t) Q X := by
  obtain ⟨r, t', e, h0, h1, h2⟩ := take_ok g.scr (Nat.lt_of_le_of_lt g.cnt hc) hm
  rw [g.ad] at e
  rw [e]
  exact h r t' h0 h1 ⟨h2.scr, h2.a.trans g.ad, Nat.le_trans h2.cnt (Nat.succ_le_succ g.cnt)⟩
theorem deck_ok (ns : List Int) (hl : ns.length ≤ 63) : ∃ big, m__law_new_deck [.scr ns] = some (.scr ns, big) := by
  obtain ⟨ys, e, hy⟩ := compL_ok (g := gN 1) (tt := e1 asB (e2 dGe (e1 fAbs (aCons (eVarW 1) aNil)) (e2 dPow (eC (.int 10)) (eC (.int 18))))) (te := e1 fAbs (aCons (eVarW 1) aNil)) (ρ := [.val (.scr ns), .no]) (p := fun y => ∃ i, y = .int i) (ns.map .int) (fun d hd => by
    obtain ⟨i, _, rfl⟩ := List.mem_map.mp hd
    refine ⟨_, rfl, decide ((10 : Int) ^ 18 ≤ (i.natAbs : Int)), oE_eq ?_, fun _ => ⟨.int (i.natAbs : Int), oE_eq ?_, _, rfl⟩⟩
    · simp
      decide
    · simp)
  obtain ⟨big, eb⟩ := intsD_all ys hy
  have ec : eComp (e1 itD (eVar 0)) [1] (gN 1) (e1 asB (e2 dGe (e1 fAbs (aCons (eVarW 1) aNil)) (e2 dPow (eC (.int 10)) (eC (.int 18))))) (e1 fAbs (aCons (eVarW 1) aNil)) [.val (.scr ns), .no] () = .ok ys () := by
    show (if (ns.map D.int).length ≤ 16777216 ∧ noOwn [.val (.scr ns), .no] [1] = true then compL _ _ _ (wipeR [.val (.scr ns), .no] [1]) (ns.map D.int) () else .bad) = _
    rw [if_pos ⟨by rw [List.length_map]; omega, rfl⟩]
    exact e
  refine ⟨big, ?_⟩
  show (match aVar 0 [.val (.scr ns), .no], eComp (e1 itD (eVar 0)) [1] (gN 1) (e1 asB (e2 dGe (e1 fAbs (aCons (eVarW 1) aNil)) (e2 dPow (eC (.int 10)) (eC (.int 18))))) (e1 fAbs (aCons (eVarW 1) aNil)) [.val (.scr ns), .no] () with
    | some d, .ok ds _ => (intsD ds).map fun l => (d, l)
    | _, _ => none) = some (.scr ns, big)
  rw [ec]
  show (intsD ys).map _ = _
  rw [eb]
  rfl
/-- a list comprehension whose items draw from the deck -/
theorem comp_wp {ns : List Int} {a : Addr} {g : Tgt} {te : ME Dk D} {ρ : Rho} {p : D → D → Prop} {k B : Nat} {Q : List D → Dk → Prop} {X : Str → Fds → Dk → Prop} : ∀ (ds : List D)
    (hg : ∀ d ∈ ds, ∀ n t, Gd ns a n t → n ≤ B → ∃ ρ1, g ρ d = some ρ1 ∧ oE (te ρ1 t) (fun y t' => p d y ∧ Gd ns a (n + k) t') (fun _ _ _ => False)) (n : Nat) (t : Dk), Gd ns a n t → n + k * ds.length ≤ B →
    (∀ ys t', Pw p ds ys → Gd ns a (n + k * ds.length) t' → Q ys t') → oE (compL g (fun _ t => .ok true t) te ρ ds t) Q X
  | [], hg, n, t, h, hB, hQ => hQ [] t .nil (by simpa using h)
  | d :: ds, hg, n, t, h, hB, hQ => by
    rw [List.length_cons, Nat.mul_add] at hB
    obtain ⟨ρ1, e1, e2⟩ := hg d List.mem_cons_self n t h (by omega)
    rw [oE_compCons]
    refine ⟨ρ1, e1, ?_⟩
    simp only [oE_ok, not_true_eq_false, false_implies, and_true, forall_const]
    refine oE_imp e2 (fun y t1 ⟨py, h1⟩ => ?_) fun _ _ _ z => z
    refine comp_wp ds (fun d hd => hg d (List.mem_cons_of_mem _ hd)) (n + k) t1 h1 (by omega) fun ys t' hys h' => hQ _ _ (.cons py hys) ?_
    rw [List.length_cons, Nat.mul_add]
    exact h'.le (by omega)
theorem pw_nm {k : Nat} : ∀ {ds ys : List D}, Pw (fun _ y => ∃ x, y = .str x ∧ Nm k x) ds ys → ∃ xs : List Str, ys = xs.map D.str ∧ (∀ x ∈ xs, Nm k x) ∧ xs.length = ds.length
  | _, _, .nil => ⟨[], rfl, fun x hx => (nomatch hx), rfl⟩
  | _, _, .cons h t => by
    obtain ⟨x, rfl, hx⟩ := h
    obtain ⟨xs, rfl, h1, h2⟩ := pw_nm t
    refine ⟨x :: xs, rfl, fun y hy => ?_, by simp [h2]⟩
    rcases List.mem_cons.mp hy with rfl | hy
    · exact hx
    · exact h1 y hy
/-- points of whole numbers -/
def pt (p : Int × Int) : D := .tup [.int p.1, .int p.2]
def pyP (p : Int × Int) : PyData := .tuple [.int p.1, .int p.2]
theorem pys_pts : ∀ ps : List (Int × Int), pys (ps.map pt) = some (ps.map pyP)
  | [] => rfl
  | p :: ps => by
    have e : py (pt p) = some (pyP p) := rfl
    simp [pys, e, pys_pts ps]
theorem sort_pts (ps : List (Int × Int)) : ∃ qs : List (Int × Int), fSortD [.lst (ps.map pt)] = some (qs.map pt) ∧ qs.Perm ps := by
  have e := pys_pts ps
  have c : SrtC (ps.map pyP) := by
    refine ⟨.inl ⟨fun d hd d' hd' => ?_, .inl fun d hd => ?_⟩, fun d hd => ?_⟩
    · obtain ⟨x, _, rfl⟩ := List.mem_map.mp hd
      obtain ⟨y, _, rfl⟩ := List.mem_map.mp hd'
      rfl
    · obtain ⟨x, _, rfl⟩ := List.mem_map.mp hd
      exact ⟨_, _, rfl⟩
    · obtain ⟨x, _, rfl⟩ := List.mem_map.mp hd
      show PyData.depth (.tuple [.int x.1, .int x.2]) ≤ 50
      simp [PyData.depth, PyData.depthAll]
  refine ⟨ps.mergeSort (PySem.W.dataLe false pyP), ?_, List.mergeSort_perm ..⟩
  show (pys (ps.map pt)).bind _ = _
  rw [e, Option.bind_some, if_pos c, sortV_of (le := PySem.W.dataLe false pyP) ps fun _ _ _ _ => rfl]
/-- lexicographically less -/
def lx (a b : Int × Int) : Prop := a.1 < b.1 ∨ (a.1 = b.1 ∧ a.2 < b.2)
/-- how far left c is of who goes from a to b -/
def lf (a b c : Int × Int) : Int := (b.1 - a.1) * (c.2 - a.2) - (b.2 - a.2) * (c.1 - a.1)
theorem cr_trans {a1 a2 b1 b2 c1 c2 : Int} (ha : 0 < a1 ∨ (a1 = 0 ∧ 0 < a2)) (hb : 0 < b1 ∨ (b1 = 0 ∧ 0 < b2)) (hc : 0 < c1 ∨ (c1 = 0 ∧ 0 < c2)) (h1 : 0 ≤ a1 * b2 - a2 * b1) (h2 : 0 < b1 * c2 - b2 * c1) : 0 < a1 * c2 - a2 * c1 := by
  rcases hb with hb | ⟨rfl, hb⟩
  · have id : b1 * (a1 * c2 - a2 * c1) = a1 * (b1 * c2 - b2 * c1) + c1 * (a1 * b2 - a2 * b1) := by grind
    have hc0 : 0 ≤ c1 := by omega
    rcases ha with ha | ⟨rfl, ha⟩
    · have p1 := Int.mul_pos ha h2
      have p2 := Int.mul_nonneg hc0 h1
      have p3 : 0 < b1 * (a1 * c2 - a2 * c1) := by omega
      exact Int.pos_of_mul_pos_right p3 hb |> fun h => h
    · have := Int.mul_pos ha hb
      omega
  · rcases hc with hc | ⟨rfl, hc⟩
    · have := Int.mul_pos hb hc
      omega
    · omega
theorem bump {g : Nat → Int} {A B : Nat} (hA : 0 ≤ g A) (hB : 0 ≤ g B) (hs : ∀ k, A ≤ k → k + 1 < B → g (k + 1) - g k ≤ 0 → g (k + 2) - g (k + 1) < 0) (k : Nat) (h1 : A < k) (h2 : k < B) : 0 < g k := by
  apply Classical.byContradiction
  intro hk
  have s1 : ∃ j, A ≤ j ∧ j < k ∧ g (j + 1) - g j ≤ 0 := by
    apply Classical.byContradiction
    intro h
    have up : ∀ n, A + n ≤ k → g A + n ≤ g (A + n) := by
      intro n
      induction n with
      | zero => intro _; simp
      | succ n ih =>
        intro hn
        have := ih (by omega)
        have q : ¬ g (A + n + 1) - g (A + n) ≤ 0 := fun z => h ⟨A + n, by omega, by omega, z⟩
        show g A + ((n + 1 : Nat) : Int) ≤ g (A + n + 1)
        omega
    have := up (k - A) (by omega)
    rw [show A + (k - A) = k by omega] at this
    omega
  obtain ⟨j, j1, j2, j3⟩ := s1
  have dn : ∀ n, j + n + 1 < B → g (j + n + 2) - g (j + n + 1) < 0 := by
    intro n
    induction n with
    | zero => intro hn; exact hs j j1 hn j3
    | succ n ih =>
      intro hn
      have := ih (by omega)
      exact hs (j + n + 1) (by omega) hn (Int.le_of_lt this)
  have fin : ∀ n, k + n < B → g (k + n + 1) < g k := by
    intro n
    induction n with
    | zero =>
      intro hn
      have := dn (k - j - 1) (by omega)
      rw [show j + (k - j - 1) + 2 = k + 1 by omega, show j + (k - j - 1) + 1 = k by omega] at this
      show g (k + 1) < g k
      omega
    | succ n ih =>
      intro hn
      have h := ih (by omega)
      have := dn (k + n - j) (by omega)
      rw [show j + (k + n - j) + 2 = k + (n + 1) + 1 by omega, show j + (k + n - j) + 1 = k + n + 1 by omega] at this
      omega
  have := fin (B - k - 1) (by omega)
  rw [show k + (B - k - 1) + 1 = B by omega] at this
  omega
/-- a closed path: up to its greatest corner, and back -/
structure Cyc (q : Nat → Int × Int) (a m : Nat) : Prop where
  lo : ∀ j, j < a → lx (q j) (q (j + 1))
  hi : ∀ j, a ≤ j → j < m → lx (q (j + 1)) (q j)
  tlo : ∀ j, j + 1 < a → 0 < lf (q j) (q (j + 1)) (q (j + 2))
  thi : ∀ j, a ≤ j → j + 1 < m → 0 < lf (q j) (q (j + 1)) (q (j + 2))
  ends : q m = q 0
  am : a ≤ m
section
variable {q : Nat → Int × Int} {a m : Nat}
def dxq (q : Nat → Int × Int) (j : Nat) : Int := (q (j + 1)).1 - (q j).1
def dyq (q : Nat → Int × Int) (j : Nat) : Int := (q (j + 1)).2 - (q j).2
def crq (q : Nat → Int × Int) (i j : Nat) : Int := dxq q i * dyq q j - dyq q i * dxq q j
theorem crq_anti (i j : Nat) : crq q i j = - crq q j i := by unfold crq; grind
theorem lf_next (i k : Nat) : lf (q i) (q (i + 1)) (q (k + 1)) - lf (q i) (q (i + 1)) (q k) = crq q i k := by unfold lf crq dxq dyq; grind
theorem lf_at (i : Nat) : lf (q i) (q (i + 1)) (q i) = 0 := by unfold lf; grind
theorem lf_at1 (i : Nat) : lf (q i) (q (i + 1)) (q (i + 1)) = 0 := by unfold lf; grind
theorem crq_turn (j : Nat) : crq q j (j + 1) = lf (q j) (q (j + 1)) (q (j + 2)) := by
  have h := lf_next (q := q) j (j + 1)
  rw [lf_at1] at h
  rw [← h]; exact Int.sub_zero _
theorem lo_pos (h : lx (q i) (q (i + 1))) : 0 < dxq q i ∨ (dxq q i = 0 ∧ 0 < dyq q i) := by unfold dxq dyq; rcases h with h | ⟨h1, h2⟩ <;> omega
theorem hi_pos (h : lx (q (i + 1)) (q i)) : 0 < -dxq q i ∨ (-dxq q i = 0 ∧ 0 < -dyq q i) := by unfold dxq dyq; rcases h with h | ⟨h1, h2⟩ <;> omega
theorem Cyc.cross_lo (C : Cyc q a m) {i : Nat} : ∀ n, i + n + 1 < a → 0 < crq q i (i + n + 1) := by
  intro n
  induction n with
  | zero => intro h; rw [crq_turn]; exact C.tlo i h
  | succ n ih =>
    intro h
    have h1 := ih (by omega)
    have h2 := C.tlo (i + n + 1) (by omega)
    rw [← crq_turn] at h2
    exact cr_trans (lo_pos (C.lo i (by omega))) (lo_pos (C.lo (i + n + 1) (by omega))) (lo_pos (C.lo (i + n + 2) (by omega))) (Int.le_of_lt h1) h2
theorem Cyc.cross_hi (C : Cyc q a m) {i : Nat} (hi : a ≤ i) : ∀ n, i + n + 1 < m → 0 < crq q i (i + n + 1) := by
  intro n
  induction n with
  | zero => intro h; rw [crq_turn]; exact C.thi i hi h
  | succ n ih =>
    intro h
    have h1 := ih (by omega)
    have h2 := C.thi (i + n + 1) (by omega) (by omega)
    rw [← crq_turn] at h2
    have := cr_trans (hi_pos (C.hi i hi (by omega))) (hi_pos (C.hi (i + n + 1) (by omega) (by omega))) (hi_pos (C.hi (i + n + 2) (by omega) (by omega))) (by unfold crq at h1; grind) (by unfold crq at h2; grind)
    show 0 < crq q i (i + n + 2)
    unfold crq
    grind
theorem Cyc.up_same {i b : Nat} (hc : ∀ n, i + n + 1 < b → 0 < crq q i (i + n + 1)) : ∀ n, i + n + 2 ≤ b → 0 < lf (q i) (q (i + 1)) (q (i + n + 2)) := by
  intro n
  induction n with
  | zero =>
    intro h
    have := lf_next (q := q) i (i + 1)
    rw [lf_at1] at this
    have := hc 0 (by omega)
    show 0 < lf (q i) (q (i + 1)) (q (i + 1 + 1))
    simp only [Nat.add_zero] at *
    omega
  | succ n ih =>
    intro h
    have h1 := ih (by omega)
    have h2 := lf_next (q := q) i (i + n + 2)
    have h3 := hc (n + 1) (by omega)
    show 0 < lf (q i) (q (i + 1)) (q (i + n + 2 + 1))
    rw [show i + (n + 1) + 1 = i + n + 2 by omega] at h3
    omega
theorem Cyc.dn_same {i b : Nat} (hc : ∀ k, b ≤ k → k < i → 0 < crq q k i) : ∀ n, b + n + 1 ≤ i → 0 < lf (q i) (q (i + 1)) (q (i - n - 1)) := by
  intro n
  induction n with
  | zero =>
    intro h
    have h2 := lf_next (q := q) i (i - 1)
    rw [show i - 1 + 1 = i by omega, lf_at, crq_anti] at h2
    have := hc (i - 1) (by omega) (by omega)
    show 0 < lf (q i) (q (i + 1)) (q (i - 1))
    omega
  | succ n ih =>
    intro h
    have h1 := ih (by omega)
    have h2 := lf_next (q := q) i (i - (n + 1) - 1)
    rw [show i - (n + 1) - 1 + 1 = i - n - 1 by omega, crq_anti] at h2
    have := hc (i - (n + 1) - 1) (by omega) (by omega)
    omega
theorem Cyc.left (C : Cyc q a m) (i k : Nat) (hi : i < m) (hk : k < m) (h1 : k ≠ i) (h2 : k ≠ i + 1) (h3 : i + 1 = m → k ≠ 0) : 0 < lf (q i) (q (i + 1)) (q k) := by
  by_cases ha : i < a
  · have up : ∀ k, i + 1 < k → k ≤ a → 0 < lf (q i) (q (i + 1)) (q k) := fun k x y => by
      have := Cyc.up_same (q := q) (i := i) (b := a) C.cross_lo (k - i - 2) (by omega)
      rwa [show i + (k - i - 2) + 2 = k by omega] at this
    have dn : ∀ k, k < i → 0 < lf (q i) (q (i + 1)) (q k) := fun k x => by
      have := Cyc.dn_same (q := q) (i := i) (b := 0) (fun k _ y => by
        have := C.cross_lo (i := k) (i - k - 1) (by omega)
        rwa [show k + (i - k - 1) + 1 = i by omega] at this) (i - k - 1) (by omega)
      rwa [show i - (i - k - 1) - 1 = k by omega] at this
    by_cases hka : k ≤ a
    · rcases Nat.lt_or_gt_of_ne h1 with h | h
      · exact dn k h
      · exact up k (by omega) hka
    · refine bump (g := fun k => lf (q i) (q (i + 1)) (q k)) (A := a) (B := m) ?_ ?_ ?_ k (by omega) hk
      · by_cases e : a = i + 1
        · rw [e]; rw [lf_at1]; exact Int.le_refl _
        · exact Int.le_of_lt (up a (by omega) (Nat.le_refl _))
      · rw [C.ends]
        by_cases e : i = 0
        · rw [e, lf_at]; exact Int.le_refl _
        · exact Int.le_of_lt (dn 0 (by omega))
      · intro k x y z
        rw [lf_next] at z
        rw [show k + 2 = k + 1 + 1 from rfl, lf_next]
        have h2 := C.thi k x y
        rw [← crq_turn] at h2
        have := cr_trans (lo_pos (C.lo i ha)) (hi_pos (C.hi k x (by omega))) (hi_pos (C.hi (k + 1) (by omega) y)) (by unfold crq at z; grind) (by unfold crq at h2; grind)
        unfold crq
        grind
  · have up : ∀ k, i + 1 < k → k ≤ m → 0 < lf (q i) (q (i + 1)) (q k) := fun k x y => by
      have := Cyc.up_same (q := q) (i := i) (b := m) (C.cross_hi (by omega)) (k - i - 2) (by omega)
      rwa [show i + (k - i - 2) + 2 = k by omega] at this
    have dn : ∀ k, a ≤ k → k < i → 0 < lf (q i) (q (i + 1)) (q k) := fun k w x => by
      have := Cyc.dn_same (q := q) (i := i) (b := a) (fun k z y => by
        have := C.cross_hi (i := k) z (i - k - 1) (by omega)
        rwa [show k + (i - k - 1) + 1 = i by omega] at this) (i - k - 1) (by omega)
      rwa [show i - (i - k - 1) - 1 = k by omega] at this
    have zero : i + 1 ≠ m → 0 < lf (q i) (q (i + 1)) (q 0) := fun h => by
      rw [← C.ends]; exact up m (by omega) (Nat.le_refl _)
    by_cases hka : a ≤ k
    · rcases Nat.lt_or_gt_of_ne h1 with h | h
      · exact dn k hka h
      · exact up k (by omega) (by omega)
    · by_cases k0 : k = 0
      · rw [k0]; exact zero fun e => h3 e k0
      refine bump (g := fun k => lf (q i) (q (i + 1)) (q k)) (A := 0) (B := a) ?_ ?_ ?_ k (by omega) (by omega)
      · by_cases e : i + 1 = m
        · rw [← C.ends, ← e, lf_at1]; exact Int.le_refl _
        · exact Int.le_of_lt (zero e)
      · by_cases e : a = i
        · rw [e, lf_at]; exact Int.le_refl _
        · exact Int.le_of_lt (dn a (Nat.le_refl _) (by omega))
      · intro k x y z
        rw [lf_next] at z
        rw [show k + 2 = k + 1 + 1 from rfl, lf_next]
        have h2 := C.tlo k y
        rw [← crq_turn] at h2
        have := cr_trans (hi_pos (C.hi i (by omega) hi)) (lo_pos (C.lo k (by omega))) (lo_pos (C.lo (k + 1) y)) (by unfold crq at z; grind) (by unfold crq at h2; grind)
        unfold crq
        grind
end
/-- lexicographic order of points, as sorting sees it -/
theorem le_pts (a b : Int × Int) : PySem.W.dataLe false pyP a b = true ↔ a = b ∨ lx a b := by
  have e : PySem.W.dataLe false pyP a b = !(decide (b.1 < a.1) || (!decide (a.1 < b.1) && (decide (b.2 < a.2) || (!decide (a.2 < b.2) && false)))) := by
    obtain ⟨a1, a2⟩ := a
    obtain ⟨b1, b2⟩ := b
    show (!(decide ((1 : Int) < 1) || (!decide ((1 : Int) < 1) && (decide (b1 < a1) || (!decide (a1 < b1) && (decide ((1 : Int) < 1) || (!decide ((1 : Int) < 1) && (decide (b2 < a2) || (!decide (a2 < b2) && (decide ((0 : Int) < 0) || (!decide ((0 : Int) < 0) && false))))))))))) = _
    simp
  rw [e]
  obtain ⟨a1, a2⟩ := a
  obtain ⟨b1, b2⟩ := b
  unfold lx
  simp
  omega
def sP (ps : List (Int × Int)) : List (Int × Int) := ps.mergeSort (PySem.W.dataLe false pyP)
theorem lx_trans {a b c : Int × Int} (h1 : lx a b) (h2 : lx b c) : lx a c := by unfold lx at *; omega
theorem lx_irr {a : Int × Int} (h : lx a a) : False := by unfold lx at h; omega
theorem sP_perm (ps : List (Int × Int)) : (sP ps).Perm ps := List.mergeSort_perm ..
theorem sP_sorted (ps : List (Int × Int)) : (sP ps).Pairwise (fun a b => a = b ∨ lx a b) := by
  have h := List.pairwise_mergeSort (le := PySem.W.dataLe false pyP) (fun a b c h1 h2 => by
    rw [le_pts] at *
    rcases h1 with rfl | h1
    · exact h2
    · rcases h2 with rfl | h2
      · exact .inr h1
      · exact .inr (lx_trans h1 h2)) (fun a b => by
    rw [Bool.or_eq_true, le_pts, le_pts]
    obtain ⟨a1, a2⟩ := a
    obtain ⟨b1, b2⟩ := b
    unfold lx
    simp
    omega) ps
  exact h.imp fun h => (le_pts _ _).mp h
theorem sP_eq {ps qs : List (Int × Int)} (h : ps.Perm qs) : sP ps = sP qs :=
  List.Perm.eq_of_pairwise (le := fun a b => a = b ∨ lx a b) (fun a b _ _ h1 h2 => by
    rcases h1 with h1 | h1
    · exact h1
    · rcases h2 with h2 | h2
      · exact h2.symm
      · exact (lx_irr (lx_trans h1 h2)).elim) (sP_sorted ps) (sP_sorted qs) ((sP_perm ps).trans (h.trans (sP_perm qs).symm))
theorem sort_sP (ps : List (Int × Int)) : fSortD [.lst (ps.map pt)] = some ((sP ps).map pt) := by
  obtain ⟨qs, e, _⟩ := sort_pts ps
  have e := pys_pts ps
  have c : SrtC (ps.map pyP) := by
    refine ⟨.inl ⟨fun d hd d' hd' => ?_, .inl fun d hd => ?_⟩, fun d hd => ?_⟩
    · obtain ⟨x, _, rfl⟩ := List.mem_map.mp hd
      obtain ⟨y, _, rfl⟩ := List.mem_map.mp hd'
      rfl
    · obtain ⟨x, _, rfl⟩ := List.mem_map.mp hd
      exact ⟨_, _, rfl⟩
    · obtain ⟨x, _, rfl⟩ := List.mem_map.mp hd
      show PyData.depth (.tuple [.int x.1, .int x.2]) ≤ 50
      simp [PyData.depth, PyData.depthAll]
  show (pys (ps.map pt)).bind _ = _
  rw [e, Option.bind_some, if_pos c, sortV_of (le := PySem.W.dataLe false pyP) ps fun _ _ _ _ => rfl]
  rfl
/-- a row of points each behind the one ahead of it, with turns to the left alone -/
structure Chn (Rl : Int × Int → Int × Int → Prop) (l : List (Int × Int)) : Prop where
  st : ∀ j a b, l[j]? = some a → l[j + 1]? = some b → Rl a b
  tu : ∀ j a b c, l[j]? = some a → l[j + 1]? = some b → l[j + 2]? = some c → 0 < lf a b c
section
variable {Rl : Int × Int → Int × Int → Prop}
theorem Chn.one (a : Int × Int) : Chn Rl [a] := ⟨fun j x y _ h => by simp at h, fun j x y z _ h _ => by simp at h⟩
theorem Chn.left {l r : List (Int × Int)} (h : Chn Rl (l ++ r)) : Chn Rl l := by
  have up : ∀ (j : Nat) (a : Int × Int), l[j]? = some a → (l ++ r)[j]? = some a := fun j a e => by
    rw [List.getElem?_append_left (by obtain ⟨q, _⟩ := List.getElem?_eq_some_iff.mp e; exact q)]; exact e
  exact ⟨fun j a b h1 h2 => h.st j a b (up _ _ h1) (up _ _ h2), fun j a b c h1 h2 h3 => h.tu j a b c (up _ _ h1) (up _ _ h2) (up _ _ h3)⟩
theorem Chn.snoc {l : List (Int × Int)} {a b p : Int × Int} (h : Chn Rl (l ++ [a, b])) (h1 : Rl b p) (h2 : 0 < lf a b p) : Chn Rl (l ++ [a, b] ++ [p]) := by
  have dn : ∀ (j : Nat) (x : Int × Int), (l ++ [a, b] ++ [p])[j]? = some x → j < l.length + 2 → (l ++ [a, b])[j]? = some x := fun j x e hj => by
    rw [List.getElem?_append_left (by simp; omega)] at e; exact e
  have hi : ∀ (j : Nat) (x : Int × Int), (l ++ [a, b] ++ [p])[j]? = some x → ¬ j < l.length + 2 → j = l.length + 2 ∧ x = p := fun j x e hj => by
    have q : j < (l ++ [a, b] ++ [p]).length := (List.getElem?_eq_some_iff.mp e).1
    simp at q
    have : j = l.length + 2 := by omega
    subst this
    rw [List.getElem?_append_right (by simp)] at e
    simp at e
    exact ⟨rfl, e.symm⟩
  have ea : (l ++ [a, b])[l.length]? = some a := by simp
  have eb : (l ++ [a, b])[l.length + 1]? = some b := by rw [List.getElem?_append_right (by omega)]; simp
  refine ⟨fun j x y e1 e2 => ?_, fun j x y z e1 e2 e3 => ?_⟩
  · by_cases hj : j + 1 < l.length + 2
    · exact h.st j x y (dn _ _ e1 (by omega)) (dn _ _ e2 hj)
    · obtain ⟨q, rfl⟩ := hi _ _ e2 hj
      have e1 := dn _ _ e1 (by omega)
      rw [show j = l.length + 1 by omega, eb] at e1
      cases e1
      exact h1
  · by_cases hj : j + 2 < l.length + 2
    · exact h.tu j x y z (dn _ _ e1 (by omega)) (dn _ _ e2 (by omega)) (dn _ _ e3 hj)
    · obtain ⟨q, rfl⟩ := hi _ _ e3 hj
      have e1 := dn _ _ e1 (by omega)
      have e2 := dn _ _ e2 (by omega)
      rw [show j = l.length by omega, ea] at e1
      rw [show j + 1 = l.length + 1 by omega, eb] at e2
      cases e1
      cases e2
      exact h2
theorem Chn.two {a b : Int × Int} (h : Rl a b) : Chn Rl [a, b] := ⟨fun j x y h1 h2 => by
  match j, h1, h2 with
  | 0, h1, h2 => cases h1; cases h2; exact h
  | j + 1, h1, h2 => simp at h2, fun j x y z _ _ h => by simp at h⟩
/-- how such a row stands behind the points dn -/
def HSt (Rl : Int × Int → Int × Int → Prop) (dn qs : List (Int × Int)) : Prop :=
  (dn = [] ∧ qs = []) ∨ ∃ f dn' qs', dn = f :: dn' ∧ qs = f :: qs' ∧ qs.getLast? = dn.getLast? ∧ (Chn Rl qs ∨ (qs = [f, f] ∧ ∀ x ∈ dn, x = f))
def HWl (Rl : Int × Int → Int × Int → Prop) (dn qs : List (Int × Int)) (p : Int × Int) : Prop :=
  (dn = [] ∧ qs = []) ∨ ∃ f dn' qs', dn = f :: dn' ∧ qs = f :: qs' ∧ (∃ b, qs.getLast? = some b ∧ (b = p ∨ Rl b p)) ∧ (Chn Rl qs ∨ qs = [f, f])
theorem last2_of {qs : List (Int × Int)} (h : 2 ≤ qs.length) : ∃ l a b, qs = l ++ [a, b] := by
  have h1 : qs ≠ [] := fun e => by rw [e] at h; simp at h
  have h2 : qs.dropLast ≠ [] := fun e => by
    have := congrArg List.length e
    simp at this
    omega
  refine ⟨qs.dropLast.dropLast, qs.dropLast.getLast h2, qs.getLast h1, ?_⟩
  have e1 := List.dropLast_concat_getLast h1
  have e2 := List.dropLast_concat_getLast h2
  rw [show qs.dropLast.dropLast ++ [qs.dropLast.getLast h2, qs.getLast h1] = qs.dropLast.dropLast ++ [qs.dropLast.getLast h2] ++ [qs.getLast h1] by simp, e2, e1]
theorem lf_same (a p : Int × Int) : lf a p p = 0 := by unfold lf; grind
theorem lf_same0 (a p : Int × Int) : lf a a p = 0 := by unfold lf; grind
theorem HWl.pop (tr : ∀ {a b c}, Rl a b → Rl b c → Rl a c) {dn l : List (Int × Int)} {a b p : Int × Int} (h : HWl Rl dn (l ++ [a, b]) p) : HWl Rl dn (l ++ [a]) p := by
  rcases h with ⟨_, h⟩ | ⟨f, dn', qs', e1, e2, ⟨c, e3, h3⟩, h4⟩
  · simp at h
  · have ec : b = c := by simpa using e3
    subst ec
    have hl : ∃ qs'', l ++ [a] = f :: qs'' := by
      cases l with
      | nil => simp at e2; exact ⟨[], by rw [e2.1]; rfl⟩
      | cons x l => simp at e2; exact ⟨l ++ [a], by rw [e2.1]; rfl⟩
    obtain ⟨qs'', el⟩ := hl
    refine .inr ⟨f, dn', qs'', e1, el, ⟨a, by simp, ?_⟩, ?_⟩
    · rcases h4 with h4 | h4
      · have hab : Rl a b := h4.st l.length a b (by simp) (by rw [List.getElem?_append_right (by omega)]; simp)
        rcases h3 with rfl | h3
        · exact .inr hab
        · exact .inr (tr hab h3)
      · have : l = [] := by
          have := congrArg List.length h4
          simp at this
          exact this
        subst this
        simp at h4
        rw [h4.1, ← h4.2]
        exact h3
    · rcases h4 with h4 | h4
      · left
        exact Chn.left (r := [b]) (by simpa using h4)
      · have : l = [] := by
          have := congrArg List.length h4
          simp at this
          exact this
        subst this
        exact .inl (Chn.one a)
theorem HWl.push (tr : ∀ {a b c}, Rl a b → Rl b c → Rl a c) (ir : ∀ {a}, ¬ Rl a a) {dn td qs : List (Int × Int)} {p : Int × Int} (hs : (dn ++ p :: td).Pairwise (fun a b => a = b ∨ Rl a b)) (h : HWl Rl dn qs p) (hx : qs.length ≤ 1 ∨ ∃ l a b, qs = l ++ [a, b] ∧ 0 < lf a b p) : HSt Rl (dn ++ [p]) (qs ++ [p]) := by
  rcases h with ⟨rfl, rfl⟩ | ⟨f, dn', qs', e1, e2, ⟨c, e3, h3⟩, h4⟩
  · exact .inr ⟨p, [], [], rfl, rfl, rfl, .inl (Chn.one p)⟩
  · have fin : (qs ++ [p]).getLast? = (dn ++ [p]).getLast? := by simp
    refine .inr ⟨f, dn' ++ [p], qs' ++ [p], by rw [e1]; rfl, by rw [e2]; rfl, fin, ?_⟩
    rcases hx with hx | ⟨l, a, b, rfl, hx⟩
    · have q0 : qs' = [] := by
        rw [e2] at hx
        simpa using hx
      subst q0
      subst e2
      have ec : f = c := by simpa using e3
      subst ec
      rcases h3 with rfl | h3
      · right
        refine ⟨rfl, fun x hxm => ?_⟩
        rcases List.mem_append.mp hxm with hxm | hxm
        · rw [List.pairwise_append] at hs
          have k1 := hs.2.2 x hxm f List.mem_cons_self
          rcases k1 with k1 | k1
          · exact k1
          · rw [e1] at hxm hs
            rcases List.mem_cons.mp hxm with rfl | hxm
            · rfl
            · have k2 := (List.pairwise_cons.mp hs.1).1 x hxm
              rcases k2 with k2 | k2
              · exact k2.symm
              · exact absurd (tr k2 k1) ir
        · exact List.mem_singleton.mp hxm
      · exact .inl (Chn.two h3)
    · have ec : b = c := by simpa using e3
      subst ec
      rcases h4 with h4 | h4
      · rcases h3 with rfl | h3
        · rw [lf_same] at hx; omega
        · exact .inl (h4.snoc h3 hx)
      · have : l = [] := by
          have := congrArg List.length h4
          simp at this
          exact this
        subst this
        simp at h4
        rw [h4.1, h4.2, lf_same0] at hx
        omega
theorem HSt.to (h : HSt Rl dn qs) (hs : (dn ++ p :: td).Pairwise (fun a b => a = b ∨ Rl a b)) : HWl Rl dn qs p := by
  rcases h with h | ⟨f, dn', qs', e1, e2, e3, h4⟩
  · exact .inl h
  · have hne : dn ≠ [] := fun e => by rw [e] at e1; cases e1
    refine .inr ⟨f, dn', qs', e1, e2, ⟨dn.getLast hne, by rw [e3]; exact List.getLast?_eq_some_getLast hne, ?_⟩, h4.imp id And.left⟩
    rw [List.pairwise_append] at hs
    exact hs.2.2 _ (List.getLast_mem hne) p List.mem_cons_self
end
theorem at_last2' {l : List (Int × Int)} {a b : Int × Int} : atI ((l ++ [a, b]).map pt) (-2) = some (pt a) ∧ atI ((l ++ [a, b]).map pt) (-1) = some (pt b) := by
  have hl : ((l ++ [a, b]).map pt).length = l.length + 2 := by simp
  constructor
  · unfold atI ixN
    rw [hl, if_neg (by decide), if_pos (by omega)]
    show ((l ++ [a, b]).map pt)[((-2 : Int) + ((l.length + 2 : Nat) : Int)).toNat]? = _
    rw [show ((-2 : Int) + ((l.length + 2 : Nat) : Int)).toNat = l.length by omega]
    simp
  · unfold atI ixN
    rw [hl, if_neg (by decide), if_pos (by omega)]
    show ((l ++ [a, b]).map pt)[((-1 : Int) + ((l.length + 2 : Nat) : Int)).toNat]? = _
    rw [show ((-1 : Int) + ((l.length + 2 : Nat) : Int)).toNat = l.length + 1 by omega]
    simp
/-- a point within bounds -/
def Ptb (p : Int × Int) : Prop := p.1.natAbs < 2 ^ 21 ∧ p.2.natAbs < 2 ^ 21
theorem cut_last (ds : List D) : cutD ds none (some (-1)) = ds.dropLast := by
  unfold cutD
  have e0 : HT.sIx ds.length 0 none = 0 := rfl
  have e1 : HT.sIx ds.length ds.length (some (-1)) = ds.length - 1 := by
    unfold HT.sIx
    dsimp only
    rw [if_pos (by decide)]
    omega
  rw [e0, e1, List.drop_zero, Nat.sub_zero, List.dropLast_eq_take]
theorem left_lf {a b c : Int × Int} (ha : Ptb a) (hb : Ptb b) (hc : Ptb c) : m__law_left [pt a, pt b, pt c] () = .ok (.int (lf a b c)) () := by
  have ix0 : ∀ p : Int × Int, dIx (pt p) (.int 0) = some (.int p.1) := fun _ => rfl
  have ix1 : ∀ p : Int × Int, dIx (pt p) (.int 1) = some (.int p.2) := fun _ => rfl
  have m : ∀ u v w z : Int, u.natAbs < 2 ^ 21 → v.natAbs < 2 ^ 21 → w.natAbs < 2 ^ 21 → z.natAbs < 2 ^ 21 → mulOk (u - v) (w - z) = true := fun u v w z h1 h2 h3 h4 => small_mul (a := 22) (b := 22) (by omega) (by omega) (by decide) (by decide) (by decide)
  apply oE_eq
  unfold m__law_left b__law_left
  simp [ix0, ix1, m _ _ _ _ hb.1 ha.1 hc.2 ha.2, m _ _ _ _ hb.2 ha.2 hc.1 ha.1]
  rfl
theorem half_st {Rl : Int × Int → Int × Int → Prop} (tr : ∀ {a b c}, Rl a b → Rl b c → Rl a c) (ir : ∀ {a}, ¬ Rl a a) {ps : List (Int × Int)} (hs : ps.Pairwise (fun a b => a = b ∨ Rl a b)) (hp : ∀ p ∈ ps, Ptb p) (hl : ps.length ≤ 1000) :
    ∃ qs : List (Int × Int), m__law_half [.lst (ps.map pt)] () = .ok (.lst (qs.dropLast.map pt)) () ∧ (∀ q ∈ qs, q ∈ ps) ∧ qs.length ≤ ps.length ∧ HSt Rl ps qs := by
  have key : oE (m__law_half [.lst (ps.map pt)] ()) (fun d _ => ∃ qs : List (Int × Int), d = .lst (qs.dropLast.map pt) ∧ (∀ q ∈ qs, q ∈ ps) ∧ qs.length ≤ ps.length ∧ HSt Rl ps qs) (fun _ _ _ => False) := by
    unfold m__law_half b__law_half
    simp
    unfold Nxt
    simp
    obtain ⟨I, hI⟩ : ∃ I : List (Int × Int) → List (Int × Int) → Rho → Unit → Prop, I = fun dn td ρ t => ∃ (qs : List (Int × Int)) (s2 : Slot), ρ = [.val (.lst (ps.map pt)), .val (.lst (qs.map pt)), s2] ∧ (∀ q ∈ qs, q ∈ ps) ∧ qs.length ≤ dn.length ∧ HSt Rl dn qs := ⟨_, rfl⟩
    refine oS_loopE I ps (by
      rw [hI]
      exact ⟨[], _, rfl, fun q hq => (nomatch hq), Nat.le_refl _, .inl ⟨rfl, rfl⟩⟩) ?_ ?_
    · intro dn p td ρ t eq h2
      rw [hI] at h2
      obtain ⟨qs, s2, rfl, hq, hql, hst⟩ := h2
      have hpm : p ∈ ps := by rw [eq]; simp
      have hb := hp p hpm
      have hdl : dn.length + 1 ≤ ps.length := by rw [eq]; simp
      rw [eq] at hs
      have hw := hst.to hs
      refine ⟨_, rfl, ?_⟩
      rw [oS_seq]
      refine oS_while (fun n ρ t => ∃ qs : List (Int × Int), n = qs.length ∧ ρ = [.val (.lst (ps.map pt)), .val (.lst (qs.map pt)), .val (pt p)] ∧ (∀ q ∈ qs, q ∈ ps) ∧ qs.length ≤ dn.length ∧ HWl Rl dn qs p) ?_ qs.length _ _ ⟨qs, rfl, rfl, hq, hql, hw⟩
      rintro n ρ t ⟨qs, rfl, rfl, hq, hql, hw⟩
      have fin : (qs.length ≤ 1 ∨ ∃ l a b, qs = l ++ [a, b] ∧ 0 < lf a b p) → ∀ P : Pt Unit, P.nx = I (dn ++ [p]) td → Nxt (sAsg (gN 1) (e2 dAdd (eVarW 1) (eLst (e1 lim (aCons (eVar 2) aNil))))) [.val (.lst (ps.map pt)), .val (.lst (qs.map pt)), .val (pt p)] t P := fun hx P hP => by
        unfold Nxt
        simp
        rw [hP, hI]
        refine ⟨by omega, qs ++ [p], .val (pt p), by simp, fun q h => ?_, by simp; omega, HWl.push (Rl := Rl) tr ir hs hw hx⟩
        rcases List.mem_append.mp h with h | h
        · exact hq q h
        · rw [List.mem_singleton.mp h]; exact hpm
      by_cases h2 : 2 ≤ qs.length
      · obtain ⟨l, a, b, rfl⟩ := last2_of h2
        obtain ⟨ea, eb⟩ := at_last2' (l := l) (a := a) (b := b)
        have ha := hp a (hq a (by simp))
        have hb' := hp b (hq b (by simp))
        have hlf := left_lf ha hb' hb
        have hdl : (l ++ [a, b]).dropLast = l ++ [a] := by rw [show l ++ [a, b] = (l ++ [a]) ++ [b] by simp, List.dropLast_concat]
        have wl : (l ++ [a, b]).length = l.length + 2 := by simp
        generalize hW : l ++ [a, b] = W at *
        simp [ea, eb, hlf]
        right
        refine ⟨by omega, ?_⟩
        by_cases hs' : lf a b p ≤ 0
        · right
          refine ⟨hs', l.length + 1, by omega, l ++ [a], by simp, by rw [cut_last, ← List.map_dropLast, hdl], fun x y h => hq _ (by rw [← hW]; simp at h ⊢; rcases h with h | h; exact .inl h; exact .inr (.inl h)), by simp; omega, ?_⟩
          rw [← hW] at hw
          exact HWl.pop (Rl := Rl) tr hw
        · left
          exact ⟨by omega, fin (.inr ⟨l, a, b, hW.symm, by omega⟩) _ rfl⟩
      · simp
        left
        exact ⟨by omega, fin (.inl (by omega)) _ rfl⟩
    · intro ρ t h2
      rw [hI] at h2
      obtain ⟨qs, s2, rfl, hq, hql, hst⟩ := h2
      unfold Nxt
      simp [cut_last]
      exact ⟨qs, rfl, fun a b h => hq _ h, hql, hst⟩
  obtain ⟨d, u, e, qs, rfl, h1, h2, h3⟩ := oE_ex' key
  exact ⟨qs, e, h1, h2, h3⟩
/-- a convex shape: each other corner lies strictly to the left of each side -/
structure Cvx (qs : List (Int × Int)) : Prop where
  len3 : 3 ≤ qs.length
  cv : ∀ i k a b c, qs[i]? = some a → qs[(i + 1) % qs.length]? = some b → qs[k]? = some c → k ≠ i → k ≠ (i + 1) % qs.length → 0 < lf a b c
theorem chn_same {Rl : Int × Int → Int × Int → Prop} (ir : ∀ {a}, ¬ Rl a a) {l : List (Int × Int)} {f : Int × Int} (h : Chn Rl l) (hf : ∀ x ∈ l, x = f) : l.length ≤ 1 := by
  match l, h, hf with
  | [], _, _ => exact Nat.zero_le _
  | [a], _, _ => exact Nat.le_refl _
  | a :: b :: l, h, hf =>
    have := h.st 0 a b rfl rfl
    rw [hf a (by simp), hf b (by simp)] at this
    exact absurd this ir
theorem cvx_of {U V : List (Int × Int)} {f z : Int × Int} (hU : (U ++ V ++ [f]).head? = some f) (hz : (V ++ [f]).head? = some z) (h1 : Chn lx (U ++ [z])) (h2 : Chn (fun a b => lx b a) (V ++ [f])) (hl : 3 ≤ U.length + V.length) : Cvx (U ++ V) := by
  let L := U ++ V ++ [f]
  let q : Nat → Int × Int := fun k => (L[k]?).getD (0, 0)
  have hLl : L.length = U.length + V.length + 1 := by show (U ++ V ++ [f]).length = _; simp; omega
  have qL : ∀ k, k ≤ U.length + V.length → L[k]? = some (q k) := fun k hk => by
    show L[k]? = some ((L[k]?).getD (0, 0))
    rw [List.getElem?_eq_getElem (by omega)]; rfl
  have eL : L = U ++ (V ++ [f]) := by show U ++ V ++ [f] = _; simp
  have lo : ∀ j, j ≤ U.length → (U ++ [z])[j]? = some (q j) := fun j hj => by
    have e := qL j (by omega)
    rw [eL] at e
    by_cases h : j < U.length
    · rw [List.getElem?_append_left h] at e ⊢
      exact e
    · have : j = U.length := by omega
      subst this
      rw [List.getElem?_append_right (Nat.le_refl _), Nat.sub_self] at e ⊢
      rw [← List.head?_eq_getElem?, hz] at e
      exact e
  have hi : ∀ j, U.length ≤ j → j ≤ U.length + V.length → (V ++ [f])[j - U.length]? = some (q j) := fun j h1 h2 => by
    have e := qL j h2
    rw [eL, List.getElem?_append_right h1] at e
    exact e
  have C : Cyc q U.length (U.length + V.length) := by
    refine ⟨fun j hj => h1.st j _ _ (lo j (by omega)) (lo (j + 1) (by omega)), fun j ha hj => ?_, fun j hj => h1.tu j _ _ _ (lo j (by omega)) (lo (j + 1) (by omega)) (lo (j + 2) (by omega)), fun j ha hj => ?_, ?_, by omega⟩
    · refine h2.st (j - U.length) _ _ (hi j ha (by omega)) ?_
      have := hi (j + 1) (by omega) (by omega)
      rwa [show j + 1 - U.length = j - U.length + 1 by omega] at this
    · refine h2.tu (j - U.length) _ _ _ (hi j ha (by omega)) ?_ ?_
      · have := hi (j + 1) (by omega) (by omega)
        rwa [show j + 1 - U.length = j - U.length + 1 by omega] at this
      · have := hi (j + 2) (by omega) (by omega)
        rwa [show j + 2 - U.length = j - U.length + 2 by omega] at this
    · have e0 := qL 0 (by omega)
      rw [← List.head?_eq_getElem?, show L.head? = some f from hU] at e0
      have em := qL (U.length + V.length) (Nat.le_refl _)
      rw [show L = (U ++ V) ++ [f] from rfl, List.getElem?_append_right (by simp)] at em
      simp at em
      rw [← Option.some.inj e0]
      exact em.symm
  have hm : (U ++ V).length = U.length + V.length := by simp
  have qs : ∀ k x, (U ++ V)[k]? = some x → k < U.length + V.length ∧ x = q k := fun k x e => by
    have hk : k < (U ++ V).length := (List.getElem?_eq_some_iff.mp e).1
    have := qL k (by omega)
    rw [show L = (U ++ V) ++ [f] from rfl, List.getElem?_append_left hk, e] at this
    cases this
    exact ⟨by omega, rfl⟩
  refine ⟨by omega, fun i k a b c ea eb ec h3 h4 => ?_⟩
  obtain ⟨hi', rfl⟩ := qs i a ea
  obtain ⟨hk', rfl⟩ := qs k c ec
  obtain ⟨_, rfl⟩ := qs _ b eb
  rw [hm] at h4 ⊢
  by_cases e : i + 1 = U.length + V.length
  · rw [e, Nat.mod_self] at h4 ⊢
    have := C.left i k hi' hk' h3 (by omega) (fun _ => h4)
    rw [e, C.ends] at this
    exact this
  · rw [Nat.mod_eq_of_lt (by omega)] at h4 ⊢
    exact C.left i k hi' hk' h3 h4 (fun z => absurd z e)
/-- both halves of a hull -/
theorem hull_core {ps : List (Int × Int)} (hp : ∀ p ∈ ps, Ptb p) (hl : ps.length ≤ 1000) : ∃ us vs : List (Int × Int),
    m__law_half [.lst ((sP ps).map pt)] () = .ok (.lst (us.map pt)) () ∧ m__law_half [.lst ((sP ps).reverse.map pt)] () = .ok (.lst (vs.map pt)) () ∧ (∀ q ∈ us ++ vs, q ∈ ps) ∧ us.length ≤ ps.length ∧ vs.length ≤ ps.length ∧ (3 ≤ us.length + vs.length → Cvx (us ++ vs)) := by
  have pm := sP_perm ps
  have pl := pm.length_eq
  have sr := sP_sorted ps
  have hr : ∀ p ∈ sP ps, Ptb p := fun p h => hp p (pm.mem_iff.mp h)
  obtain ⟨us, e1, m1, l1, s1⟩ := half_st (Rl := lx) (fun h1 h2 => lx_trans h1 h2) (fun h => lx_irr h) sr hr (by omega)
  obtain ⟨vs, e2, m2, l2, s2⟩ := half_st (Rl := fun a b => lx b a) (fun h1 h2 => lx_trans h2 h1) (fun h => lx_irr h) (ps := (sP ps).reverse) (List.pairwise_reverse.mpr (sr.imp fun h => h.imp Eq.symm id)) (fun p h => hr p (List.mem_reverse.mp h)) (by rw [List.length_reverse]; omega)
  rw [List.length_reverse] at l2
  refine ⟨us.dropLast, vs.dropLast, e1, e2, fun q hq => ?_, by simp; omega, by simp; omega, fun h3 => ?_⟩
  · rcases List.mem_append.mp hq with h | h
    · exact pm.mem_iff.mp (m1 q (List.dropLast_subset _ h))
    · exact pm.mem_iff.mp (List.mem_reverse.mp (m2 q (List.dropLast_subset _ h)))
  rcases s1 with ⟨e, rfl⟩ | ⟨f, dn', us', d1, u1, g1, c1⟩
  · rw [e] at l2
    simp at h3
    simp at l2
    rw [l2] at h3
    simp at h3
  rcases s2 with ⟨e, rfl⟩ | ⟨z, dn'', vs', d2, u2, g2, c2⟩
  · rw [List.reverse_eq_nil_iff] at e
    rw [e] at d1; cases d1
  have lastf : vs.getLast? = some f := by rw [g2, List.getLast?_reverse, d1]; rfl
  have lastz : us.getLast? = some z := by rw [g1, ← List.head?_reverse, d2]; rfl
  have uf : us ≠ [] := fun e => by rw [e] at u1; cases u1
  have vf : vs ≠ [] := fun e => by rw [e] at u2; cases u2
  have eu : us = us.dropLast ++ [z] := by
    have := List.dropLast_concat_getLast uf
    rw [List.getLast?_eq_some_getLast uf] at lastz
    cases lastz
    exact this.symm
  have ev : vs = vs.dropLast ++ [f] := by
    have := List.dropLast_concat_getLast vf
    rw [List.getLast?_eq_some_getLast vf] at lastf
    cases lastf
    exact this.symm
  rcases c1 with c1 | ⟨rfl, c1⟩
  · rcases c2 with c2 | ⟨rfl, c2⟩
    · refine cvx_of (f := f) (z := z) ?_ ?_ (by rw [← eu]; exact c1) (by rw [← ev]; exact c2) h3
      · cases n : us.dropLast with
        | nil =>
          rw [List.nil_append, ← ev, u2]
          rw [n, List.nil_append, u1] at eu
          have := (List.cons.inj eu).1
          rw [← this]
          rfl
        | cons x l =>
          rw [n, u1] at eu
          have := (List.cons.inj eu).1
          rw [← this]
          rfl
      · rw [← ev, u2]; rfl
    · have : us.length ≤ 1 := chn_same (Rl := lx) (fun h => lx_irr h) c1 (f := z) fun x hx => c2 x (List.mem_reverse.mpr (m1 x hx))
      simp at h3
      omega
  · have : vs.length ≤ 1 := by
      rcases c2 with c2 | ⟨rfl, c2⟩
      · exact chn_same (Rl := fun a b => lx b a) (fun h => lx_irr h) c2 (f := f) fun x hx => c1 x (List.mem_reverse.mp (m2 x hx))
      · simp at h3
    simp at h3
    omega
theorem snocRec {α : Type} {motive : List α → Prop} (l : List α) (nil : motive []) (snoc : ∀ (l : List α) (a : α), motive l → motive (l ++ [a])) : motive l := by
  have key : ∀ r : List α, motive r.reverse := fun r => by
    induction r with
    | nil => exact nil
    | cons a r ih => rw [List.reverse_cons]; exact snoc _ _ ih
  rw [← List.reverse_reverse l]
  exact key _
/-- the way that points as p, q do -/
def nw (p q : Int) : Int × Int := (p.fdiv (Int.gcd p q : Int), q.fdiv (Int.gcd p q : Int))
/-- the outward way of the side from a to b -/
def sideway (a b : Int × Int) : Int × Int := nw (b.2 - a.2) (a.1 - b.1)
def q0 (qs : List (Int × Int)) (k : Nat) : Int × Int := (qs[k]?).getD (0, 0)
/-- the ways of a shape's sides -/
def sw (qs : List (Int × Int)) : List (Int × Int) := (List.range qs.length).map fun i => sideway (q0 qs i) (q0 qs ((i + 1) % qs.length))
def ngp (w : Int × Int) : Int × Int := (-w.1, -w.2)
theorem ngp_ngp (w : Int × Int) : ngp (ngp w) = w := by unfold ngp; simp
theorem q0_at {qs : List (Int × Int)} {k : Nat} (h : k < qs.length) : qs[k]? = some (q0 qs k) := by unfold q0; rw [List.getElem?_eq_getElem h]; rfl
theorem sw_len (qs : List (Int × Int)) : (sw qs).length = qs.length := by unfold sw; simp
theorem sw_at {qs : List (Int × Int)} {k : Nat} (h : k < qs.length) : (sw qs)[k]? = some (sideway (q0 qs k) (q0 qs ((k + 1) % qs.length))) := by
  unfold sw
  rw [List.getElem?_map, List.getElem?_range h]; rfl
theorem nw_mul {p q : Int} (h : p ≠ 0 ∨ q ≠ 0) : ∃ g : Int, 0 < g ∧ g = Int.gcd p q ∧ p = g * (nw p q).1 ∧ q = g * (nw p q).2 := by
  have hg : 0 < (Int.gcd p q : Int) := by
    have : Int.gcd p q ≠ 0 := fun e => by
      rw [Int.gcd_eq_zero_iff] at e
      rcases h with h | h
      · exact h e.1
      · exact h e.2
    omega
  refine ⟨_, hg, rfl, ?_, ?_⟩
  · obtain ⟨k, hk⟩ := Int.gcd_dvd_left p q
    show p = _ * p.fdiv _
    conv => rhs; rhs; lhs; rw [hk]
    rw [fdiv_gcd (by omega)]
    exact hk
  · obtain ⟨k, hk⟩ := Int.gcd_dvd_right p q
    show q = _ * q.fdiv _
    conv => rhs; rhs; lhs; rw [hk]
    rw [fdiv_gcd (by omega)]
    exact hk
/-- a side's turn by its way -/
theorem lf_way {a b : Int × Int} (h : a ≠ b) : ∃ g : Int, 0 < g ∧ ∀ x : Int × Int, lf a b x = g * (((sideway a b).1 * a.1 + (sideway a b).2 * a.2) - ((sideway a b).1 * x.1 + (sideway a b).2 * x.2)) := by
  have hn : b.2 - a.2 ≠ 0 ∨ a.1 - b.1 ≠ 0 := by
    apply Classical.byContradiction
    intro z
    apply h
    obtain ⟨a1, a2⟩ := a
    obtain ⟨b1, b2⟩ := b
    simp at z ⊢
    omega
  obtain ⟨g, hg, _, e1, e2⟩ := nw_mul hn
  refine ⟨g, hg, fun x => ?_⟩
  show lf a b x = g * (((nw (b.2 - a.2) (a.1 - b.1)).1 * a.1 + (nw (b.2 - a.2) (a.1 - b.1)).2 * a.2) - ((nw (b.2 - a.2) (a.1 - b.1)).1 * x.1 + (nw (b.2 - a.2) (a.1 - b.1)).2 * x.2))
  generalize (nw (b.2 - a.2) (a.1 - b.1)).1 = u at *
  generalize (nw (b.2 - a.2) (a.1 - b.1)).2 = v at *
  unfold lf
  rw [show b.1 - a.1 = -(g * v) by omega, e1]
  grind
def hw (w x : Int × Int) : Int := w.1 * x.1 + w.2 * x.2
section
variable {qs : List (Int × Int)}
theorem Cvx.third (C : Cvx qs) {i : Nat} (hi : i < qs.length) : ∃ k, k < qs.length ∧ k ≠ i ∧ k ≠ (i + 1) % qs.length := by
  have h3 := C.len3
  by_cases e : i + 1 = qs.length
  · rw [e, Nat.mod_self]
    exact ⟨1, by omega, by omega, by omega⟩
  · rw [Nat.mod_eq_of_lt (by omega)]
    by_cases e2 : i = 0
    · exact ⟨2, by omega, by omega, by omega⟩
    · exact ⟨0, by omega, by omega, by omega⟩
theorem Cvx.ne (C : Cvx qs) {i : Nat} (hi : i < qs.length) : q0 qs i ≠ q0 qs ((i + 1) % qs.length) := fun e => by
  obtain ⟨k, hk, h1, h2⟩ := C.third hi
  have := C.cv i k _ _ _ (q0_at hi) (q0_at (Nat.mod_lt _ (by omega))) (q0_at hk) h1 h2
  rw [← e, lf_same0] at this
  omega
/-- along a side's way that side's corners lie farthest -/
theorem Cvx.far (C : Cvx qs) {i k : Nat} (hi : i < qs.length) (hk : k < qs.length) (h1 : k ≠ i) (h2 : k ≠ (i + 1) % qs.length) : hw (sideway (q0 qs i) (q0 qs ((i + 1) % qs.length))) (q0 qs k) < hw (sideway (q0 qs i) (q0 qs ((i + 1) % qs.length))) (q0 qs i) := by
  obtain ⟨g, hg, e⟩ := lf_way (C.ne hi)
  have := C.cv i k _ _ _ (q0_at hi) (q0_at (Nat.mod_lt _ (by omega))) (q0_at hk) h1 h2
  rw [e] at this
  have := Int.pos_of_mul_pos_right this hg
  unfold hw
  omega
theorem Cvx.far_eq (C : Cvx qs) {i : Nat} (hi : i < qs.length) : hw (sideway (q0 qs i) (q0 qs ((i + 1) % qs.length))) (q0 qs ((i + 1) % qs.length)) = hw (sideway (q0 qs i) (q0 qs ((i + 1) % qs.length))) (q0 qs i) := by
  obtain ⟨g, hg, e⟩ := lf_way (C.ne hi)
  have h := e (q0 qs ((i + 1) % qs.length))
  rw [lf_same] at h
  have := (Int.mul_eq_zero.mp h.symm).resolve_left (by omega)
  unfold hw
  omega
theorem Cvx.far_le (C : Cvx qs) {i k : Nat} (hi : i < qs.length) (hk : k < qs.length) : hw (sideway (q0 qs i) (q0 qs ((i + 1) % qs.length))) (q0 qs k) ≤ hw (sideway (q0 qs i) (q0 qs ((i + 1) % qs.length))) (q0 qs i) := by
  by_cases h1 : k = i
  · rw [h1]; exact Int.le_refl _
  · by_cases h2 : k = (i + 1) % qs.length
    · rw [h2, C.far_eq hi]; exact Int.le_refl _
    · exact Int.le_of_lt (C.far hi hk h1 h2)
theorem Cvx.ways_nodup (C : Cvx qs) : (sw qs).Nodup := by
  have h3 := C.len3
  rw [List.nodup_iff_pairwise_ne, List.pairwise_iff_getElem]
  intro i j hi hj hij e
  rw [sw_len] at hi hj
  have e' : sideway (q0 qs i) (q0 qs ((i + 1) % qs.length)) = sideway (q0 qs j) (q0 qs ((j + 1) % qs.length)) := by
    have a := sw_at hi
    have b := sw_at hj
    rw [List.getElem?_eq_getElem (by rw [sw_len]; exact hi)] at a
    rw [List.getElem?_eq_getElem (by rw [sw_len]; exact hj)] at b
    rw [← Option.some.inj a, ← Option.some.inj b, e]
  have mi : (i + 1) % qs.length = i + 1 := Nat.mod_eq_of_lt (by omega)
  have far1 := C.far_le (i := j) hj hi
  have eq1 := C.far_eq (i := j) hj
  rw [← e'] at far1 eq1
  by_cases hji : j = i + 1
  · have hm : (j + 1) % qs.length < qs.length := Nat.mod_lt _ (by omega)
    have n1 : (j + 1) % qs.length ≠ i := fun z => by
      by_cases q : j + 1 = qs.length
      · rw [q, Nat.mod_self] at z; omega
      · rw [Nat.mod_eq_of_lt (by omega)] at z; omega
    have n2 : (j + 1) % qs.length ≠ (i + 1) % qs.length := fun z => by
      rw [mi] at z
      by_cases q : j + 1 = qs.length
      · rw [q, Nat.mod_self] at z; omega
      · rw [Nat.mod_eq_of_lt (by omega)] at z; omega
    have := C.far hi hm n1 n2
    have f2 := C.far_eq hi
    rw [mi, ← hji] at f2
    rw [mi, ← hji] at this eq1
    omega
  · have := C.far hi hj (by omega) (by rw [mi]; exact hji)
    omega
end
/-! the pair ways -/
/-- ws turned round are put to l, each once -/
def addn (l ws : List (Int × Int)) : List (Int × Int) := ws.foldl (fun l w => if ngp w ∈ l then l else l ++ [ngp w]) l
theorem addn_snoc (l ws : List (Int × Int)) (w : Int × Int) : addn l (ws ++ [w]) = if ngp w ∈ addn l ws then addn l ws else addn l ws ++ [ngp w] := by unfold addn; rw [List.foldl_append]; rfl
theorem addn_nodup {l : List (Int × Int)} (h : l.Nodup) : ∀ ws : List (Int × Int), (addn l ws).Nodup := fun ws => by
  induction ws using snocRec with
  | nil => exact h
  | snoc ws w ih =>
    rw [addn_snoc]
    split
    · exact ih
    · rename_i hn
      rw [List.nodup_append]
      exact ⟨ih, by simp, fun a ha b hb => by rw [List.mem_singleton.mp hb]; rintro rfl; exact hn ha⟩
theorem addn_mem {l : List (Int × Int)} {x : Int × Int} (ws : List (Int × Int)) : x ∈ addn l ws ↔ x ∈ l ∨ ngp x ∈ ws := by
  induction ws using snocRec with
  | nil => simp [addn]
  | snoc ws w ih =>
    have key : x = ngp w ↔ ngp x = w := ⟨fun e => by rw [e, ngp_ngp], fun e => by rw [← e, ngp_ngp]⟩
    rw [addn_snoc]
    split
    · rename_i hn
      rw [ih, List.mem_append, List.mem_singleton, ← key]
      constructor
      · rintro (h | h)
        · exact .inl h
        · exact .inr (.inl h)
      · rintro (h | h | h)
        · exact .inl h
        · exact .inr h
        · exact ih.mp (by rw [h]; exact hn)
    · rw [List.mem_append, ih, List.mem_append, List.mem_singleton, List.mem_singleton, ← key, or_assoc]
theorem addn_len {l : List (Int × Int)} (ws : List (Int × Int)) : (addn l ws).length ≤ l.length + ws.length := by
  induction ws using snocRec with
  | nil => simp [addn]
  | snoc ws w ih =>
    rw [addn_snoc]
    split <;> simp <;> omega
/-- the pair ways of two shapes -/
def pwy (qs rs : List (Int × Int)) : List (Int × Int) := sP (addn (sw qs) (sw rs))
theorem pwy_mem {qs rs : List (Int × Int)} {x : Int × Int} : x ∈ pwy qs rs ↔ x ∈ sw qs ∨ ngp x ∈ sw rs := by
  unfold pwy
  rw [(sP_perm _).mem_iff, addn_mem]
theorem pwy_nodup {qs rs : List (Int × Int)} (h : (sw qs).Nodup) : (pwy qs rs).Nodup := (sP_perm _).nodup_iff.mpr (addn_nodup h _)
theorem nodup_ngp {l : List (Int × Int)} (h : l.Nodup) : (l.map ngp).Nodup := by
  rw [List.nodup_iff_pairwise_ne, List.pairwise_map]
  exact (List.nodup_iff_pairwise_ne.mp h).imp fun {a b} n e => n (by rw [← ngp_ngp a, e, ngp_ngp])
theorem pwy_turn {qs rs : List (Int × Int)} (h1 : (sw qs).Nodup) (h2 : (sw rs).Nodup) : pwy rs qs = sP ((pwy qs rs).map ngp) := by
  refine sP_eq ?_
  rw [List.perm_ext_iff_of_nodup (addn_nodup h2 _) (nodup_ngp (pwy_nodup h1))]
  intro x
  rw [addn_mem, List.mem_map]
  constructor
  · intro h
    refine ⟨ngp x, ?_, ngp_ngp x⟩
    rw [pwy_mem, ngp_ngp]
    exact h.symm
  · rintro ⟨y, h, rfl⟩
    rw [pwy_mem] at h
    rw [ngp_ngp]
    exact h.symm
theorem gcd_small {p q : Int} {n : Nat} (h : p ≠ 0 ∨ q ≠ 0) (hp : p.natAbs < 2 ^ n) (hq : q.natAbs < 2 ^ n) : (Int.gcd p q : Int) ≠ 0 ∧ (Int.gcd p q : Int).natAbs < 2 ^ n := by
  obtain ⟨g, hg, e, e1, e2⟩ := nw_mul h
  refine ⟨by omega, ?_⟩
  rcases h with h | h
  · have : Int.gcd p q ≤ p.natAbs := Int.gcd_le_natAbs_left _ h
    omega
  · have : Int.gcd p q ≤ q.natAbs := Int.gcd_le_natAbs_right _ h
    omega
theorem pt_ix0 {p : Int × Int} : dIx (pt p) (.int 0) = some (.int p.1) := rfl
theorem pt_ix1 {p : Int × Int} : dIx (pt p) (.int 1) = some (.int p.2) := rfl
theorem pt_gT {gs : Tgts} {ρ : Rho} {p : Int × Int} : gT gs ρ (pt p) = gs ρ [.int p.1, .int p.2] := rfl
theorem side_ne {a b : Int × Int} (h : a ≠ b) : b.2 - a.2 ≠ 0 ∨ a.1 - b.1 ≠ 0 := by
  apply Classical.byContradiction
  intro z
  apply h
  obtain ⟨a1, a2⟩ := a
  obtain ⟨b1, b2⟩ := b
  simp at z ⊢
  omega
theorem sub_small {a b : Int} (ha : a.natAbs < 2 ^ 21) (hb : b.natAbs < 2 ^ 21) : (a - b).natAbs < 2 ^ 22 := by omega
theorem enum_pts (qs : List (Int × Int)) : enumD (qs.map pt) = (List.range qs.length).map fun i => .tup [.int (i : Nat), pt (q0 qs i)] := by
  unfold enumD
  apply List.ext_getElem?
  intro i
  rw [List.getElem?_mapIdx, List.getElem?_map, List.getElem?_map]
  by_cases h : i < qs.length
  · rw [q0_at h, List.getElem?_range h]; rfl
  · have hr : (List.range qs.length)[i]? = none := List.getElem?_eq_none (by rw [List.length_range]; omega)
    rw [hr, List.getElem?_eq_none (by omega)]
    rfl
theorem range_split {n i : Nat} {dn td : List Nat} (h : List.range n = dn ++ i :: td) : i = dn.length ∧ i < n := by
  have hl := congrArg List.length h
  simp at hl
  have h1 : (List.range n)[dn.length]? = some i := by rw [h]; simp
  rw [List.getElem?_range (by omega)] at h1
  cases h1
  exact ⟨rfl, by omega⟩
theorem at_pts {qs : List (Int × Int)} {i : Nat} (h : i < qs.length) : atI (qs.map pt) (i : Int) = some (pt (q0 qs i)) := atI_nat (by rw [List.getElem?_map, q0_at h]; rfl)
theorem sw_take {qs : List (Int × Int)} {i : Nat} (h : i < qs.length) : (sw qs).take (i + 1) = (sw qs).take i ++ [sideway (q0 qs i) (q0 qs ((i + 1) % qs.length))] := by
  have hi : i < (sw qs).length := by rw [sw_len]; exact h
  have e := sw_at h
  rw [List.getElem?_eq_getElem hi] at e
  rw [List.take_succ_eq_append_getElem hi, Option.some.inj e]
/-! points among points -/
theorem eqv_pt (x y : Int × Int) : PyData.eqv (pyP y) (pyP x) = decide (x = y) := by
  obtain ⟨a, b⟩ := x
  obtain ⟨c, d⟩ := y
  simp [pyP, PyData.eqv, PyData.eqvAll]
  rw [Bool.eq_iff_iff]
  simp
  constructor
  · rintro ⟨rfl, rfl⟩; exact ⟨rfl, rfl⟩
  · rintro ⟨rfl, rfl⟩; exact ⟨rfl, rfl⟩
theorem shaped_pts (l : List (Int × Int)) : SeqAt.shaped (.list (l.map pyP)) = true := by
  unfold SeqAt.shaped
  refine Bool.and_eq_true_iff.mpr ⟨?_, decide_eq_true ?_⟩
  · show PyData.canLayAll0 (l.map pyP) = true
    induction l with
    | nil => rfl
    | cons x l ih => simp [PyData.canLayAll0, ih, pyP, PyData.canLay0]
  · have : PyData.depthAll (l.map pyP) ≤ 2 := by
      induction l with
      | nil => simp [PyData.depthAll]
      | cons x l ih => simp [PyData.depthAll, pyP, PyData.depth] at ih ⊢; omega
    simp [PyData.depth]
    omega
theorem inD_pts (x : Int × Int) (l : List (Int × Int)) : inD (pt x) (.lst (l.map pt)) = some (decide (x ∈ l)) := by
  have e1 : py (pt x) = some (pyP x) := rfl
  have sh : SeqAt.shaped (pyP x) = true := by simp [pyP, SeqAt.shaped, PyData.canLay0, PyData.canLayAll0, PyData.depth, PyData.depthAll]
  unfold inD
  dsimp only
  rw [e1, pys_pts]
  dsimp only
  rw [if_pos ⟨sh, shaped_pts l⟩]
  congr 1
  induction l with
  | nil => rfl
  | cons y l ih =>
    rw [List.map_cons, List.any_cons, ih, eqv_pt]
    simp
theorem notin_pts (x : Int × Int) (l : List (Int × Int)) : dNotIn (pt x) (.lst (l.map pt)) = some (.bl (!decide (x ∈ l))) := by unfold dNotIn; rw [inD_pts]; rfl
theorem nw_sz {p q : Int} {n : Nat} (h : p ≠ 0 ∨ q ≠ 0) (hp : p.natAbs < 2 ^ n) (hq : q.natAbs < 2 ^ n) : (nw p q).1.natAbs < 2 ^ n ∧ (nw p q).2.natAbs < 2 ^ n := by
  obtain ⟨g, hg, _, e1, e2⟩ := nw_mul h
  have l : ∀ x y : Int, x = g * y → y.natAbs ≤ x.natAbs := fun x y e => by
    rw [e, Int.natAbs_mul]; exact Nat.le_mul_of_pos_left _ (by omega)
  have := l _ _ e1
  have := l _ _ e2
  omega
def minP (p : Int × Int) (ps : List (Int × Int)) : Int × Int := ps.foldl (fun a y => if y.1 < a.1 ∨ (y.1 = a.1 ∧ y.2 < a.2) then y else a) p
theorem minD_pts (ps : List (Int × Int)) : ∀ p : Int × Int, PySem.W.minD (pyP p) (ps.map pyP) = pyP (minP p ps) := by
  induction ps with
  | nil => intro p; rfl
  | cons y ps ih =>
    intro p
    have e : (if PySem.W.dataLt (pyP y) (pyP p) then pyP y else pyP p) = pyP (if y.1 < p.1 ∨ (y.1 = p.1 ∧ y.2 < p.2) then y else p) := by
      rw [show PySem.W.dataLt (pyP y) (pyP p) = decide (y.1 < p.1 ∨ (y.1 = p.1 ∧ y.2 < p.2)) from PySem.W.dataLt_ii ..]
      by_cases h : y.1 < p.1 ∨ (y.1 = p.1 ∧ y.2 < p.2)
      · rw [if_pos h, if_pos (decide_eq_true h)]
      · rw [if_neg h, if_neg (by simpa using h)]
    show PySem.W.minD (if PySem.W.dataLt (pyP y) (pyP p) then pyP y else pyP p) (ps.map pyP) = _
    rw [e, ih]
    rfl
open Classical in
theorem min_pts (p : Int × Int) (ps : List (Int × Int)) : fMinD [.lst ((p :: ps).map pt)] = some (pt (minP p ps)) := by
  have e := pys_pts (p :: ps)
  have c : MinC (pyP p) (ps.map pyP) := by
    refine ⟨⟨fun x hx y hy => ?_, fun x hx => ?_⟩, ?_⟩
    · rw [← List.map_cons] at hx hy
      obtain ⟨a, _, rfl⟩ := List.mem_map.mp hx
      obtain ⟨b, _, rfl⟩ := List.mem_map.mp hy
      rfl
    · rw [← List.map_cons] at hx
      obtain ⟨a, _, rfl⟩ := List.mem_map.mp hx
      exact fun z => by cases z
    · have : ∀ l : List (Int × Int), PyData.depthAll (l.map pyP) ≤ 60 := fun l => by
        induction l with
        | nil => simp [PyData.depthAll]
        | cons x l ih => simp [PyData.depthAll, pyP, PyData.depth] at ih ⊢; omega
      exact this (p :: ps)
  show (pys ((p :: ps).map pt)).bind _ = _
  rw [e, Option.bind_some]
  show (if MinC (pyP p) (ps.map pyP) then some (qd (PySem.W.minD (pyP p) (ps.map pyP))) else none) = _
  rw [if_pos c, minD_pts]
  simp [qd, qds, pyP, pt]
theorem idx_pts {l : List (Int × Int)} {x : Int × Int} {j : Nat} (h : l[j]? = some x) (hno : ∀ m, m < j → l[m]? ≠ some x) : dIdx (l.map pt) (pt x) = some (.int (j : Nat)) := by
  have e1 : py (pt x) = some (pyP x) := rfl
  have sh : SeqAt.shaped (pyP x) = true := by simp [pyP, SeqAt.shaped, PyData.canLay0, PyData.canLayAll0, PyData.depth, PyData.depthAll]
  unfold dIdx
  rw [e1, pys_pts]
  dsimp only
  rw [if_pos ⟨shaped_pts l, sh⟩]
  have hj : j < l.length := by
    apply Classical.byContradiction
    intro z
    rw [List.getElem?_eq_none (by omega)] at h
    cases h
  have f : (l.map pyP).findIdx? (fun z => PyData.eqv z (pyP x)) = some j := by
    rw [List.findIdx?_eq_some_iff_getElem]
    refine ⟨by rw [List.length_map]; exact hj, ?_, fun m hm => ?_⟩
    · rw [List.getElem?_eq_getElem hj] at h
      rw [List.getElem_map, eqv_pt]
      simp [Option.some.inj h]
    · have hml : m < l.length := Nat.lt_trans hm hj
      have := hno m hm
      rw [List.getElem?_eq_getElem hml] at this
      rw [List.getElem_map, eqv_pt]
      simp
      exact fun z => this (by rw [z])
  rw [f]
  rfl
theorem nw_gcd {p q : Int} (h : p ≠ 0 ∨ q ≠ 0) : Int.gcd (nw p q).1 (nw p q).2 = 1 := by
  obtain ⟨g, hg, eg, e1, e2⟩ := nw_mul h
  have e : (Int.gcd p q) = g.natAbs * Int.gcd (nw p q).1 (nw p q).2 := by
    have k : Int.gcd (g * (nw p q).1) (g * (nw p q).2) = g.natAbs * Int.gcd (nw p q).1 (nw p q).2 := Int.gcd_mul_left ..
    rw [← e1, ← e2] at k
    exact k
  have gp : (Int.gcd p q : Nat) = g.natAbs := by omega
  have : g.natAbs * Int.gcd (nw p q).1 (nw p q).2 = g.natAbs * 1 := by omega
  exact Nat.eq_of_mul_eq_mul_left (by omega) this
theorem gcd_ne0 {w : Int × Int} (h : Int.gcd w.1 w.2 = 1) : w ≠ (0, 0) := fun z => by rw [z] at h; simp at h
theorem gcd_ngp {w : Int × Int} (h : Int.gcd w.1 w.2 = 1) : Int.gcd (ngp w).1 (ngp w).2 = 1 := by
  show Int.gcd (-w.1) (-w.2) = 1
  rw [Int.gcd_neg, Int.neg_gcd]; exact h
theorem sw_gcd {qs : List (Int × Int)} {w : Int × Int} (C : Cvx qs) (h : w ∈ sw qs) : Int.gcd w.1 w.2 = 1 := by
  obtain ⟨i, hi, rfl⟩ := List.mem_map.mp h
  exact nw_gcd (side_ne (C.ne (List.mem_range.mp hi)))
theorem pwy_gcd {qs rs : List (Int × Int)} {w : Int × Int} (C1 : Cvx qs) (C2 : Cvx rs) (h : w ∈ pwy qs rs) : Int.gcd w.1 w.2 = 1 := by
  rcases pwy_mem.mp h with h | h
  · exact sw_gcd C1 h
  · have := gcd_ngp (sw_gcd C2 h)
    rwa [ngp_ngp] at this
theorem Chn.cons {Rl : Int × Int → Int × Int → Prop} {a b : Int × Int} {l : List (Int × Int)} (h1 : Rl a b) (h2 : ∀ c, l.head? = some c → 0 < lf a b c) (h : Chn Rl (b :: l)) : Chn Rl (a :: b :: l) := by
  refine ⟨fun j x y e1 e2 => ?_, fun j x y z e1 e2 e3 => ?_⟩
  · cases j with
    | zero => cases e1; cases e2; exact h1
    | succ j => exact h.st j x y e1 e2
  · cases j with
    | zero => cases e1; cases e2; exact h2 z (by rw [List.head?_eq_getElem?]; exact e3)
    | succ j => exact h.tu j x y z e1 e2 e3
theorem Chn.c1 {Rl : Int × Int → Int × Int → Prop} {a b : Int × Int} (h : Rl a b) : Chn Rl [a, b] := Chn.two h
theorem Chn.c2 {Rl : Int × Int → Int × Int → Prop} {a b c : Int × Int} {l : List (Int × Int)} (h1 : Rl a b) (h2 : 0 < lf a b c) (h : Chn Rl (b :: c :: l)) : Chn Rl (a :: b :: c :: l) := Chn.cons h1 (fun x e => by cases e; exact h2) h
theorem box_cvx {x y w h : Int} (hw : 0 < w) (hh : 0 < h) : Cvx [(x, y), (x + w, y), (x + w, y + h), (x, y + h)] := by
  have p := Int.mul_pos hw hh
  exact cvx_of (U := [(x, y), (x + w, y)]) (V := [(x + w, y + h), (x, y + h)]) (f := (x, y)) (z := (x + w, y + h)) rfl rfl
    (.c2 (.inl (show x < x + w by omega)) (by unfold lf; simp; grind) (.c1 (.inr ⟨rfl, show y < y + h by omega⟩)))
    (.c2 (.inl (show x < x + w by omega)) (by unfold lf; simp; grind) (.c1 (.inr ⟨rfl, show y < y + h by omega⟩))) (by show 3 ≤ 4; decide)
/-- the greatest of such sums over the corners -/
def rz (w : Int × Int) (qs : List (Int × Int)) : Int := ((qs.map (hw w)).max?).getD 0
theorem rz_some {w : Int × Int} {qs : List (Int × Int)} (h : qs ≠ []) : (qs.map (hw w)).max? = some (rz w qs) := by
  unfold rz
  cases e : (qs.map (hw w)).max? with
  | none =>
    rw [List.max?_eq_none_iff] at e
    exact absurd (List.map_eq_nil_iff.mp e) h
  | some m => rfl
theorem rz_mem {w : Int × Int} {qs : List (Int × Int)} (h : qs ≠ []) : ∃ c ∈ qs, hw w c = rz w qs := by
  have := List.max?_mem (rz_some (w := w) h)
  obtain ⟨c, hc, e⟩ := List.mem_map.mp this
  exact ⟨c, hc, e⟩
theorem rz_ge {w : Int × Int} {qs : List (Int × Int)} {c : Int × Int} (h : c ∈ qs) : hw w c ≤ rz w qs := by
  have hn : qs ≠ [] := fun z => by rw [z] at h; cases h
  exact (List.max?_le_iff (rz_some hn)).mp (Int.le_refl _) _ (List.mem_map.mpr ⟨c, h, rfl⟩)
theorem hw_sz {w c : Int × Int} {n : Nat} (h1 : w.1.natAbs < 2 ^ n) (h2 : w.2.natAbs < 2 ^ n) (hc : Ptb c) : (hw w c).natAbs < 2 ^ (n + 22) := sz_add (sz_mul h1 hc.1) (sz_mul h2 hc.2)
theorem rz_sz {w : Int × Int} {qs : List (Int × Int)} {n : Nat} (hn : qs ≠ []) (h1 : w.1.natAbs < 2 ^ n) (h2 : w.2.natAbs < 2 ^ n) (hp : ∀ q ∈ qs, Ptb q) : (rz w qs).natAbs < 2 ^ (n + 22) := by
  obtain ⟨c, hc, e⟩ := rz_mem (w := w) hn
  rw [← e]
  exact hw_sz h1 h2 (hp c hc)
def cx (a b : Int × Int) : Int := a.1 * b.2 - a.2 * b.1
def dt (a b : Int × Int) : Int := a.1 * b.1 + a.2 * b.2
theorem hw_dt (w x : Int × Int) : hw w x = dt w x := rfl
/-- the corner that lies farthest along a way, and its two sides -/
theorem Cvx.cone {qs : List (Int × Int)} (C : Cvx qs) (u : Int × Int) : ∃ a N1 N2, a ∈ qs ∧ N1 ∈ sw qs ∧ N2 ∈ sw qs ∧ (∀ x ∈ qs, hw N1 x ≤ hw N1 a) ∧ (∀ x ∈ qs, hw N2 x ≤ hw N2 a) ∧ 0 < cx N1 N2 ∧ 0 ≤ cx N1 u ∧ 0 ≤ cx u N2 ∧ ∀ x ∈ qs, hw u x ≤ hw u a := by
  have h3 := C.len3
  have hn : qs ≠ [] := fun z => by rw [z] at h3; simp at h3
  obtain ⟨a, ha, ea⟩ := rz_mem (w := u) hn
  have am : ∀ x ∈ qs, hw u x ≤ hw u a := fun x hx => by rw [ea]; exact rz_ge hx
  obtain ⟨i, hi, rfl⟩ := List.mem_iff_getElem.mp ha
  have e0 : qs[i] = q0 qs i := by
    have := q0_at hi
    rw [List.getElem?_eq_getElem hi] at this
    exact Option.some.inj this
  rw [e0] at am
  have hp : (i + qs.length - 1) % qs.length < qs.length := Nat.mod_lt _ (by omega)
  have hnx : (i + 1) % qs.length < qs.length := Nat.mod_lt _ (by omega)
  have ep : ((i + qs.length - 1) % qs.length + 1) % qs.length = i := by
    by_cases z : i = 0
    · rw [z, Nat.zero_add, Nat.mod_eq_of_lt (show qs.length - 1 < qs.length by omega), show qs.length - 1 + 1 = qs.length by omega, Nat.mod_self]
    · rw [show i + qs.length - 1 = (i - 1) + qs.length by omega, Nat.add_mod_right, Nat.mod_eq_of_lt (show i - 1 < qs.length by omega), show i - 1 + 1 = i by omega, Nat.mod_eq_of_lt hi]
  have pn : (i + 1) % qs.length ≠ (i + qs.length - 1) % qs.length := fun z => by
    by_cases z0 : i = 0
    · rw [z0, Nat.zero_add, Nat.zero_add, Nat.mod_eq_of_lt (by omega), Nat.mod_eq_of_lt (by omega)] at z; omega
    · rw [show i + qs.length - 1 = (i - 1) + qs.length by omega, Nat.add_mod_right, Nat.mod_eq_of_lt (show i - 1 < qs.length by omega)] at z
      by_cases z1 : i + 1 = qs.length
      · rw [z1, Nat.mod_self] at z; omega
      · rw [Nat.mod_eq_of_lt (by omega)] at z; omega
  have pn2 : (i + 1) % qs.length ≠ i := fun z => by
    by_cases z1 : i + 1 = qs.length
    · rw [z1, Nat.mod_self] at z; omega
    · rw [Nat.mod_eq_of_lt (by omega)] at z; omega
  have mem : ∀ x ∈ qs, ∃ k, k < qs.length ∧ x = q0 qs k := fun x hx => by
    obtain ⟨k, hk, rfl⟩ := List.mem_iff_getElem.mp hx
    refine ⟨k, hk, ?_⟩
    have := q0_at hk
    rw [List.getElem?_eq_getElem hk] at this
    exact Option.some.inj this
  have f2 := fun k hk => C.far_le (i := i) (k := k) hi hk
  have f1 := fun k hk => C.far_le (i := (i + qs.length - 1) % qs.length) (k := k) hp hk
  have f1e := C.far_eq (i := (i + qs.length - 1) % qs.length) hp
  rw [ep] at f1e
  have ne1 := C.ne hp
  have ne2 := C.ne hi
  have tn := C.cv ((i + qs.length - 1) % qs.length) ((i + 1) % qs.length) _ _ _ (q0_at hp) (q0_at (Nat.mod_lt _ (by omega))) (q0_at hnx) pn (by rw [ep]; exact pn2)
  rw [ep] at tn ne1 f1
  have s1 := List.mem_of_getElem? (sw_at hp)
  have s2 := List.mem_of_getElem? (sw_at hi)
  rw [ep] at s1
  have u1 := am _ (List.mem_of_getElem? (q0_at hp))
  have u2 := am _ (List.mem_of_getElem? (q0_at hnx))
  obtain ⟨g1, p1, _, x1, y1⟩ := nw_mul (side_ne ne1)
  obtain ⟨g2, p2, _, x2, y2⟩ := nw_mul (side_ne ne2)
  refine ⟨_, _, _, List.mem_of_getElem? (q0_at hi), s1, s2, fun x hx => ?_, fun x hx => ?_, ?_, ?_, ?_, am⟩
  · obtain ⟨k, hk, rfl⟩ := mem x hx
    rw [f1e]; exact f1 k hk
  · obtain ⟨k, hk, rfl⟩ := mem x hx
    exact f2 k hk
  all_goals
    unfold sideway
    generalize nw ((q0 qs i).2 - (q0 qs ((i + qs.length - 1) % qs.length)).2) ((q0 qs ((i + qs.length - 1) % qs.length)).1 - (q0 qs i).1) = N1 at *
    generalize nw ((q0 qs ((i + 1) % qs.length)).2 - (q0 qs i).2) ((q0 qs i).1 - (q0 qs ((i + 1) % qs.length)).1) = N2 at *
    generalize q0 qs ((i + qs.length - 1) % qs.length) = A at *
    generalize q0 qs ((i + 1) % qs.length) = E at *
    generalize q0 qs i = B at *
    obtain ⟨a1, a2⟩ := A
    obtain ⟨b1, b2⟩ := B
    obtain ⟨c1, c2⟩ := E
    obtain ⟨n1, n2⟩ := N1
    obtain ⟨m1, m2⟩ := N2
    obtain ⟨v1, v2⟩ := u
    simp only [cx, lf, hw] at *
  · have id : (b1 - a1) * (c2 - a2) - (b2 - a2) * (c1 - a1) = g1 * (g2 * (n1 * m2 - n2 * m1)) := by
      have e1 : b1 - a1 = -(g1 * n2) := by omega
      have e2 : c2 - a2 = g2 * m1 + g1 * n1 := by omega
      have e3 : c1 - a1 = -(g2 * m2) + -(g1 * n2) := by omega
      rw [e1, e2, e3, x1]
      grind
    rw [id] at tn
    exact Int.pos_of_mul_pos_right (Int.pos_of_mul_pos_right tn p1) p2
  · have id : g1 * (n1 * v2 - n2 * v1) = (v1 * b1 + v2 * b2) - (v1 * a1 + v2 * a2) := by
      have : g1 * (n1 * v2 - n2 * v1) = (g1 * n1) * v2 - (g1 * n2) * v1 := by grind
      rw [this, ← x1, ← y1]
      grind
    have : 0 ≤ g1 * (n1 * v2 - n2 * v1) := by omega
    exact Int.nonneg_of_mul_nonneg_right this p1
  · have id : g2 * (v1 * m2 - v2 * m1) = (v1 * b1 + v2 * b2) - (v1 * c1 + v2 * c2) := by
      have : g2 * (v1 * m2 - v2 * m1) = v1 * (g2 * m2) - v2 * (g2 * m1) := by grind
      rw [this, ← x2, ← y2]
      grind
    have : 0 ≤ g2 * (v1 * m2 - v2 * m1) := by omega
    exact Int.nonneg_of_mul_nonneg_right this p2
/-- whoever is best along two ways is so along each between them -/
theorem cone_best {qs : List (Int × Int)} {a N1 N2 w : Int × Int} (h1 : ∀ x ∈ qs, hw N1 x ≤ hw N1 a) (h2 : ∀ x ∈ qs, hw N2 x ≤ hw N2 a) (hc : 0 < cx N1 N2) (k1 : 0 ≤ cx N1 w) (k2 : 0 ≤ cx w N2) : ∀ x ∈ qs, hw w x ≤ hw w a := fun x hx => by
  have e1 := Int.mul_nonneg k2 (show 0 ≤ hw N1 a - hw N1 x by have := h1 x hx; omega)
  have e2 := Int.mul_nonneg k1 (show 0 ≤ hw N2 a - hw N2 x by have := h2 x hx; omega)
  have id : cx N1 N2 * (hw w a - hw w x) = cx w N2 * (hw N1 a - hw N1 x) + cx N1 w * (hw N2 a - hw N2 x) := by unfold cx hw; grind
  have : 0 ≤ cx N1 N2 * (hw w a - hw w x) := by omega
  have := Int.nonneg_of_mul_nonneg_right this hc
  omega
theorem best_rz {qs : List (Int × Int)} {a w : Int × Int} (ha : a ∈ qs) (h : ∀ x ∈ qs, hw w x ≤ hw w a) : rz w qs = hw w a := by
  obtain ⟨x, hx, e⟩ := rz_mem (w := w) (qs := qs) (fun z => by rw [z] at ha; cases ha)
  have := rz_ge (w := w) ha
  have := h x hx
  omega
/-! where no pair way parts, none does -/
def dq (w : Int × Int) (px py : Rat) : Rat := (w.1 : Rat) * px + (w.2 : Rat) * py
/-- two shapes: how far along a way they reach together -/
def hz (qs rs : List (Int × Int)) (w : Int × Int) : Int := rz w qs + rz (ngp w) rs
theorem hz_ge {qs rs : List (Int × Int)} {w a c : Int × Int} (ha : a ∈ qs) (hc : c ∈ rs) : hw w a - hw w c ≤ hz qs rs w := by
  have h1 := rz_ge (w := w) ha
  have h2 := rz_ge (w := ngp w) hc
  have : hw (ngp w) c = -hw w c := by unfold hw ngp; grind
  unfold hz
  omega
theorem cast_hw (w : Int × Int) (a : Int × Int) : ((hw w a : Int) : Rat) = dq w ((a.1 : Int) : Rat) ((a.2 : Int) : Rat) := by
  unfold hw dq
  rw [Rat.intCast_add, Rat.intCast_mul, Rat.intCast_mul]
theorem sat_par {qs rs : List (Int × Int)} {px py : Rat} {u w : Int × Int} (hq : qs ≠ []) (hr : rs ≠ []) (h : dq w px py < (hz qs rs w : Int)) (h0 : cx u w = 0) (h1 : 0 < dt u w) : dq u px py < (hz qs rs u : Int) := by
  obtain ⟨a, ha, ea⟩ := rz_mem (w := w) hq
  obtain ⟨c, hc, ec⟩ := rz_mem (w := ngp w) hr
  have hge := hz_ge (w := u) ha hc
  have ez : hz qs rs w = hw w a - hw w c := by
    have : hw (ngp w) c = -hw w c := by unfold hw ngp; grind
    unfold hz
    omega
  have wp : 0 < dt w w := by
    have q1 : ∀ z : Int, 0 ≤ z * z := fun z => by rw [← Int.natAbs_mul_self]; omega
    have q3 : ∀ z : Int, z * z = 0 → z = 0 := fun z e => (Int.mul_eq_zero.mp e).elim id id
    have := q1 w.1
    have := q1 w.2
    apply Classical.byContradiction
    intro n
    unfold dt at n h1
    have e1 := q3 w.1 (by omega)
    have e2 := q3 w.2 (by omega)
    rw [e1, e2] at h1
    omega
  have par : ∀ x y : Rat, ((dt w w : Int) : Rat) * dq u x y = ((dt u w : Int) : Rat) * dq w x y := fun x y => by
    have h0' : ((cx u w : Int) : Rat) = 0 := by rw [h0]; rfl
    unfold dt dq
    unfold cx at h0'
    simp only [Rat.intCast_add, Rat.intCast_mul, Rat.intCast_sub] at h0' ⊢
    generalize (w.1 : Rat) = w1 at *
    generalize (w.2 : Rat) = w2 at *
    generalize (u.1 : Rat) = u1 at *
    generalize (u.2 : Rat) = u2 at *
    have : (w1 * w1 + w2 * w2) * (u1 * x + u2 * y) - (u1 * w1 + u2 * w2) * (w1 * x + w2 * y) = (u1 * w2 - u2 * w1) * (w2 * x - w1 * y) := by grind
    rw [h0', Rat.zero_mul] at this
    grind
  have wpq : 0 < ((dt w w : Int) : Rat) := Rat.intCast_pos.mpr wp
  have upq : 0 < ((dt u w : Int) : Rat) := Rat.intCast_pos.mpr h1
  have e1 := par px py
  have e2 := par ((a.1 : Int) : Rat) ((a.2 : Int) : Rat)
  have e3 := par ((c.1 : Int) : Rat) ((c.2 : Int) : Rat)
  rw [← cast_hw, ← cast_hw] at e2 e3
  rw [ez, Rat.intCast_sub] at h
  have hge' : ((hw u a : Int) : Rat) - ((hw u c : Int) : Rat) ≤ ((hz qs rs u : Int) : Rat) := by rw [← Rat.intCast_sub]; exact Rat.intCast_le_intCast.mpr hge
  have m := Rat.mul_lt_mul_of_pos_left h upq
  have key : ((dt w w : Int) : Rat) * dq u px py < ((dt w w : Int) : Rat) * (((hw u a : Int) : Rat) - ((hw u c : Int) : Rat)) := by
    rw [e1]
    have : ((dt w w : Int) : Rat) * (((hw u a : Int) : Rat) - ((hw u c : Int) : Rat)) = ((dt u w : Int) : Rat) * (((hw w a : Int) : Rat) - ((hw w c : Int) : Rat)) := by grind
    rw [this]
    exact m
  have lt : dq u px py < ((hw u a : Int) : Rat) - ((hw u c : Int) : Rat) := by
    apply Classical.byContradiction
    intro n
    have := Rat.mul_le_mul_of_nonneg_left (Rat.not_lt.mp n) (Rat.le_of_lt wpq)
    exact absurd key (Rat.not_lt.mpr this)
  exact Std.lt_of_lt_of_le lt hge'
theorem sat_cone {qs rs : List (Int × Int)} {px py : Rat} {u L U a c : Int × Int} (ha : a ∈ qs) (hc : c ∈ rs) (hL : dq L px py < (hz qs rs L : Int)) (hU : dq U px py < (hz qs rs U : Int)) (eL : hz qs rs L = hw L a - hw L c) (eU : hz qs rs U = hw U a - hw U c) (h1 : 0 < cx L u) (h2 : 0 < cx u U) (h3 : 0 < cx L U) : dq u px py < (hz qs rs u : Int) := by
  have hge := hz_ge (w := u) ha hc
  have id : ∀ x y : Rat, ((cx L U : Int) : Rat) * dq u x y = ((cx u U : Int) : Rat) * dq L x y + ((cx L u : Int) : Rat) * dq U x y := fun x y => by
    unfold cx dq
    simp only [Rat.intCast_sub, Rat.intCast_mul]
    grind
  have p1 : 0 < ((cx L u : Int) : Rat) := Rat.intCast_pos.mpr h1
  have p2 : 0 < ((cx u U : Int) : Rat) := Rat.intCast_pos.mpr h2
  have p3 : 0 < ((cx L U : Int) : Rat) := Rat.intCast_pos.mpr h3
  have e1 := id px py
  have e2 := id ((a.1 : Int) : Rat) ((a.2 : Int) : Rat)
  have e3 := id ((c.1 : Int) : Rat) ((c.2 : Int) : Rat)
  rw [← cast_hw, ← cast_hw, ← cast_hw] at e2 e3
  rw [eL, Rat.intCast_sub] at hL
  rw [eU, Rat.intCast_sub] at hU
  have m1 := Rat.mul_lt_mul_of_pos_left hL p2
  have m2 := Rat.mul_lt_mul_of_pos_left hU p1
  have hge' : ((hw u a : Int) : Rat) - ((hw u c : Int) : Rat) ≤ ((hz qs rs u : Int) : Rat) := by rw [← Rat.intCast_sub]; exact Rat.intCast_le_intCast.mpr hge
  have key : ((cx L U : Int) : Rat) * dq u px py < ((cx L U : Int) : Rat) * (((hw u a : Int) : Rat) - ((hw u c : Int) : Rat)) := by
    rw [e1]
    have : ((cx L U : Int) : Rat) * (((hw u a : Int) : Rat) - ((hw u c : Int) : Rat)) = ((cx u U : Int) : Rat) * (((hw L a : Int) : Rat) - ((hw L c : Int) : Rat)) + ((cx L u : Int) : Rat) * (((hw U a : Int) : Rat) - ((hw U c : Int) : Rat)) := by grind
    rw [this]
    grind
  have lt : dq u px py < ((hw u a : Int) : Rat) - ((hw u c : Int) : Rat) := by
    apply Classical.byContradiction
    intro n
    have := Rat.mul_le_mul_of_nonneg_left (Rat.not_lt.mp n) (Rat.le_of_lt p3)
    exact absurd key (Rat.not_lt.mpr this)
  exact Std.lt_of_lt_of_le lt hge'
theorem cx_par {N1 N2 u : Int × Int} (h1 : 0 < cx N1 N2) (h2 : 0 ≤ cx N1 u) (h3 : cx u N2 = 0) (hu : u ≠ (0, 0)) : 0 < dt u N2 := by
  have id : dt N2 N2 * cx N1 u = dt u N2 * cx N1 N2 + (N1.1 * N2.1 + N1.2 * N2.2) * -cx u N2 := by unfold dt cx; grind
  rw [h3, Int.neg_zero, Int.mul_zero, Int.add_zero] at id
  have sq : ∀ z : Int, 0 ≤ z * z := fun z => by rw [← Int.natAbs_mul_self]; omega
  have d0 : 0 ≤ dt N2 N2 := by have := sq N2.1; have := sq N2.2; unfold dt; omega
  have e := Int.mul_nonneg d0 h2
  rw [id] at e
  have ge : 0 ≤ dt u N2 := Int.nonneg_of_mul_nonneg_left e h1
  apply Classical.byContradiction
  intro n
  have z : dt u N2 = 0 := by omega
  have q3 : ∀ z : Int, z * z = 0 → z = 0 := fun z e => (Int.mul_eq_zero.mp e).elim (fun z => z) (fun z => z)
  have i1 : dt N2 N2 * u.1 = dt u N2 * N2.1 + cx u N2 * N2.2 := by unfold dt cx; grind
  have i2 : dt N2 N2 * u.2 = dt u N2 * N2.2 - cx u N2 * N2.1 := by unfold dt cx; grind
  rw [z, h3] at i1 i2
  have nz : dt N2 N2 ≠ 0 := fun e => by
    have a1 := sq N2.1
    have a2 := sq N2.2
    unfold dt at e
    have e1 := q3 N2.1 (by omega)
    have e2 := q3 N2.2 (by omega)
    unfold cx at h1
    rw [e1, e2] at h1
    omega
  apply hu
  have u1 : u.1 = 0 := (Int.mul_eq_zero.mp (i1.trans (by omega))).resolve_left nz
  have u2 : u.2 = 0 := (Int.mul_eq_zero.mp (i2.trans (by omega))).resolve_left nz
  exact Prod.ext u1 u2
theorem cx_anti (a b : Int × Int) : cx a b = -cx b a := by unfold cx; grind
theorem cx_ngp (a b : Int × Int) : cx (ngp a) (ngp b) = cx a b := by unfold cx ngp; grind
theorem dt_comm (a b : Int × Int) : dt a b = dt b a := by unfold dt; grind
def rfl2 (v : Int × Int) : Int × Int := (v.1, -v.2)
theorem cx_par' {N1 N2 u : Int × Int} (h1 : 0 < cx N1 N2) (h2 : 0 ≤ cx u N2) (h3 : cx N1 u = 0) (hu : u ≠ (0, 0)) : 0 < dt u N1 := by
  have e : ∀ a b, cx (rfl2 a) (rfl2 b) = cx b a := fun a b => by unfold cx rfl2; grind
  have := cx_par (N1 := rfl2 N2) (N2 := rfl2 N1) (u := rfl2 u) (by rw [e]; exact h1) (by rw [e]; exact h2) (by rw [e]; exact h3) (fun z => hu (by
    have z1 := congrArg Prod.fst z
    have z2 := congrArg Prod.snd z
    have : u.1 = 0 := z1
    have : -u.2 = 0 := z2
    exact Prod.ext (by assumption) (by show u.2 = 0; omega)))
  have e : dt (rfl2 u) (rfl2 N1) = dt u N1 := by unfold dt rfl2; grind
  omega
theorem cx_ngp1 (a b : Int × Int) : cx (ngp a) b = -cx a b := by unfold cx ngp; grind
theorem hw_ngp (w x : Int × Int) : hw (ngp w) x = -hw w x := by unfold hw ngp; grind
theorem sat {qs rs : List (Int × Int)} {px py : Rat} (C1 : Cvx qs) (C2 : Cvx rs) (h : ∀ w ∈ pwy qs rs, dq w px py < (hz qs rs w : Int)) (u : Int × Int) (hu : u ≠ (0, 0)) : dq u px py < (hz qs rs u : Int) := by
  have n1 : qs ≠ [] := fun z => by have := C1.len3; rw [z] at this; simp at this
  have n2 : rs ≠ [] := fun z => by have := C2.len3; rw [z] at this; simp at this
  obtain ⟨a, N1, N2, ha, w1, w2, b1, b2, cn, u1, u2, bu⟩ := C1.cone u
  obtain ⟨c, m1, m2, hc, v1, v2, d1, d2, cm, t1, t2, du⟩ := C2.cone (ngp u)
  -- the second shape's ways turned round
  have pN : ∀ w ∈ sw qs, dq w px py < (hz qs rs w : Int) := fun w hw => h w (pwy_mem.mpr (.inl hw))
  have pM : ∀ w ∈ sw rs, dq (ngp w) px py < (hz qs rs (ngp w) : Int) := fun w hw => h _ (pwy_mem.mpr (.inr (by rw [ngp_ngp]; exact hw)))
  generalize hM1 : ngp m1 = M1 at *
  generalize hM2 : ngp m2 = M2 at *
  have em1 : m1 = ngp M1 := by rw [← hM1, ngp_ngp]
  have em2 : m2 = ngp M2 := by rw [← hM2, ngp_ngp]
  have cM : 0 < cx M1 M2 := by rw [← hM1, ← hM2, cx_ngp]; exact cm
  have tM1 : 0 ≤ cx M1 u := by
    rw [em1, cx_ngp] at t1; exact t1
  have tM2 : 0 ≤ cx u M2 := by
    rw [em2, cx_ngp] at t2; exact t2
  have qN1 := pN _ w1
  have qN2 := pN _ w2
  have qM1 := pM _ v1
  have qM2 := pM _ v2
  rw [hM1] at qM1
  rw [hM2] at qM2
  -- a way along one of the four
  by_cases z2 : cx u N2 = 0
  · exact sat_par n1 n2 qN2 z2 (cx_par cn u1 z2 hu)
  by_cases z4 : cx u M2 = 0
  · exact sat_par n1 n2 qM2 z4 (cx_par cM tM1 z4 hu)
  by_cases z1 : cx N1 u = 0
  · exact sat_par n1 n2 qN1 (by rw [cx_anti, z1]; rfl) (cx_par' cn u2 z1 hu)
  by_cases z3 : cx M1 u = 0
  · exact sat_par n1 n2 qM1 (by rw [cx_anti, z3]; rfl) (cx_par' cM tM2 z3 hu)
  have best : ∀ w, 0 ≤ cx N1 w → 0 ≤ cx w N2 → 0 ≤ cx M1 w → 0 ≤ cx w M2 → hz qs rs w = hw w a - hw w c := fun w k1 k2 k3 k4 => by
    have e1 := best_rz ha (cone_best b1 b2 cn k1 k2)
    have e2 := best_rz hc (cone_best (w := ngp w) d1 d2 cm (by rw [em1, cx_ngp]; exact k3) (by rw [em2, cx_ngp]; exact k4))
    rw [hw_ngp] at e2
    unfold hz
    omega
  have p1 : 0 < cx N1 u := by omega
  have p2 : 0 < cx u N2 := by omega
  have p3 : 0 < cx M1 u := by omega
  have p4 : 0 < cx u M2 := by omega
  have self : ∀ w, cx w w = 0 := fun w => by unfold cx; grind
  -- the upper one
  have up : ∃ U, dq U px py < (hz qs rs U : Int) ∧ 0 < cx u U ∧ 0 ≤ cx U N2 ∧ 0 ≤ cx U M2 ∧ 0 < cx N1 U ∧ 0 < cx M1 U := by
    by_cases k : 0 ≤ cx N2 M2
    · refine ⟨N2, qN2, p2, by rw [self]; exact Int.le_refl _, k, cn, ?_⟩
      have id : cx M1 N2 * cx u M2 = cx M1 u * cx N2 M2 + cx M1 M2 * cx u N2 := by unfold cx; grind
      have e1 := Int.mul_nonneg (Int.le_of_lt p3) k
      have e2 := Int.mul_pos cM p2
      exact Int.pos_of_mul_pos_left (show 0 < cx M1 N2 * cx u M2 by omega) p4
    · have k' : 0 < cx M2 N2 := by rw [cx_anti]; omega
      refine ⟨M2, qM2, p4, Int.le_of_lt k', by rw [self]; exact Int.le_refl _, ?_, cM⟩
      have id : cx N1 M2 * cx u N2 = cx N1 u * cx M2 N2 + cx N1 N2 * cx u M2 := by unfold cx; grind
      have e1 := Int.mul_pos p1 k'
      have e2 := Int.mul_pos cn p4
      exact Int.pos_of_mul_pos_left (show 0 < cx N1 M2 * cx u N2 by omega) p2
  have low : ∃ L, dq L px py < (hz qs rs L : Int) ∧ 0 < cx L u ∧ 0 ≤ cx N1 L ∧ 0 ≤ cx M1 L ∧ 0 < cx L N2 ∧ 0 < cx L M2 ∧ (L = N1 ∨ L = M1) := by
    by_cases k : 0 ≤ cx M1 N1
    · refine ⟨N1, qN1, p1, by rw [self]; exact Int.le_refl _, k, cn, ?_, .inl rfl⟩
      have id : cx N1 M2 * cx M1 u = cx M1 N1 * cx u M2 + cx N1 u * cx M1 M2 := by unfold cx; grind
      have e1 := Int.mul_nonneg k (Int.le_of_lt p4)
      have e2 := Int.mul_pos p1 cM
      exact Int.pos_of_mul_pos_left (show 0 < cx N1 M2 * cx M1 u by omega) p3
    · have k' : 0 < cx N1 M1 := by rw [cx_anti]; omega
      refine ⟨M1, qM1, p3, Int.le_of_lt k', by rw [self]; exact Int.le_refl _, ?_, cM, .inr rfl⟩
      have id : cx M1 N2 * cx N1 u = cx N1 M1 * cx u N2 + cx M1 u * cx N1 N2 := by unfold cx; grind
      have e1 := Int.mul_pos k' p2
      have e2 := Int.mul_pos p3 cn
      exact Int.pos_of_mul_pos_left (show 0 < cx M1 N2 * cx N1 u by omega) p1
  obtain ⟨U, hU, U1, U2, U3, U4, U5⟩ := up
  obtain ⟨L, hL, L1, L2, L3, L4, L5, eqL⟩ := low
  exact sat_cone ha hc hL hU (best L L2 (Int.le_of_lt L4) L3 (Int.le_of_lt L5)) (best U (Int.le_of_lt U4) U2 (Int.le_of_lt U5) U3) L1 U1 (by rcases eqL with rfl | rfl; exact U4; exact U5)
/-! sides as pairs of neighbours; shapes turned, mirrored, made greater -/
def Adj (qs : List (Int × Int)) (a b : Int × Int) : Prop := ∃ i, i < qs.length ∧ qs[i]? = some a ∧ qs[(i + 1) % qs.length]? = some b
theorem lt_of_some {α : Type} {l : List α} {i : Nat} {a : α} (h : l[i]? = some a) : i < l.length := (List.getElem?_eq_some_iff.mp h).1
theorem Cvx.nodup {qs : List (Int × Int)} (C : Cvx qs) : qs.Nodup := by
  rw [List.nodup_iff_pairwise_ne, List.pairwise_iff_getElem]
  intro i j hi hj ij e
  have l3 := C.len3
  have hm : (i + 1) % qs.length < qs.length := Nat.mod_lt _ (by omega)
  by_cases h : j = (i + 1) % qs.length
  · refine C.ne hi ?_
    have e1 := q0_at hi
    have e2 := q0_at hm
    rw [List.getElem?_eq_getElem hi] at e1
    rw [← h] at e2
    rw [List.getElem?_eq_getElem hj] at e2
    rw [← h, ← Option.some.inj e1, ← Option.some.inj e2]
    exact e
  · have := C.cv i j _ _ _ (List.getElem?_eq_getElem hi) (List.getElem?_eq_getElem hm) (List.getElem?_eq_getElem hj) (by omega) h
    rw [e] at this
    unfold lf at this
    grind
theorem Cvx.adj {qs : List (Int × Int)} (C : Cvx qs) {a b c : Int × Int} (h : Adj qs a b) (hc : c ∈ qs) (h1 : c ≠ a) (h2 : c ≠ b) : 0 < lf a b c := by
  obtain ⟨i, hi, e1, e2⟩ := h
  obtain ⟨k, hk, e3⟩ := List.getElem_of_mem hc
  have e4 : qs[k]? = some c := by rw [List.getElem?_eq_getElem hk, e3]
  refine C.cv i k a b c e1 e2 e4 (fun z => ?_) (fun z => ?_)
  · subst z; rw [e4] at e1; exact h1 (Option.some.inj e1)
  · subst z; rw [e4] at e2; exact h2 (Option.some.inj e2)
theorem cvx_adj {qs : List (Int × Int)} (h3 : 3 ≤ qs.length) (hn : qs.Nodup) (h : ∀ a b, Adj qs a b → ∀ c ∈ qs, c ≠ a → c ≠ b → 0 < lf a b c) : Cvx qs := by
  refine ⟨h3, fun i k a b c e1 e2 e3 n1 n2 => ?_⟩
  have hi := lt_of_some e1
  have hk := lt_of_some e3
  have hm := lt_of_some e2
  refine h a b ⟨i, hi, e1, e2⟩ c (List.mem_of_getElem? e3) (fun z => n1 ?_) (fun z => n2 ?_)
  · exact (List.getElem?_inj hk hn).mp (by rw [e3, e1, z])
  · exact (List.getElem?_inj hk hn).mp (by rw [e3, e2, z])
theorem sw_adj {qs : List (Int × Int)} {w : Int × Int} : w ∈ sw qs ↔ ∃ a b, Adj qs a b ∧ sideway a b = w := by
  unfold sw
  rw [List.mem_map]
  constructor
  · rintro ⟨i, hi, rfl⟩
    have hi := List.mem_range.mp hi
    exact ⟨_, _, ⟨i, hi, q0_at hi, q0_at (Nat.mod_lt _ (by omega))⟩, rfl⟩
  · rintro ⟨a, b, ⟨i, hi, e1, e2⟩, rfl⟩
    refine ⟨i, List.mem_range.mpr hi, ?_⟩
    have hm := lt_of_some e2
    rw [q0_at hi] at e1
    rw [q0_at hm] at e2
    rw [Option.some.inj e1, Option.some.inj e2]
theorem adj_map {f : Int × Int → Int × Int} {qs : List (Int × Int)} {x y : Int × Int} : Adj (qs.map f) x y ↔ ∃ a b, Adj qs a b ∧ f a = x ∧ f b = y := by
  unfold Adj
  rw [List.length_map]
  constructor
  · rintro ⟨i, hi, e1, e2⟩
    rw [List.getElem?_map, Option.map_eq_some_iff] at e1 e2
    obtain ⟨a, a1, a2⟩ := e1
    obtain ⟨b, b1, b2⟩ := e2
    exact ⟨a, b, ⟨i, hi, a1, b1⟩, a2, b2⟩
  · rintro ⟨a, b, ⟨i, hi, a1, b1⟩, rfl, rfl⟩
    exact ⟨i, hi, by rw [List.getElem?_map, a1]; rfl, by rw [List.getElem?_map, b1]; rfl⟩
theorem adj_rev1 {qs : List (Int × Int)} {a b : Int × Int} (h : Adj qs a b) : Adj qs.reverse b a := by
  obtain ⟨i, hi, e1, e2⟩ := h
  unfold Adj
  rw [List.length_reverse]
  have hm := lt_of_some e2
  refine ⟨qs.length - 1 - (i + 1) % qs.length, by omega, ?_, ?_⟩
  · generalize (i + 1) % qs.length = x at *
    rw [List.getElem?_reverse (by omega), ← e2]
    congr 1; omega
  · by_cases k : i + 1 = qs.length
    · rw [k, Nat.mod_self, Nat.sub_zero, Nat.sub_add_cancel (by omega), Nat.mod_self]
      rw [List.getElem?_reverse (by omega), ← e1]
      congr 1; omega
    · rw [show (i + 1) % qs.length = i + 1 from Nat.mod_eq_of_lt (by omega)]
      rw [Nat.mod_eq_of_lt (by omega)]
      rw [List.getElem?_reverse (by omega), ← e1]
      congr 1; omega
theorem adj_rev {qs : List (Int × Int)} {a b : Int × Int} : Adj qs.reverse a b ↔ Adj qs b a :=
  ⟨fun h => by have := adj_rev1 h; rwa [List.reverse_reverse] at this, adj_rev1⟩
theorem adj_rot1 {u v : List (Int × Int)} {a b : Int × Int} (h : Adj (u ++ v) a b) : Adj (v ++ u) a b := by
  obtain ⟨i, hi, e1, e2⟩ := h
  have hm := lt_of_some e2
  have at' : ∀ k x, (u ++ v)[k]? = some x → (v ++ u)[(k + v.length) % (u ++ v).length]? = some x := fun k x e => by
    have hk := lt_of_some e
    rw [List.length_append] at hk ⊢
    by_cases c : k < u.length
    · rw [List.getElem?_append_left c] at e
      rw [Nat.mod_eq_of_lt (by omega), List.getElem?_append_right (by omega), ← e]
      congr 1; omega
    · rw [List.getElem?_append_right (by omega)] at e
      have : (k + v.length) % (u.length + v.length) = k - u.length := by
        rw [show k + v.length = (k - u.length) + (u.length + v.length) by omega, Nat.add_mod_right]
        exact Nat.mod_eq_of_lt (by omega)
      rw [this, List.getElem?_append_left (by omega), ← e]
  have len : (v ++ u).length = (u ++ v).length := by rw [List.length_append, List.length_append, Nat.add_comm]
  refine ⟨(i + v.length) % (u ++ v).length, by rw [len]; exact Nat.mod_lt _ (by omega), at' i a e1, ?_⟩
  rw [len]
  have k := at' _ b e2
  rw [show ((i + v.length) % (u ++ v).length + 1) % (u ++ v).length = ((i + 1) % (u ++ v).length + v.length) % (u ++ v).length by
    rw [Nat.mod_add_mod, Nat.mod_add_mod]; congr 1; omega]
  exact k
theorem adj_rot {u v : List (Int × Int)} {a b : Int × Int} : Adj (u ++ v) a b ↔ Adj (v ++ u) a b := ⟨adj_rot1, adj_rot1⟩
/-- a shape seen otherwise -/
structure Turn (f φ : Int × Int → Int × Int) (κ : Int) (qs rs : List (Int × Int)) : Prop where
  cv : Cvx rs
  mem : ∀ c, c ∈ rs ↔ ∃ a ∈ qs, f a = c
  ways : ∀ w, w ∈ sw rs ↔ ∃ v ∈ sw qs, φ v = w
  len : rs.length = qs.length
theorem rz_turn {f φ : Int × Int → Int × Int} {κ : Int} {qs rs : List (Int × Int)} (h : Turn f φ κ qs rs) (hq : qs ≠ []) (κ0 : 0 < κ) (hf : ∀ w c, hw (φ w) (f c) = κ * hw w c) (w : Int × Int) : rz (φ w) rs = κ * rz w qs := by
  obtain ⟨c, hc, e⟩ := rz_mem (w := w) hq
  rw [← e, ← hf]
  refine best_rz ((h.mem _).mpr ⟨c, hc, rfl⟩) fun x hx => ?_
  obtain ⟨y, hy, rfl⟩ := (h.mem _).mp hx
  rw [hf, hf, e]
  exact Int.mul_le_mul_of_nonneg_left (rz_ge hy) (Int.le_of_lt κ0)
theorem Turn.rot {f φ : Int × Int → Int × Int} {κ : Int} {qs u v : List (Int × Int)} (h : Turn f φ κ qs (u ++ v)) : Turn f φ κ qs (v ++ u) := by
  have pm : (v ++ u).Perm (u ++ v) := List.perm_append_comm
  refine ⟨cvx_adj ?_ (pm.nodup_iff.mpr h.cv.nodup) (fun a b hab c hc => h.cv.adj (adj_rot.mp hab) (pm.mem_iff.mp hc)), fun c => ?_, fun w => ?_, ?_⟩
  · rw [pm.length_eq]; exact h.cv.len3
  · rw [pm.mem_iff]; exact h.mem c
  · rw [← h.ways, sw_adj, sw_adj]
    constructor
    · rintro ⟨a, b, k, e⟩; exact ⟨a, b, adj_rot.mp k, e⟩
    · rintro ⟨a, b, k, e⟩; exact ⟨a, b, adj_rot.mp k, e⟩
  · rw [pm.length_eq]; exact h.len
theorem turn_map {f φ : Int × Int → Int × Int} {κ : Int} {qs : List (Int × Int)} (C : Cvx qs) (fi : ∀ a b, f a = f b → a = b) (hl : ∀ a b c, 0 < lf a b c → 0 < lf (f a) (f b) (f c)) (hs : ∀ a b, a ≠ b → sideway (f a) (f b) = φ (sideway a b)) : Turn f φ κ qs (qs.map f) := by
  have ne : ∀ a b, Adj qs a b → a ≠ b := fun a b ⟨i, hi, e1, e2⟩ z => by
    have hm := lt_of_some e2
    rw [q0_at hi] at e1
    rw [q0_at hm] at e2
    exact C.ne hi (by rw [Option.some.inj e1, Option.some.inj e2, z])
  have nd : (qs.map f).Nodup := by
    rw [List.nodup_iff_pairwise_ne, List.pairwise_map]
    exact (List.nodup_iff_pairwise_ne.mp C.nodup).imp fun {a b} n e => n (fi a b e)
  refine ⟨cvx_adj (by rw [List.length_map]; exact C.len3) nd (fun x y hxy c hc n1 n2 => ?_), fun c => List.mem_map, fun w => ?_, List.length_map _⟩
  · obtain ⟨a, b, hab, rfl, rfl⟩ := adj_map.mp hxy
    obtain ⟨d, hd, rfl⟩ := List.mem_map.mp hc
    exact hl a b d (C.adj hab hd (fun z => n1 (by rw [z])) (fun z => n2 (by rw [z])))
  · rw [sw_adj]
    constructor
    · rintro ⟨x, y, hxy, rfl⟩
      obtain ⟨a, b, hab, rfl, rfl⟩ := adj_map.mp hxy
      exact ⟨_, sw_adj.mpr ⟨a, b, hab, rfl⟩, (hs a b (ne a b hab)).symm⟩
    · rintro ⟨v, hv, rfl⟩
      obtain ⟨a, b, hab, rfl⟩ := sw_adj.mp hv
      exact ⟨_, _, adj_map.mpr ⟨a, b, hab, rfl, rfl⟩, hs a b (ne a b hab)⟩
/-- backwards, where f mirrors -/
theorem turn_rev {f φ : Int × Int → Int × Int} {κ : Int} {qs : List (Int × Int)} (C : Cvx qs) (fi : ∀ a b, f a = f b → a = b) (hl : ∀ a b c, 0 < lf a b c → 0 < lf (f b) (f a) (f c)) (hs : ∀ a b, a ≠ b → sideway (f b) (f a) = φ (sideway a b)) : Turn f φ κ qs (qs.reverse.map f) := by
  have ne : ∀ a b, Adj qs a b → a ≠ b := fun a b ⟨i, hi, e1, e2⟩ z => by
    have hm := lt_of_some e2
    rw [q0_at hi] at e1
    rw [q0_at hm] at e2
    exact C.ne hi (by rw [Option.some.inj e1, Option.some.inj e2, z])
  have nd : (qs.reverse.map f).Nodup := by
    rw [List.nodup_iff_pairwise_ne, List.pairwise_map]
    exact (List.nodup_iff_pairwise_ne.mp ((List.reverse_perm qs).nodup_iff.mpr C.nodup)).imp fun {a b} n e => n (fi a b e)
  refine ⟨cvx_adj (by rw [List.length_map, List.length_reverse]; exact C.len3) nd (fun x y hxy c hc n1 n2 => ?_), fun c => ?_, fun w => ?_, by rw [List.length_map, List.length_reverse]⟩
  · obtain ⟨a, b, hab, rfl, rfl⟩ := adj_map.mp hxy
    obtain ⟨d, hd, rfl⟩ := List.mem_map.mp hc
    exact hl b a d (C.adj (adj_rev.mp hab) (List.mem_reverse.mp hd) (fun z => n2 (by rw [z])) (fun z => n1 (by rw [z])))
  · rw [List.mem_map]
    simp only [List.mem_reverse]
  · rw [sw_adj]
    constructor
    · rintro ⟨x, y, hxy, rfl⟩
      obtain ⟨a, b, hab, rfl, rfl⟩ := adj_map.mp hxy
      have hab := adj_rev.mp hab
      exact ⟨_, sw_adj.mpr ⟨b, a, hab, rfl⟩, (hs b a (ne b a hab)).symm⟩
    · rintro ⟨v, hv, rfl⟩
      obtain ⟨a, b, hab, rfl⟩ := sw_adj.mp hv
      exact ⟨_, _, adj_map.mpr ⟨b, a, adj_rev.mpr hab, rfl, rfl⟩, hs a b (ne a b hab)⟩
/-- a body of the law's own -/
structure B15 where
  x : Str
  qs : List (Int × Int)
  m : Int
  rl : D
  px : Rat
  py : Rat
  vx : Rat
  vy : Rat
def B15.row (b : B15) : D := .tup [.str b.x, .tup (b.qs.map pt), .int b.m, b.rl, S2 b.px b.py, S2 b.vx b.vy]
structure B15.Ok (n m : Nat) (b : B15) : Prop where
  hx : Nm 30 b.x
  cv : Cvx b.qs
  hp : ∀ q ∈ b.qs, Ptb q
  hl : b.qs.length ≤ 16
  s1 : Sz n b.px
  s2 : Sz n b.py
  s3 : Sz m b.vx
  s4 : Sz m b.vy
theorem B15.Ok.le {n m n' m' : Nat} {b : B15} (o : b.Ok n m) (h : n ≤ n') (h' : m ≤ m') : b.Ok n' m' := ⟨o.hx, o.cv, o.hp, o.hl, o.s1.le h, o.s2.le h, o.s3.le h', o.s4.le h'⟩
@[simp] theorem B15.ix0 {b : B15} : dIx b.row (.int 0) = some (.str b.x) := rfl
@[simp] theorem B15.ix1 {b : B15} : dIx b.row (.int 1) = some (.tup (b.qs.map pt)) := rfl
@[simp] theorem B15.ix4 {b : B15} : dIx b.row (.int 4) = some (S2 b.px b.py) := rfl
@[simp] theorem B15.ix5 {b : B15} : dIx b.row (.int 5) = some (S2 b.vx b.vy) := rfl
theorem Sz.zero0 {n : Nat} (h : 1 ≤ n) : Sz n 0 := ⟨by show (0 : Nat) < 2 ^ n; exact Nat.pow_pos (by decide), by show 1 < 2 ^ n; exact Nat.one_lt_two_pow (by omega)⟩
theorem Sd.sz {n d N : Nat} {r : Rat} (h : Sd n d r) (h1 : n ≤ N) (h2 : d ≤ N) : Sz N r := ⟨lt_up h.nu h1, lt_up h.de h2⟩
/-- how fast a gap grows, the gap -/
def rateQ (b c : B15) (w : Int × Int) : Rat := (w.1 : Rat) * (c.vx - b.vx) + (w.2 : Rat) * (c.vy - b.vy)
def gapQ (b c : B15) (w : Int × Int) (t : Rat) : Rat := (w.1 : Rat) * (c.px - b.px) + (w.2 : Rat) * (c.py - b.py) - ((rz w b.qs + rz (ngp w) c.qs : Int) : Rat) + rateQ b c w * t
def Wsz (n : Nat) (w : Int × Int) : Prop := w.1.natAbs < 2 ^ n ∧ w.2.natAbs < 2 ^ n
theorem Wsz.neg {n : Nat} {w : Int × Int} (h : Wsz n w) : Wsz n (ngp w) := ⟨by show (-w.1).natAbs < _; rw [Int.natAbs_neg]; exact h.1, by show (-w.2).natAbs < _; rw [Int.natAbs_neg]; exact h.2⟩
theorem B15.Ok.ne {n m : Nat} {b : B15} (o : b.Ok n m) : b.qs ≠ [] := fun z => by have := o.cv.len3; rw [z] at this; simp at this
theorem sw_wsz {qs : List (Int × Int)} {w : Int × Int} (C : Cvx qs) (hp : ∀ q ∈ qs, Ptb q) (h : w ∈ sw qs) : Wsz 22 w := by
  obtain ⟨i, hi, rfl⟩ := List.mem_map.mp h
  have hi := List.mem_range.mp hi
  have hm : (i + 1) % qs.length < qs.length := Nat.mod_lt _ (by omega)
  have a := hp _ (List.mem_of_getElem? (q0_at hi))
  have b := hp _ (List.mem_of_getElem? (q0_at hm))
  exact nw_sz (side_ne (C.ne hi)) (sub_small b.2 a.2) (sub_small a.1 b.1)
theorem Wsz.le {n m : Nat} {w : Int × Int} (h : Wsz n w) (hm : n ≤ m) : Wsz m w := ⟨Nat.lt_of_lt_of_le h.1 (Nat.pow_le_pow_right (by decide) hm), Nat.lt_of_lt_of_le h.2 (Nat.pow_le_pow_right (by decide) hm)⟩
theorem pwy_wsz {qs rs : List (Int × Int)} {w : Int × Int} (C1 : Cvx qs) (C2 : Cvx rs) (hp1 : ∀ q ∈ qs, Ptb q) (hp2 : ∀ q ∈ rs, Ptb q) (h : w ∈ pwy qs rs) : Wsz 22 w := by
  rcases pwy_mem.mp h with h | h
  · exact sw_wsz C1 hp1 h
  · have := (sw_wsz C2 hp2 h).neg
    rwa [ngp_ngp] at this
theorem pwy_ne {qs rs : List (Int × Int)} (C1 : Cvx qs) : pwy qs rs ≠ [] := fun z => by
  have h3 := C1.len3
  have e := sw_at (qs := qs) (k := 0) (by omega)
  have : sideway (q0 qs 0) (q0 qs ((0 + 1) % qs.length)) ∈ pwy qs rs := pwy_mem.mpr (.inl (List.mem_of_getElem? e))
  rw [z] at this
  cases this
theorem pwy_len {qs rs : List (Int × Int)} : (pwy qs rs).length ≤ qs.length + rs.length := by
  have h1 := (sP_perm (addn (sw qs) (sw rs))).length_eq
  have h2 := addn_len (l := sw qs) (sw rs)
  rw [sw_len, sw_len] at h2
  show (sP _).length ≤ _
  omega
theorem gap_dq (b c : B15) (w : Int × Int) (t : Rat) : gapQ b c w t = dq w ((c.px - b.px) + (c.vx - b.vx) * t) ((c.py - b.py) + (c.vy - b.vy) * t) - ((hz b.qs c.qs w : Int) : Rat) := by
  unfold gapQ rateQ dq hz
  grind
theorem rate_dq (b c : B15) (w : Int × Int) : rateQ b c w = dq w (c.vx - b.vx) (c.vy - b.vy) := rfl
theorem gap_lin (b c : B15) (w : Int × Int) (t : Rat) : gapQ b c w t = gapQ b c w 0 + rateQ b c w * t := by unfold gapQ; rw [Rat.mul_zero, Rat.add_zero]
def relX (b c : B15) (t : Rat) : Rat := (c.px - b.px) + (c.vx - b.vx) * t
def relY (b c : B15) (t : Rat) : Rat := (c.py - b.py) + (c.vy - b.vy) * t
/-- over one another, by each pair way -/
def OverAt (b c : B15) (t : Rat) : Prop := ∀ w ∈ pwy b.qs c.qs, gapQ b c w t < 0
/-- where the other is, as seen from the one, as three whole numbers -/
structure Gone (b c : B15) (t : Rat) (n e : Nat) (g : Int × Int × Int) : Prop where
  q0 : 0 < g.2.2
  s1 : g.1.natAbs < 2 ^ n
  s2 : g.2.1.natAbs < 2 ^ n
  s3 : g.2.2.natAbs < 2 ^ e
  v1 : ((g.1 : Int) : Rat) = relX b c t * ((g.2.2 : Int) : Rat)
  v2 : ((g.2.1 : Int) : Rat) = relY b c t * ((g.2.2 : Int) : Rat)
def goneD (g : Int × Int × Int) : D := .tup [.int g.1, .int g.2.1, .int g.2.2]
def roomZ (b c : B15) (g : Int × Int × Int) (w : Int × Int) : Int := w.1 * g.1 + w.2 * g.2.1 - hz b.qs c.qs w * g.2.2
theorem roomZ_eq {b c : B15} {t : Rat} {n e : Nat} {g : Int × Int × Int} (h : Gone b c t n e g) (w : Int × Int) : ((roomZ b c g w : Int) : Rat) = gapQ b c w t * ((g.2.2 : Int) : Rat) := by
  rw [gap_dq]
  unfold roomZ
  rw [Rat.intCast_sub, Rat.intCast_add, Rat.intCast_mul, Rat.intCast_mul, Rat.intCast_mul, h.v1, h.v2]
  unfold dq relX relY
  grind
theorem roomZ_neg {b c : B15} {t : Rat} {n e : Nat} {g : Int × Int × Int} (h : Gone b c t n e g) (w : Int × Int) : roomZ b c g w < 0 ↔ gapQ b c w t < 0 := by
  have q : 0 < ((g.2.2 : Int) : Rat) := Rat.intCast_pos.mpr h.q0
  have k := roomZ_eq h w
  have z : roomZ b c g w < 0 ↔ ((roomZ b c g w : Int) : Rat) < 0 := by
    have := Rat.intCast_lt_intCast (a := roomZ b c g w) (b := 0)
    exact this.symm
  rw [z, k, Rat.mul_neg_iff_of_pos_right q]
/-! the greatest, the least of data that begin with a whole number -/
theorem lt_key {r s : Int} {xs ys : List PyData} (ha : PySem.W.alikeAll xs ys = true) : (PySem.W.dataLt (.tuple (.int r :: xs)) (.tuple (.int s :: ys)) = true → r ≤ s) ∧ (PySem.W.dataLt (.tuple (.int r :: xs)) (.tuple (.int s :: ys)) = false → s ≤ r) := by
  rw [PySem.W.dataLt_tuple, PySem.W.dataLt_cons (by simp [PySem.W.alike]), PySem.W.dataLt_int]
  by_cases h : r = s
  · subst h
    exact ⟨fun _ => Int.le_refl _, fun _ => Int.le_refl _⟩
  · rw [if_neg (by simp [PyData.eqv, h])]
    simp
    omega
section
variable {α : Type} (enc : α → D) (f : α → List PyData) (key : α → Int)
theorem maxD_key (hal : ∀ a b, PySem.W.alikeAll (f a) (f b) = true) : ∀ (xs : List α) (x : α), ∃ y ∈ x :: xs, PySem.W.maxD (.tuple (.int (key x) :: f x)) (xs.map fun a => .tuple (.int (key a) :: f a)) = .tuple (.int (key y) :: f y) ∧ ∀ z ∈ x :: xs, key z ≤ key y
  | [], x => ⟨x, List.mem_cons_self, rfl, fun z hz => by rw [List.mem_singleton.mp hz]; exact Int.le_refl _⟩
  | w :: xs, x => by
    have k := lt_key (r := key x) (s := key w) (hal x w)
    show ∃ y ∈ x :: w :: xs, PySem.W.maxD (if PySem.W.dataLt (.tuple (.int (key x) :: f x)) (.tuple (.int (key w) :: f w)) then .tuple (.int (key w) :: f w) else .tuple (.int (key x) :: f x)) _ = _ ∧ _
    by_cases h : PySem.W.dataLt (.tuple (.int (key x) :: f x)) (.tuple (.int (key w) :: f w)) = true
    · rw [if_pos h]
      obtain ⟨y, hy, e, hm⟩ := maxD_key hal xs w
      refine ⟨y, List.mem_cons_of_mem _ hy, e, fun z hz => ?_⟩
      rcases List.mem_cons.mp hz with rfl | hz
      · exact Int.le_trans (k.1 h) (hm w List.mem_cons_self)
      · exact hm z hz
    · rw [if_neg h]
      obtain ⟨y, hy, e, hm⟩ := maxD_key hal xs x
      refine ⟨y, ?_, e, fun z hz => ?_⟩
      · rcases List.mem_cons.mp hy with rfl | hy
        · exact List.mem_cons_self
        · exact List.mem_cons_of_mem _ (List.mem_cons_of_mem _ hy)
      · rcases List.mem_cons.mp hz with rfl | hz
        · exact hm _ List.mem_cons_self
        · rcases List.mem_cons.mp hz with rfl | hz
          · exact Int.le_trans (k.2 (by simpa using h)) (hm x List.mem_cons_self)
          · exact hm z (List.mem_cons_of_mem _ hz)
theorem minD_key (hal : ∀ a b, PySem.W.alikeAll (f a) (f b) = true) : ∀ (xs : List α) (x : α), ∃ y ∈ x :: xs, PySem.W.minD (.tuple (.int (key x) :: f x)) (xs.map fun a => .tuple (.int (key a) :: f a)) = .tuple (.int (key y) :: f y) ∧ ∀ z ∈ x :: xs, key y ≤ key z
  | [], x => ⟨x, List.mem_cons_self, rfl, fun z hz => by rw [List.mem_singleton.mp hz]; exact Int.le_refl _⟩
  | w :: xs, x => by
    have k := lt_key (r := key w) (s := key x) (hal w x)
    show ∃ y ∈ x :: w :: xs, PySem.W.minD (if PySem.W.dataLt (.tuple (.int (key w) :: f w)) (.tuple (.int (key x) :: f x)) then .tuple (.int (key w) :: f w) else .tuple (.int (key x) :: f x)) _ = _ ∧ _
    by_cases h : PySem.W.dataLt (.tuple (.int (key w) :: f w)) (.tuple (.int (key x) :: f x)) = true
    · rw [if_pos h]
      obtain ⟨y, hy, e, hm⟩ := minD_key hal xs w
      refine ⟨y, List.mem_cons_of_mem _ hy, e, fun z hz => ?_⟩
      rcases List.mem_cons.mp hz with rfl | hz
      · exact Int.le_trans (hm w List.mem_cons_self) (k.1 h)
      · exact hm z hz
    · rw [if_neg h]
      obtain ⟨y, hy, e, hm⟩ := minD_key hal xs x
      refine ⟨y, ?_, e, fun z hz => ?_⟩
      · rcases List.mem_cons.mp hy with rfl | hy
        · exact List.mem_cons_self
        · exact List.mem_cons_of_mem _ (List.mem_cons_of_mem _ hy)
      · rcases List.mem_cons.mp hz with rfl | hz
        · exact hm _ List.mem_cons_self
        · rcases List.mem_cons.mp hz with rfl | hz
          · exact Int.le_trans (hm x List.mem_cons_self) (k.2 (by simpa using h))
          · exact hm z (List.mem_cons_of_mem _ hz)
variable (he : ∀ a, py (enc a) = some (.tuple (.int (key a) :: f a))) (hal : ∀ a b, PySem.W.alikeAll (f a) (f b) = true) (hd : ∀ a, PyData.depthAll (f a) ≤ 50)
include he in
theorem pys_key : ∀ l : List α, pys (l.map enc) = some (l.map fun a => .tuple (.int (key a) :: f a))
  | [] => rfl
  | x :: l => by rw [List.map_cons, pys, he, pys_key l]; rfl
include hal hd in
theorem minC_key (x : α) (l : List α) : MinC (.tuple (.int (key x) :: f x)) (l.map fun a => .tuple (.int (key a) :: f a)) := by
  refine ⟨⟨fun p hp q hq => ?_, fun p hp => ?_⟩, ?_⟩
  · rw [← List.map_cons (f := fun a => PyData.tuple (.int (key a) :: f a))] at hp hq
    obtain ⟨a, _, rfl⟩ := List.mem_map.mp hp
    obtain ⟨b, _, rfl⟩ := List.mem_map.mp hq
    simp [PySem.W.alike, PySem.W.alikeAll, hal]
  · rw [← List.map_cons (f := fun a => PyData.tuple (.int (key a) :: f a))] at hp
    obtain ⟨a, _, rfl⟩ := List.mem_map.mp hp
    exact fun z => by cases z
  · rw [← List.map_cons (f := fun a => PyData.tuple (.int (key a) :: f a))]
    generalize x :: l = l
    induction l with
    | nil => simp [PyData.depthAll]
    | cons x l ih =>
      have := hd x
      simp only [List.map_cons, PyData.depthAll, PyData.depth]
      omega
include he hal hd
open Classical in
theorem max_key {l : List α} (hn : l ≠ []) : ∃ y ∈ l, fMaxD [.lst (l.map enc)] = some (enc y) ∧ ∀ z ∈ l, key z ≤ key y := by
  cases l with
  | nil => exact absurd rfl hn
  | cons x l =>
    obtain ⟨y, hy, e, hm⟩ := maxD_key f key hal l x
    refine ⟨y, hy, ?_, hm⟩
    show (pys ((x :: l).map enc)).bind _ = _
    rw [pys_key enc f key he, Option.bind_some]
    show (if MinC (.tuple (.int (key x) :: f x)) (l.map fun a => .tuple (.int (key a) :: f a)) then some (qd (PySem.W.maxD (.tuple (.int (key x) :: f x)) (l.map fun a => .tuple (.int (key a) :: f a)))) else none) = _
    rw [if_pos (minC_key f key hal hd x l), e, qd_of (he y)]
open Classical in
theorem min_key {l : List α} (hn : l ≠ []) : ∃ y ∈ l, fMinD [.lst (l.map enc)] = some (enc y) ∧ ∀ z ∈ l, key y ≤ key z := by
  cases l with
  | nil => exact absurd rfl hn
  | cons x l =>
    obtain ⟨y, hy, e, hm⟩ := minD_key f key hal l x
    refine ⟨y, hy, ?_, hm⟩
    show (pys ((x :: l).map enc)).bind _ = _
    rw [pys_key enc f key he, Option.bind_some]
    show (if MinC (.tuple (.int (key x) :: f x)) (l.map fun a => .tuple (.int (key a) :: f a)) then some (qd (PySem.W.minD (.tuple (.int (key x) :: f x)) (l.map fun a => .tuple (.int (key a) :: f a)))) else none) = _
    rw [if_pos (minC_key f key hal hd x l), e, qd_of (he y)]
end
/-! shares of the law's own, always in lowest terms -/
theorem gcd_turn {a b : Int} (h : b ≠ 0) : Int.gcd b (a.fmod b) = Int.gcd a b := by
  rw [Int.gcd_comm, Int.gcd_comm a b]
  have e := Int.mul_fdiv_add_fmod a b
  have : a.fmod b = a + b * -(a.fdiv b) := by rw [Int.mul_neg]; omega
  rw [this, Int.gcd_comm, Int.gcd_add_mul_left_right]
theorem fmod_small (a : Int) {b : Int} (h : b ≠ 0) : (a.fmod b).natAbs < b.natAbs := by
  rw [Int.fmod_eq_emod]
  have h1 := Int.emod_nonneg a h
  have h2 := Int.emod_lt a h
  split
  · omega
  · rename_i k
    have k0 : ¬ 0 ≤ b := fun z => k (.inl z)
    have k1 : a % b ≠ 0 := fun z => k (.inr (Int.dvd_of_emod_eq_zero z))
    omega
theorem gcdE_ok (a b : Int) : m__law_gcd [.int a, .int b] () = .ok (.int (Int.gcd a b)) () := by
  apply oE_eq
  unfold m__law_gcd b__law_gcd
  simp
  refine oS_while (fun n ρ t => ∃ (x y : Int) (z : Slot), ρ = [.val (.int x), .val (.int y), z] ∧ n = y.natAbs ∧ Int.gcd x y = Int.gcd a b) ?_ b.natAbs _ _ ⟨a, b, _, rfl, rfl, rfl⟩
  rintro n ρ t ⟨x, y, z, rfl, rfl, h⟩
  simp
  by_cases hn : y = 0
  · subst hn
    simp at h ⊢
    unfold Nxt
    simp [h]
  · simp [hn]
    unfold Nxt
    simp
    unfold Nxt
    simp
    refine ⟨(x.fmod y).natAbs, fmod_small x hn, y, x.fmod y, ?_⟩
    simp [gcd_turn hn, h]
theorem lowest_ok {a b : Int} (hb : b ≠ 0) (hs : b.natAbs < 2 ^ 8000) : m__law_lowest [.int a, .int b] () = .ok (R (Rat.divInt a b)) () := by
  obtain ⟨a', b', e1, e2, e3, e4⟩ := gcd_parts a b hb
  have sg : (Int.gcd a b : Int).natAbs < 2 ^ 8000 := by
    have : Int.gcd a b ≤ b.natAbs := Int.gcd_le_natAbs_right _ (by omega)
    omega
  have gz : (Int.gcd a b : Int) ≠ 0 := by omega
  generalize hgg : (Int.gcd a b : Int) = g at *
  have cross : a' * b = b' * a := by
    rw [e1, e2]
    rw [← Int.mul_assoc, ← Int.mul_assoc, Int.mul_comm a' g, Int.mul_comm b' g, Int.mul_assoc, Int.mul_assoc, Int.mul_comm a' b']
  have da : a.fdiv g = a' := by rw [e1]; exact fdiv_gcd gz
  have db : b.fdiv g = b' := by rw [e2]; exact fdiv_gcd gz
  have dna : a.fdiv (-g) = -a' := by rw [e1, show g * a' = (-g) * (-a') by rw [Int.neg_mul_neg]]; exact fdiv_gcd (by omega)
  have dnb : b.fdiv (-g) = -b' := by rw [e2, show g * b' = (-g) * (-b') by rw [Int.neg_mul_neg]]; exact fdiv_gcd (by omega)
  have o1 : ∀ x, divOk x g = true := fun x => small_div gz sg (by decide) (by decide)
  have o2 : ∀ x, divOk x (-g) = true := fun x => small_div (by omega) (by rw [Int.natAbs_neg]; exact sg) (by decide) (by decide)
  apply oE_eq
  unfold m__law_lowest b__law_lowest
  simp [gcdE_ok, hgg]
  unfold Nxt
  by_cases h : b < 0
  · have b0 : b' < 0 := by
      apply Classical.byContradiction
      intro z
      have := Int.mul_nonneg (Int.le_of_lt e4) (show 0 ≤ b' by omega)
      omega
    obtain ⟨q1, q2⟩ := rat_of (a := a) (b := b) (p := -a') (q := -b') (by omega) (by omega) (by rw [Int.gcd_neg, Int.neg_gcd]; exact e3) (by rw [Int.neg_mul, Int.neg_mul, cross])
    simp [h]
    unfold Nxt
    simp [dna, dnb, o2, R, q1, q2]
  · have b0 : 0 < b' := by
      apply Classical.byContradiction
      intro z
      have := Int.mul_nonneg (Int.le_of_lt e4) (show 0 ≤ -b' by omega)
      rw [Int.mul_neg, ← e2] at this
      omega
    obtain ⟨q1, q2⟩ := rat_of (a := a) (b := b) (p := a') (q := b') (by omega) (by omega) e3 cross
    simp [h]
    unfold Nxt
    simp [da, db, o1, R, q1, q2]
theorem den_mulE (r s : Rat) : 0 < (r.den : Int) * s.den := Int.mul_pos (by have := r.den_pos; omega) (by have := s.den_pos; omega)
theorem plusE {n d m e : Nat} {r s : Rat} (h1 : Sd n d r) (h2 : Sd m e s) (h : n + e + m + d ≤ 900000) (hd : d + e ≤ 8000) : m__law_plus [R r, R s] () = .ok (R (r + s)) () := by
  have k := lowest_ok (a := r.num * s.den + s.num * r.den) (b := r.den * s.den) (by have := den_mulE r s; omega) (lt_up (sz_mul h1.den h2.den) hd)
  have v : Rat.divInt (r.num * s.den + s.num * r.den) (r.den * s.den) = r + s := by
    conv => rhs; rw [← Rat.num_divInt_den r, ← Rat.num_divInt_den s]
    rw [Rat.divInt_add_divInt _ _ (by have := r.den_pos; omega) (by have := s.den_pos; omega)]
  rw [v] at k
  apply oE_eq
  unfold m__law_plus b__law_plus
  simp [mulW h1.nu h2.den (by omega), mulW h2.nu h1.den (by omega), mulW h1.den h2.den (by omega), k]
theorem timesE {n d m e : Nat} {r s : Rat} (h1 : Sd n d r) (h2 : Sd m e s) (h : n + e + m + d ≤ 900000) (hd : d + e ≤ 8000) : m__law_times [R r, R s] () = .ok (R (r * s)) () := by
  have k := lowest_ok (a := r.num * s.num) (b := r.den * s.den) (by have := den_mulE r s; omega) (lt_up (sz_mul h1.den h2.den) hd)
  have v : Rat.divInt (r.num * s.num) (r.den * s.den) = r * s := by
    conv => rhs; rw [← Rat.num_divInt_den r, ← Rat.num_divInt_den s]
    rw [Rat.divInt_mul_divInt]
  rw [v] at k
  apply oE_eq
  unfold m__law_times b__law_times
  simp [mulW h1.nu h2.nu (by omega), mulW h1.den h2.den (by omega), k]
theorem splusE {n m : Nat} {x y u v : Rat} (h1 : Sz n x) (h2 : Sz n y) (h3 : Sz m u) (h4 : Sz m v) (h : n + m ≤ 8000) : m__law_spot_plus [S2 x y, S2 u v] () = .ok (S2 (x + u) (y + v)) () := by
  apply oE_eq
  unfold m__law_spot_plus b__law_spot_plus
  simp [plusE h1.sd h3.sd (by omega) h, plusE h2.sd h4.sd (by omega) h]
  rfl
theorem stimesE {n m : Nat} {x y s : Rat} (h1 : Sz n x) (h2 : Sz n y) (h3 : Sz m s) (h : n + m ≤ 8000) : m__law_spot_times [S2 x y, R s] () = .ok (S2 (x * s) (y * s)) () := by
  apply oE_eq
  unfold m__law_spot_times b__law_spot_times
  simp [timesE h1.sd h3.sd (by omega) h, timesE h2.sd h3.sd (by omega) h]
  rfl
theorem Sz.mulE {n m : Nat} {r s : Rat} (h1 : Sz n r) (h2 : Sz m s) : Sz (n + m) (r * s) := (h1.sd.mul h2.sd).sz (Nat.le_refl _) (Nat.le_refl _)
theorem Sz.addE {n m : Nat} {r s : Rat} (h1 : Sz n r) (h2 : Sz m s) : Sz (n + m + 1) (r + s) := (h1.sd.add h2.sd (N := n + m + 1) (M := n + m) (by omega) (by omega) (by omega)).sz (by omega) (by omega)
theorem slessE {n m : Nat} {x y u v : Rat} (h1 : Sz n x) (h2 : Sz n y) (h3 : Sz m u) (h4 : Sz m v) (h : n + m + 1 ≤ 8000) : m__law_spot_less [S2 x y, S2 u v] () = .ok (S2 (x - u) (y - v)) () := by
  have m1 : Sz 1 (-1 : Rat) := Sz.int (p := -1) (by decide) (by decide)
  have e1 := stimesE h3 h4 m1 (by omega)
  have e2 := splusE h1 h2 (h3.mulE m1) (h4.mulE m1) (by omega)
  have v1 : x + u * -1 = x - u := by grind
  have v2 : y + v * -1 = y - v := by grind
  rw [v1, v2] at e2
  have ei : D.tup [.int (-1), .int 1] = R (-1) := rfl
  apply oE_eq
  unfold m__law_spot_less b__law_spot_less
  simp [ei, e1, e2]
theorem spotof_ok (w : Int × Int) : m__law_spot_of [pt w] () = .ok (S2 (w.1 : Rat) (w.2 : Rat)) () := by
  apply oE_eq
  unfold m__law_spot_of b__law_spot_of
  simp [pt_ix0, pt_ix1]
  rfl
theorem dotE {k n : Nat} {w : Int × Int} {x y : Rat} (hw1 : w.1.natAbs < 2 ^ k) (hw2 : w.2.natAbs < 2 ^ k) (hk : 1 ≤ k) (h1 : Sz n x) (h2 : Sz n y) (h : 2 * (k + n) ≤ 8000) : m__law_dot [pt w, S2 x y] () = .ok (R (dq w x y)) () := by
  have s1 : Sz k (w.1 : Rat) := Sz.int hw1 hk
  have s2 : Sz k (w.2 : Rat) := Sz.int hw2 hk
  have e1 := timesE s1.sd h1.sd (by omega) (by omega)
  have e2 := timesE s2.sd h2.sd (by omega) (by omega)
  have e3 := plusE (s1.mulE h1).sd (s2.mulE h2).sd (by omega) (by omega)
  rw [← R_int] at e1 e2
  apply oE_eq
  unfold m__law_dot b__law_dot
  simp [pt_ix0, pt_ix1, e1, e2, e3]
  rfl
theorem sideE_ok {qs : List (Int × Int)} (C : Cvx qs) (hp : ∀ q ∈ qs, Ptb q) (hl : qs.length ≤ 1000) : m__law_side_ways [.tup (qs.map pt)] () = .ok (.lst ((sw qs).map pt)) () := by
  have l3 := C.len3
  apply oE_eq
  unfold m__law_side_ways b__law_side_ways
  simp
  unfold Nxt
  simp [enum_pts]
  obtain ⟨I, hI⟩ : ∃ I : List Nat → List Nat → Rho → Unit → Prop, I = fun dn td ρ _ => ∃ s2 s3 s4 s5 : Slot, ρ = [.val (.tup (qs.map pt)), .own (((sw qs).take dn.length).map pt), s2, s3, s4, s5] := ⟨_, rfl⟩
  refine oS_loopE I (List.range qs.length) (by rw [hI]; exact ⟨_, _, _, _, rfl⟩) ?_ ?_
  · intro dn i td ρ t eq hh
    rw [hI] at hh
    obtain ⟨s2, s3, s4, s5, rfl⟩ := hh
    obtain ⟨rfl, hi⟩ := range_split eq
    have hmod : (dn.length + 1) % qs.length < qs.length := Nat.mod_lt _ (by omega)
    have em : ((dn.length : Int) + 1).fmod (qs.length : Int) = (((dn.length + 1) % qs.length : Nat) : Int) := fmod_nat (dn.length + 1) qs.length
    have eb : atI (qs.map pt) (((dn.length + 1) % qs.length : Nat) : Int) = some (pt (q0 qs ((dn.length + 1) % qs.length))) := at_pts hmod
    have st := sw_take hi
    have ne := side_ne (C.ne hi)
    have hA := hp _ (List.mem_of_getElem? (q0_at hi))
    have hB := hp _ (List.mem_of_getElem? (q0_at hmod))
    have gs := gcd_small ne (sub_small hB.2 hA.2) (sub_small hA.1 hB.1)
    have o1 : ∀ x, divOk x (Int.gcd ((q0 qs ((dn.length + 1) % qs.length)).2 - (q0 qs dn.length).2) ((q0 qs dn.length).1 - (q0 qs ((dn.length + 1) % qs.length)).1) : Int) = true := fun x => small_div gs.1 gs.2 (by decide) (by decide)
    have next : ∀ s2 s3 s4 s5 : Slot, I (dn ++ [dn.length]) td [.val (.tup (qs.map pt)), .own (((sw qs).take dn.length).map pt ++ [pt (sideway (q0 qs dn.length) (q0 qs ((dn.length + 1) % qs.length)))]), s2, s3, s4, s5] t := fun s2 s3 s4 s5 => by
      rw [hI]
      refine ⟨s2, s3, s4, s5, ?_⟩
      rw [List.length_append, List.length_singleton, st, List.map_append]
      rfl
    refine ⟨_, rfl, ?_⟩
    simp
    have qn : qs ≠ [] := fun z => by rw [z] at l3; simp at l3
    refine ⟨qn, _, by rw [em]; exact eb, ?_⟩
    unfold Nxt
    simp [pt_ix0, pt_ix1, gcdE_ok]
    unfold Nxt
    simp [pt_ix0, pt_ix1, o1]
    rw [← List.map_take]
    exact ⟨by rw [sw_len]; omega, next _ _ _ _⟩
  · intro ρ t hh
    rw [hI] at hh
    obtain ⟨s2, s3, s4, s5, rfl⟩ := hh
    unfold Nxt
    rw [List.length_range, List.take_of_length_le (by rw [sw_len]; exact Nat.le_refl _)]
    simp
/-- the ways of two bodies' sides -/
theorem addn_map : ∀ (ws l : List (Int × Int)), ws.Nodup → addn l ws = l ++ (ws.map ngp).filter (fun w => !decide (w ∈ l))
  | [], l, _ => by simp [addn]
  | w :: ws, l, h => by
    rw [List.nodup_cons] at h
    have e : addn l (w :: ws) = addn (if ngp w ∈ l then l else l ++ [ngp w]) ws := rfl
    rw [e, addn_map ws _ h.2]
    by_cases hm : ngp w ∈ l
    · rw [if_pos hm, List.map_cons, List.filter_cons_of_neg (by simp [hm])]
    · rw [if_neg hm, List.map_cons, List.filter_cons_of_pos (by simp [hm]), List.append_assoc, List.singleton_append]
      congr 2
      apply List.filter_congr
      intro x hx
      have : x ≠ ngp w := by
        rintro rfl
        obtain ⟨y, hy, e⟩ := List.mem_map.mp hx
        have : y = w := by rw [← ngp_ngp y, e, ngp_ngp]
        exact h.1 (this ▸ hy)
      simp [this]
theorem pairE_ok {qs rs : List (Int × Int)} {one two : D} (C1 : Cvx qs) (C2 : Cvx rs) (hp1 : ∀ q ∈ qs, Ptb q) (hp2 : ∀ q ∈ rs, Ptb q) (hl1 : qs.length ≤ 1000) (hl2 : rs.length ≤ 1000) (e1 : dIx one (.int 1) = some (.tup (qs.map pt))) (e2 : dIx two (.int 1) = some (.tup (rs.map pt))) :
    m__law_pair_ways [one, two] () = .ok (.lst ((pwy qs rs).map pt)) () := by
  have w1 := sideE_ok C1 hp1 hl1
  have w2 := sideE_ok C2 hp2 hl2
  apply oE_eq
  unfold m__law_pair_ways b__law_pair_ways
  simp [e1, w1]
  unfold Nxt
  simp [e2, w2]
  refine ⟨by rw [sw_len]; omega, ?_⟩
  refine comp_map (enc := pt) (f := fun w => pt (ngp w)) (fun w hw => ⟨_, rfl, ?_⟩) ?_
  · simp
    rfl
  · have ef : (((sw rs).filter (fun w => !decide (ngp w ∈ sw qs))).map fun w => pt (ngp w)) = (((sw rs).map ngp).filter (fun w => !decide (w ∈ sw qs))).map pt := by
      rw [List.filter_map, List.map_map]
      rfl
    unfold Nxt
    simp
    refine ⟨by rw [sw_len]; omega, ?_⟩
    refine comp_filt (enc := fun w => pt (ngp w)) (f := fun w => pt (ngp w)) (p := fun w => !decide (ngp w ∈ sw qs)) (fun w hw => ⟨_, rfl, ?_, fun _ => ?_⟩) ?_
    · simp [notin_pts]
    · simp
    · rw [ef, ← List.map_append, ← addn_map _ _ C2.ways_nodup, sort_sP]
      refine ⟨?_, rfl⟩
      have : (((sw rs).map ngp).filter (fun w => !decide (w ∈ sw qs))).length ≤ ((sw rs).map ngp).length := List.length_filter_le _ _
      rw [List.length_map, sw_len] at this
      rw [sw_len, List.length_map]
      omega
theorem far_ok {qs : List (Int × Int)} {w : Int × Int} {n : Nat} (hn : qs ≠ []) (hl : qs.length ≤ 1000) (h1 : w.1.natAbs < 2 ^ n) (h2 : w.2.natAbs < 2 ^ n) (hs : n ≤ 800000) (hp : ∀ q ∈ qs, Ptb q) : m__law_far [.tup (qs.map pt), pt w] () = .ok (.int (rz w qs)) () := by
  have fm : fMaxL [.lst (qs.map fun c => .int (hw w c))] = some (.int (rz w qs)) := by
    show ((intsD (qs.map fun c => .int (hw w c))).bind fun ns => ns.max?.map D.int) = _
    rw [show (qs.map fun c => D.int (hw w c)) = (qs.map (hw w)).map D.int by rw [List.map_map]; rfl, intsD_map, Option.bind_some, rz_some hn]
    rfl
  apply oE_eq
  unfold m__law_far b__law_far
  simp
  refine ⟨by omega, comp_map (f := fun c => .int (hw w c)) (fun c hc => ?_) ?_⟩
  · have b := hp c hc
    refine ⟨_, rfl, ?_⟩
    simp [wipeR, pt_ix0, pt_ix1]
    exact ⟨mulW h1 b.1 (by omega), mulW h2 b.2 (by omega), rfl⟩
  · simp only [fm]
theorem speed_ok {b c : B15} {w : Int × Int} {k n m : Nat} (ob : b.Ok n m) (oc : c.Ok n m) (hw : Wsz k w) (hk : 1 ≤ k) (h : 2 * (k + 2 * m + 2) ≤ 8000) : m__law_speed [b.row, c.row, pt w] () = .ok (R (rateQ b c w)) () := by
  have e1 := slessE oc.s3 oc.s4 ob.s3 ob.s4 (by omega)
  have e2 := dotE hw.1 hw.2 hk (oc.s3.sub ob.s3) (oc.s4.sub ob.s4) (by omega)
  apply oE_eq
  unfold m__law_speed b__law_speed
  simp [e1, e2]
  rfl
theorem num_den (r : Rat) : ((r.num : Int) : Rat) = r * ((r.den : Int) : Rat) := by
  have e := Rat.num_divInt_den r
  have d := r.den_pos
  have d0 : ((r.den : Int) : Rat) ≠ 0 := by have := Rat.intCast_pos.mpr (show (0 : Int) < r.den by omega); grind
  rw [Rat.divInt_eq_div] at e
  generalize ((r.den : Int) : Rat) = x at *
  generalize ((r.num : Int) : Rat) = y at *
  rw [← e]
  grind
theorem betweenE_ok {b c : B15} {t : Rat} {n m l : Nat} (ob : b.Ok n m) (oc : c.Ok n m) (ht : Sz l t) (h : 10 * (n + m + l) ≤ 7000) : ∃ g : Int × Int × Int, m__law_between [b.row, c.row, R t] () = .ok (goneD g) () ∧ Gone b c t (4 * n + 4 * m + 2 * l + 20) (4 * n + 4 * m + 2 * l + 20) g := by
  have s1 := oc.s1.sub ob.s1
  have s2 := oc.s2.sub ob.s2
  have s3 := oc.s3.sub ob.s3
  have s4 := oc.s4.sub ob.s4
  have e1 := slessE oc.s1 oc.s2 ob.s1 ob.s2 (by omega)
  have e2 := slessE oc.s3 oc.s4 ob.s3 ob.s4 (by omega)
  have e3 := stimesE s3 s4 ht (by omega)
  have e4 := splusE s1 s2 (s3.mulE ht) (s4.mulE ht) (by omega)
  have g1 : Sz (2 * n + 2 * m + l + 5) (relX b c t) := (s1.addE (s3.mulE ht)).le (by omega)
  have g2 : Sz (2 * n + 2 * m + l + 5) (relY b c t) := (s2.addE (s4.mulE ht)).le (by omega)
  rw [show c.px - b.px + (c.vx - b.vx) * t = relX b c t from rfl, show c.py - b.py + (c.vy - b.vy) * t = relY b c t from rfl] at e4
  have d1 := (relX b c t).den_pos
  have d2 := (relY b c t).den_pos
  have d10 : (((relX b c t).den : Int) : Rat) ≠ 0 := by have := Rat.intCast_pos.mpr (show (0 : Int) < (relX b c t).den by omega); grind
  have d20 : (((relY b c t).den : Int) : Rat) ≠ 0 := by have := Rat.intCast_pos.mpr (show (0 : Int) < (relY b c t).den by omega); grind
  have n1 : (((relX b c t).num : Int) : Rat) = relX b c t * (((relX b c t).den : Int) : Rat) := num_den _
  have n2 : (((relY b c t).num : Int) : Rat) = relY b c t * (((relY b c t).den : Int) : Rat) := num_den _
  refine ⟨((relX b c t).num * (relY b c t).den, (relY b c t).num * (relX b c t).den, (relX b c t).den * (relY b c t).den), oE_eq ?_, Int.mul_pos (by omega) (by omega), sz_mulN g1.nu g2.den (by omega), sz_mulN g2.nu g1.den (by omega), sz_mulN g1.den g2.den (by omega), ?_, ?_⟩
  · unfold m__law_between b__law_between
    simp [e1]
    unfold Nxt
    simp [e2, e3, e4]
    unfold Nxt
    simp [mulW g1.nu g2.den (by omega), mulW g2.nu g1.den (by omega), mulW g1.den g2.den (by omega)]
    rfl
  · show (((relX b c t).num * (relY b c t).den : Int) : Rat) = _ * (((relX b c t).den * (relY b c t).den : Int) : Rat)
    rw [Rat.intCast_mul, Rat.intCast_mul, n1]
    grind
  · show (((relY b c t).num * (relX b c t).den : Int) : Rat) = _ * (((relX b c t).den * (relY b c t).den : Int) : Rat)
    rw [Rat.intCast_mul, Rat.intCast_mul, n2]
    grind
theorem roomby_ok {b c : B15} {t : Rat} {n m k N : Nat} {g : Int × Int × Int} {w : Int × Int} (ob : b.Ok n m) (oc : c.Ok n m) (hw : Wsz k w) (h : Gone b c t N N g) (hk : k ≤ 6000) (hN : N ≤ 100000) : m__law_room_by [b.row, c.row, pt w, goneD g] () = .ok (.int (roomZ b c g w)) () := by
  have r1 := far_ok ob.ne (by have := ob.hl; omega) hw.1 hw.2 (by omega) ob.hp
  have r2 := far_ok oc.ne (by have := oc.hl; omega) hw.neg.1 hw.neg.2 (by omega) oc.hp
  have hs : (hz b.qs c.qs w).natAbs < 2 ^ (k + 23) := sz_add (rz_sz ob.ne hw.1 hw.2 ob.hp) (rz_sz oc.ne hw.neg.1 hw.neg.2 oc.hp)
  have en : D.tup [.int (-w.1), .int (-w.2)] = pt (ngp w) := rfl
  have x0 : dIx (goneD g) (.int 0) = some (.int g.1) := rfl
  have x1 : dIx (goneD g) (.int 1) = some (.int g.2.1) := rfl
  have x2 : dIx (goneD g) (.int 2) = some (.int g.2.2) := rfl
  apply oE_eq
  unfold m__law_room_by b__law_room_by
  simp [r1, pt_ix0, pt_ix1, en, r2]
  unfold Nxt
  simp [pt_ix0, pt_ix1, x0, x1, x2]
  exact ⟨mulW hw.1 h.s1 (by omega), mulW hw.2 h.s2 (by omega), mulW hs h.s3 (by omega), rfl⟩
def roomD (r : Int) (w : Int × Int) : D := .tup [.int r, pt w]
open Classical in
theorem overE_ok {b c : B15} {t : Rat} {n m l : Nat} (ob : b.Ok n m) (oc : c.Ok n m) (ht : Sz l t) (h : 10 * (n + m + l) ≤ 7000) : m__law_over [b.row, c.row, R t] () = .ok (.bl (decide (OverAt b c t))) () := by
  obtain ⟨g, eg, hg⟩ := betweenE_ok ob oc ht (by omega)
  have bl := ob.hl
  have cl := oc.hl
  have pw := pairE_ok ob.cv oc.cv ob.hp oc.hp (by omega) (by omega) (B15.ix1 (b := b)) (B15.ix1 (b := c))
  have wz := fun x h => pwy_wsz (w := x) ob.cv oc.cv ob.hp oc.hp h
  have wl := pwy_len (qs := b.qs) (rs := c.qs)
  have wne := pwy_ne (rs := c.qs) ob.cv
  have er : m__law_rooms [b.row, c.row, R t] () = .ok (.lst ((pwy b.qs c.qs).map fun w => roomD (roomZ b c g w) w)) () := by
    apply oE_eq
    unfold m__law_rooms b__law_rooms
    simp [eg]
    unfold Nxt
    simp [pw]
    refine ⟨by omega, comp_map (f := fun w => roomD (roomZ b c g w) w) (fun w hw => ⟨_, rfl, ?_⟩) rfl⟩
    simp [wipeR, roomby_ok ob oc (wz w hw) hg (by decide) (by omega)]
    rfl
  obtain ⟨w, hw, em, hm⟩ := max_key (fun w => roomD (roomZ b c g w) w) (fun w => [pyP w]) (fun w => roomZ b c g w) (fun w => rfl) (fun a b => by simp [PySem.W.alikeAll, PySem.W.alike, pyP]) (fun a => by simp [PyData.depthAll, PyData.depth, pyP]) wne
  have hov : roomZ b c g w < 0 ↔ OverAt b c t := by
    constructor
    · intro h1 x hx
      have := hm x hx
      exact (roomZ_neg hg x).mp (by omega)
    · intro ho
      exact (roomZ_neg hg w).mpr (ho w hw)
  have x0 : dIx (roomD (roomZ b c g w) w) (.int 0) = some (.int (roomZ b c g w)) := rfl
  apply oE_eq
  unfold m__law_over b__law_over
  simp [er, em, x0, hov]
theorem letter_len {k : Int} {z : Str} (h : dIx (.str "abcdefghijklmnopqrstuvwxyz") (.int k) = some (.str z)) : z.length = 1 := by
  have e : dIx (.str "abcdefghijklmnopqrstuvwxyz") (.int k) = if lim2 ("abcdefghijklmnopqrstuvwxyz" : Str).length = true then (atI ("abcdefghijklmnopqrstuvwxyz" : Str).cps.toList k).map fun c => D.str ⟨#[c]⟩ else none := rfl
  rw [e, if_pos (by decide)] at h
  cases q : atI ("abcdefghijklmnopqrstuvwxyz" : Str).cps.toList k with
  | none => rw [q] at h; cases h
  | some c => rw [q] at h; cases h; rfl
theorem join_len : ∀ ys : List Str, (∀ y ∈ ys, y.length = 1) → (Txt.join "" ys).length = ys.length := fun ys h => by
  rw [TL.join_eq, str_len, show (Str.join "" ys).cps.toList = TL.joinL [] (ys.map TL.tl) from TL.tl_join "" ys]
  induction ys with
  | nil => rfl
  | cons y r ih =>
    have h1 := h y List.mem_cons_self
    have e : TL.joinL [] ((y :: r).map TL.tl) = TL.tl y ++ TL.joinL [] (r.map TL.tl) := by
      cases r with
      | nil => simp [TL.joinL]
      | cons z r => simp [TL.joinL]
    rw [e, List.length_append, ih fun z hz => h z (List.mem_cons_of_mem _ hz), List.length_cons]
    rw [str_len] at h1
    have : (TL.tl y).length = 1 := h1
    omega
theorem signed_wp {ns : List Int} {a : Addr} {n : Nat} {t : Dk} {z : Int} {Q : D → Dk → Prop} {X : Str → Fds → Dk → Prop} (g : Gd ns a n t) (hc : n < 100000000000) (h0 : 0 ≤ z) (h1 : z ≤ 1000000) (h : ∀ (r : Int) (t' : Dk), -z ≤ r → r ≤ z → Gd ns a (n + 1) t' → Q (.int r) t') :
    oE (m__law_signed [.at a, .int z] t) Q X := by
  unfold m__law_signed b__law_signed
  simp
  refine ⟨small_mul (i := 2) (a := 8) (b := 40) (by decide) (by omega) (by decide) (by decide) (by decide), take_wp g (by omega) (many_of (by omega) (by omega)) fun r t1 r0 r1 g1 => ?_⟩
  simp
  exact h _ _ (by omega) (by omega) g1
theorem bot_mul {u v : Int} (u0 : 0 ≤ u) (u1 : u < 4) (v0 : 0 ≤ v) (v1 : v < 2) : 1 ≤ 1 + u * v ∧ 1 + u * v ≤ 4 := by
  have : v = 0 ∨ v = 1 := by omega
  rcases this with rfl | rfl <;> omega
theorem size_wp {ns : List Int} {a : Addr} {n : Nat} {t : Dk} {z : Int} {k : Nat} {Q : D → Dk → Prop} {X : Str → Fds → Dk → Prop} (g : Gd ns a n t) (hc : n < 10000000000) (h0 : 0 ≤ z) (hz : z < 2 ^ k) (hk : 3 ≤ k) (hk2 : k ≤ 10) (h : ∀ (r : Rat) (t' : Dk), Sz k r → Gd ns a (n + 3) t' → Q (R r) t') :
    oE (m__law_drawn_size [.at a, .int z] t) Q X := by
  have k1 : (2 : Nat) ^ 3 ≤ 2 ^ k := Nat.pow_le_pow_right (by decide) hk
  have k2 : (2 : Nat) ^ k ≤ 2 ^ 10 := Nat.pow_le_pow_right (by decide) hk2
  have k3 : ((2 : Int) ^ k) = ((2 ^ k : Nat) : Int) := by simp
  unfold m__law_drawn_size b__law_drawn_size
  simp
  refine signed_wp g (by omega) h0 (by omega) fun p t1 p0 p1 g1 => ?_
  refine take_wp g1 (by omega) (many_of (by decide) (by decide)) fun u t2 u0 u1 g2 => ?_
  refine take_wp g2 (by omega) (many_of (by decide) (by decide)) fun v t3 v0 v1 g3 => ?_
  have b := bot_mul u0 u1 v0 v1
  simp
  refine ⟨small_mul (i := u) (j := v) (a := 20) (b := 20) (by omega) (by omega) (by decide) (by decide) (by decide), ?_⟩
  rw [lowest_ok (by omega) (up8 (n := 20) (by omega) (by decide))]
  exact h _ _ (divInt_sz (n := k) (by omega) (by omega) (by omega)) (g3.le (by omega))
theorem above_wp {ns : List Int} {a : Addr} {n : Nat} {t : Dk} {z : Int} {k : Nat} {Q : D → Dk → Prop} {X : Str → Fds → Dk → Prop} (g : Gd ns a n t) (hc : n < 10000000000) (h0 : 1 ≤ z) (hz : z < 2 ^ k) (hk : 3 ≤ k) (hk2 : k ≤ 10) (h : ∀ (r : Rat) (t' : Dk), 0 < r → Sz k r → Gd ns a (n + 3) t' → Q (R r) t') :
    oE (m__law_above [.at a, .int z] t) Q X := by
  have k1 : (2 : Nat) ^ 3 ≤ 2 ^ k := Nat.pow_le_pow_right (by decide) hk
  have k2 : (2 : Nat) ^ k ≤ 2 ^ 10 := Nat.pow_le_pow_right (by decide) hk2
  have k3 : ((2 : Int) ^ k) = ((2 ^ k : Nat) : Int) := by simp
  unfold m__law_above b__law_above
  simp
  refine take_wp g (by omega) (m := z) (many_of (by omega) (by omega)) fun p t1 p0 p1 g1 => ?_
  simp
  refine take_wp g1 (by omega) (many_of (by decide) (by decide)) fun u t2 u0 u1 g2 => ?_
  refine take_wp g2 (by omega) (many_of (by decide) (by decide)) fun v t3 v0 v1 g3 => ?_
  have b := bot_mul u0 u1 v0 v1
  simp
  refine ⟨small_mul (i := u) (j := v) (a := 20) (b := 20) (by omega) (by omega) (by decide) (by decide) (by decide), ?_⟩
  rw [lowest_ok (by omega) (up8 (n := 20) (by omega) (by decide))]
  refine h _ _ ?_ (divInt_sz (n := k) (by omega) (by omega) (by omega)) (g3.le (by omega))
  rw [Rat.divInt_eq_div, Rat.div_def]
  exact Rat.mul_pos (Rat.intCast_pos.mpr (by omega)) (Rat.inv_pos.mpr (Rat.intCast_pos.mpr (by omega)))
theorem pw_of {α : Type} {f : α → D} {p : α → Prop} : ∀ {ds ys : List D}, Pw (fun _ y => ∃ c : α, y = f c ∧ p c) ds ys → ∃ cs : List α, ys = cs.map f ∧ (∀ c ∈ cs, p c) ∧ cs.length = ds.length
  | _, _, .nil => ⟨[], rfl, fun x hx => (nomatch hx), rfl⟩
  | _, _, .cons h t => by
    obtain ⟨x, rfl, hx⟩ := h
    obtain ⟨xs, rfl, h1, h2⟩ := pw_of t
    refine ⟨x :: xs, rfl, fun y hy => ?_, by simp [h2]⟩
    rcases List.mem_cons.mp hy with rfl | hy
    · exact hx
    · exact h1 y hy
/-- a name: 1 to 3 or 10 to 12 small letters -/
theorem nameE_wp {ns : List Int} {a : Addr} {n : Nat} {t : Dk} {Q : D → Dk → Prop} {X : Str → Fds → Dk → Prop} (g : Gd ns a n t) (hc : n < 10000000) (h : ∀ (x : Str) (t' : Dk), Nm 30 x → x.length ≠ 5 → Gd ns a (n + 20) t' → Q (.str x) t') :
    oE (m__law_drawn_name [.at a] t) Q X := by
  unfold m__law_drawn_name b__law_drawn_name
  simp
  refine take_wp g (by omega) (many_of (by decide) (by decide)) fun k t1 k0 k1 g1 => ?_
  simp
  refine take_wp g1 (by omega) (many_of (by decide) (by decide)) fun u t2 u0 u1 g2 => ?_
  simp
  obtain ⟨w, hw, ew⟩ : ∃ w : Int, (1 + k + 9 * if u = 0 then 1 else 0) = w ∧ (w = 1 ∨ w = 2 ∨ w = 3 ∨ w = 10 ∨ w = 11 ∨ w = 12) := ⟨_, rfl, by split <;> omega⟩
  refine ⟨by split <;> decide, ?_⟩
  rw [hw]
  unfold Nxt
  simp
  have hlen : (rngD 0 w.toNat).length = w.toNat := by simp [rngD]
  refine ⟨by omega, by rw [hlen]; omega, comp_wp (p := fun _ y => ∃ x, y = .str x ∧ (Nm 1 x ∧ x.length = 1)) (k := 1) (B := n + 200) _ (fun d hd m t1 g1 hm => ⟨_, rfl, ?_⟩) _ t2 g2 (by omega) fun ys t' hys g' => ?_⟩
  · simp [wipeR]
    refine take_wp g1 (by omega) (many_of (by decide) (by decide)) fun r t2 r0 r1 g2 => ?_
    obtain ⟨x, e, hx⟩ := letter_at r0 r1
    exact ⟨_, e, ⟨x, rfl, hx, letter_len e⟩, g2⟩
  · obtain ⟨xs, rfl, hx1, hl⟩ := pw_of hys
    have hx : ∀ x ∈ xs, Nm 1 x := fun x m => (hx1 x m).1
    rw [hlen] at hl g'
    have hj := nm_join xs hx
    have hjl := join_len xs fun x m => (hx1 x m).2
    rw [hl, Nat.one_mul] at hj
    simp only [join_ok hx (by omega), Option.some.injEq, exists_eq_left']
    exact h _ _ (hj.mono (by omega)) (by omega) (g'.le (by omega))
theorem lawwayE_wp {ns : List Int} {a : Addr} {n : Nat} {t : Dk} {z : Int} {Q : D → Dk → Prop} {X : Str → Fds → Dk → Prop} (g : Gd ns a n t) (hc : n < 10000000) (h0 : 1 ≤ z) (h1 : z ≤ 7) (h : ∀ (w : Int × Int) (t' : Dk), w.1.natAbs < 2 ^ 3 → w.2.natAbs < 2 ^ 3 → Int.gcd w.1 w.2 = 1 → Gd ns a (n + 2) t' → Q (pt w) t') :
    oE (m__law_drawn_way [.at a, .int z] t) Q X := by
  unfold m__law_drawn_way b__law_drawn_way
  simp
  refine signed_wp g (by omega) (by omega) (by omega) fun p t1 p0 p1 g1 => ?_
  unfold Nxt
  simp
  refine signed_wp g1 (by omega) (by omega) (by omega) fun q t2 q0 q1 g2 => ?_
  unfold Nxt
  simp [gcdE_ok]
  unfold Nxt
  by_cases hz : p = 0 ∧ q = 0
  · obtain ⟨rfl, rfl⟩ := hz
    simp
    exact ⟨by decide, h (1, 0) _ (by decide) (by decide) (by decide) (g2.le (by omega))⟩
  · have h0 : p ≠ 0 ∨ q ≠ 0 := by omega
    have gs := gcd_small (n := 3) h0 (by omega) (by omega)
    have mx : max 1 (Int.gcd p q : Int) = (Int.gcd p q : Int) := by omega
    have o1 : ∀ x, divOk x (Int.gcd p q : Int) = true := fun x => small_div gs.1 gs.2 (by decide) (by decide)
    rw [mx]
    simp [gs.1, o1]
    have sz := nw_sz (n := 3) h0 (by omega) (by omega)
    have fin := h (nw p q) t2 sz.1 sz.2 (nw_gcd h0) (g2.le (by omega))
    by_cases e : p = 0
    · right
      refine ⟨e, _, ?_, fin⟩
      rw [if_neg fun z => hz ⟨e, z⟩]
      rfl
    · exact .inl ⟨e, fin⟩
theorem shapeE_wp {ns : List Int} {a : Addr} {n : Nat} {t : Dk} {Q : D → Dk → Prop} {X : Str → Fds → Dk → Prop} (g : Gd ns a n t) (hc : n < 10000000) (h : ∀ (qs : List (Int × Int)) (t' : Dk), Cvx qs → (∀ q ∈ qs, q.1.natAbs < 4 ∧ q.2.natAbs < 4) → qs.length ≤ 16 → Gd ns a (n + 30) t' → Q (.tup (qs.map pt)) t') :
    oE (m__law_drawn_shape [.at a, .int 3] t) Q X := by
  unfold m__law_drawn_shape b__law_drawn_shape
  simp
  refine take_wp g (by omega) (many_of (by decide) (by decide)) fun w t1 w0 w1 g1 => ?_
  unfold Nxt
  simp
  refine take_wp g1 (by omega) (many_of (by decide) (by decide)) fun k t2 k0 k1 g2 => ?_
  simp
  by_cases hk : 0 < k
  · right
    refine ⟨hk, ?_⟩
    unfold Nxt
    simp
    refine take_wp g2 (by omega) (many_of (by decide) (by decide)) fun v t3 v0 v1 g3 => ?_
    simp
    refine h [(0, 0), (1 + w, 0), (1 + w, 1 + v), (0, 1 + v)] t3 ?_ (fun q hq => ?_) (by simp) (g3.le (by omega))
    · have := box_cvx (x := 0) (y := 0) (w := 1 + w) (h := 1 + v) (by omega) (by omega)
      rwa [Int.zero_add, Int.zero_add] at this
    · simp only [List.mem_cons, List.not_mem_nil, or_false] at hq
      rcases hq with rfl | rfl | rfl | rfl <;> exact ⟨by show Int.natAbs _ < _; omega, by show Int.natAbs _ < _; omega⟩
  · left
    refine ⟨by omega, ?_⟩
    unfold Nxt
    simp
    refine take_wp g2 (by omega) (many_of (by decide) (by decide)) fun j t3 j0 j1 g3 => ?_
    simp
    have hlen : (rngD 0 (3 + j).toNat).length = (3 + j).toNat := by simp [rngD]
    refine ⟨by omega, by rw [hlen]; omega, comp_wp (p := fun _ y => ∃ c : Int × Int, y = pt c ∧ (c.1.natAbs < 4 ∧ c.2.natAbs < 4)) (k := 2) (B := n + 200) _ (fun d hd k t1 g1 hm => ⟨_, rfl, ?_⟩) _ t3 g3 (by rw [hlen]; omega) fun ys t' hys g' => ?_⟩
    · simp [wipeR]
      refine signed_wp g1 (by omega) (by omega) (by omega) fun x t2 x0 x1 g2 => ?_
      refine signed_wp g2 (by omega) (by omega) (by omega) fun y t3 y0 y1 g3 => ?_
      exact ⟨⟨x, y, rfl, ⟨by show x.natAbs < _; omega, by show y.natAbs < _; omega⟩⟩, g3⟩
    · obtain ⟨ps, rfl, hps, hpl⟩ := pw_of hys
      rw [hlen] at hpl g'
      have hpb : ∀ p ∈ ps, Ptb p := fun p m => by have := hps p m; exact ⟨by omega, by omega⟩
      obtain ⟨us, vs, e1, e2, hm, l1, l2, hcv⟩ := hull_core hpb (by omega)
      have er : dRev (.lst ((sP ps).map pt)) = some ((sP ps).reverse.map pt) := by
        show some ((sP ps).map pt).reverse = _
        rw [List.map_reverse]
      simp [sort_sP]
      unfold Nxt
      simp [e1, er]
      rw [← List.map_reverse, e2]
      simp [fTup]
      refine ⟨by omega, ?_⟩
      unfold Nxt
      simp
      by_cases hl3 : us.length + vs.length < 3
      · right
        refine ⟨by omega, h [(0, 0), (1 + w, 0), (0, 2)] t' ?_ (fun q hq => ?_) (by simp) (g'.le (by omega))⟩
        · exact cvx_of (U := [(0, 0)]) (V := [(1 + w, 0), (0, 2)]) (f := (0, 0)) (z := (1 + w, 0)) rfl rfl (.c1 (.inl (show (0 : Int) < 1 + w by omega))) (.c2 (.inl (show (0 : Int) < 1 + w by omega)) (by unfold lf; simp; omega) (.c1 (.inr ⟨rfl, by decide⟩))) (show 3 ≤ 3 by decide)
        · simp only [List.mem_cons, List.not_mem_nil, or_false] at hq
          rcases hq with rfl | rfl | rfl <;> exact ⟨by show Int.natAbs _ < _; omega, by show Int.natAbs _ < _; omega⟩
      · left
        refine ⟨by omega, ?_⟩
        unfold Nxt
        simp
        have := h (us ++ vs) t' (hcv (by omega)) (fun q hq => hps q (hm q hq)) (by simp; omega) (g'.le (by omega))
        rwa [List.map_append] at this
/-- a body of the law's own scene -/
structure SOk (n : Nat) (b : B15) : Prop where
  ok : b.Ok n 8
  sm : ∀ q ∈ b.qs, q.1.natAbs < 4 ∧ q.2.natAbs < 4
  ms : 0 ≤ b.m ∧ b.m ≤ 10
  rl : b.rl = .non ∨ ∃ w : Int × Int, b.rl = pt w ∧ w.1.natAbs < 2 ^ 3 ∧ w.2.natAbs < 2 ^ 3 ∧ Int.gcd w.1 w.2 = 1
  wall : b.m = 0 → b.rl = .non ∧ b.vx = 0 ∧ b.vy = 0
theorem SOk.le {n n' : Nat} {b : B15} (o : SOk n b) (h : n ≤ n') : SOk n' b := ⟨o.ok.le h (Nat.le_refl _), o.sm, o.ms, o.rl, o.wall⟩
theorem rowE_wp {ns : List Int} {a : Addr} {n k : Nat} {t : Dk} {qs : List (Int × Int)} {px py : Rat} {Q : D → Dk → Prop} {X : Str → Fds → Dk → Prop} (g : Gd ns a n t) (hc : n < 1000000) (cv : Cvx qs) (sm : ∀ q ∈ qs, q.1.natAbs < 4 ∧ q.2.natAbs < 4) (hl : qs.length ≤ 16) (h1 : Sz k px) (h2 : Sz k py) (h : ∀ (b : B15) (t' : Dk), SOk k b → b.qs = qs → b.x.length ≠ 5 → Gd ns a (n + 40) t' → Q b.row t') :
    oE (m__law_drawn_row [.at a, .tup (qs.map pt), S2 px py] t) Q X := by
  have hp : ∀ q ∈ qs, Ptb q := fun q m => by have := sm q m; exact ⟨by omega, by omega⟩
  unfold m__law_drawn_row b__law_drawn_row
  simp
  refine nameE_wp g (by omega) fun x t1 hx x5 g1 => ?_
  unfold Nxt
  simp
  refine take_wp g1 (by omega) (many_of (by decide) (by decide)) fun z t2 z0 z1 g2 => ?_
  unfold Nxt
  simp
  by_cases hz : z = 0
  · right
    exact ⟨hz, h ⟨x, qs, 0, .non, px, py, 0, 0⟩ t2 ⟨⟨hx, cv, hp, hl, h1, h2, Sz.zero0 (by decide), Sz.zero0 (by decide)⟩, sm, ⟨Int.le_refl 0, show (0 : Int) ≤ 10 by decide⟩, .inl rfl, fun _ => ⟨rfl, rfl, rfl⟩⟩ rfl x5 (g2.le (by omega))⟩
  · left
    refine ⟨hz, ?_⟩
    unfold Nxt
    simp
    refine take_wp g2 (by omega) (many_of (by decide) (by decide)) fun m t3 m0 m1 g3 => ?_
    simp
    unfold Nxt
    simp
    refine size_wp (k := 3) g3 (by omega) (by decide) (by decide) (by decide) (by decide) fun vx t4 svx g4 => ?_
    refine size_wp (k := 3) g4 (by omega) (by decide) (by decide) (by decide) (by decide) fun vy t5 svy g5 => ?_
    unfold Nxt
    simp
    by_cases hz1 : 1 < z
    · right
      exact ⟨hz1, h ⟨x, qs, 1 + m, .non, px, py, vx, vy⟩ t5 ⟨⟨hx, cv, hp, hl, h1, h2, svx.le (by decide), svy.le (by decide)⟩, sm, ⟨by show 0 ≤ 1 + m; omega, by show 1 + m ≤ 10; omega⟩, .inl rfl, fun z => absurd z (by show ¬ 1 + m = 0; omega)⟩ rfl x5 (g5.le (by omega))⟩
    · left
      refine ⟨by omega, ?_⟩
      unfold Nxt
      simp
      refine lawwayE_wp g5 (by omega) (by decide) (by decide) fun w t6 w1 w2 wg g6 => ?_
      unfold Nxt
      have a1 : Sz 3 (w.1 : Rat) := Sz.int w1 (by decide)
      have a2 : Sz 3 (w.2 : Rat) := Sz.int w2 (by decide)
      simp [spotof_ok, stimesE a1 a2 svx (by decide)]
      exact h ⟨x, qs, 1 + m, pt w, px, py, w.1 * vx, w.2 * vx⟩ t6 ⟨⟨hx, cv, hp, hl, h1, h2, (a1.mulE svx).le (by decide), (a2.mulE svx).le (by decide)⟩, sm, ⟨by show 0 ≤ 1 + m; omega, by show 1 + m ≤ 10; omega⟩, .inr ⟨w, rfl, w1, w2, wg⟩, fun z => absurd z (by show ¬ 1 + m = 0; omega)⟩ rfl x5 (g6.le (by omega))
theorem side_wszN {qs : List (Int × Int)} {w : Int × Int} (C : Cvx qs) (hp : ∀ q ∈ qs, q.1.natAbs < 4 ∧ q.2.natAbs < 4) (h : w ∈ sw qs) : Wsz 3 w := by
  obtain ⟨i, hi, rfl⟩ := List.mem_map.mp h
  have hi := List.mem_range.mp hi
  have hm : (i + 1) % qs.length < qs.length := Nat.mod_lt _ (by omega)
  have a := hp _ (List.mem_of_getElem? (q0_at hi))
  have b := hp _ (List.mem_of_getElem? (q0_at hm))
  exact nw_sz (side_ne (C.ne hi)) (by omega) (by omega)
theorem pwy_wszN {b c : B15} {n m : Nat} (ob : SOk n b) (oc : SOk m c) {w : Int × Int} (h : w ∈ pwy b.qs c.qs) : Wsz 3 w := by
  rcases pwy_mem.mp h with h | h
  · exact side_wszN ob.ok.cv ob.sm h
  · have := (side_wszN oc.ok.cv oc.sm h).neg
    rwa [ngp_ngp] at this
theorem besideE_wp {ns : List Int} {a : Addr} {n k : Nat} {t : Dk} {b c : B15} {Q : D → Dk → Prop} {X : Str → Fds → Dk → Prop} (g : Gd ns a n t) (hc : n < 1000000) (ob : SOk k b) (oc : SOk 4 c) (hk : 4 ≤ k) (hk2 : k ≤ 300) (h : ∀ (px py : Rat) (t' : Dk), SOk (k + 18) { c with px := px, py := py } → Gd ns a (n + 30) t' → Q ({ c with px := px, py := py } : B15).row t') :
    oE (m__law_beside [.at a, b.row, c.row] t) Q X := by
  have bl := ob.ok.hl
  have cl := oc.ok.hl
  have pw := pairE_ok ob.ok.cv oc.ok.cv ob.ok.hp oc.ok.hp (by omega) (by omega) (B15.ix1 (b := b)) (B15.ix1 (b := c))
  have wz := fun x h => pwy_wszN (w := x) ob oc h
  have wl := pwy_len (qs := b.qs) (rs := c.qs)
  have wne := pwy_ne (rs := c.qs) ob.ok.cv
  unfold m__law_beside b__law_beside
  simp [pw]
  refine lawwayE_wp g (by omega) (by decide) (by decide) fun w0 t1 w1 w2 wg g1 => ?_
  have wln : ((pwy b.qs c.qs).map pt ++ [pt w0]) = (pwy b.qs c.qs ++ [w0]).map pt := by rw [List.map_append]; rfl
  obtain ⟨ws, hws⟩ : ∃ ws, ws = pwy b.qs c.qs ++ [w0] := ⟨_, rfl⟩
  have wsz : ∀ w ∈ ws, Wsz 3 w := fun w m => by
    rw [hws] at m
    rcases List.mem_append.mp m with m | m
    · exact wz w m
    · rw [List.mem_singleton.mp m]; exact ⟨w1, w2⟩
  have wsl : ws.length ≤ 33 ∧ 1 ≤ ws.length := by rw [hws, List.length_append, List.length_singleton]; omega
  have wsl2 : ws.length = (pwy b.qs c.qs).length + 1 := by rw [hws, List.length_append, List.length_singleton]
  rw [wln, ← hws]
  refine ⟨by omega, ?_⟩
  unfold Nxt
  simp
  refine take_wp g1 (by omega) (many_of (by omega) (by omega)) fun i t2 i0 i1 g2 => ?_
  obtain ⟨w, hwm, ew⟩ : ∃ w ∈ ws, atI (ws.map pt) i = some (pt w) := by
    obtain ⟨j, rfl⟩ : ∃ j : Nat, i = (j : Int) := ⟨i.toNat, by omega⟩
    have hj : j < ws.length := by omega
    exact ⟨ws[j], List.getElem_mem hj, atI_nat (by rw [List.getElem?_map, List.getElem?_eq_getElem hj]; rfl)⟩
  have wzw := wsz w hwm
  simp [ew]
  unfold Nxt
  simp
  refine size_wp (k := 3) g2 (by omega) (by decide) (by decide) (by decide) (by decide) fun r1 t3 sr1 g3 => ?_
  refine take_wp g3 (by omega) (many_of (by decide) (by decide)) fun i3 t4 i30 i31 g4 => ?_
  obtain ⟨r, hr, er⟩ : ∃ r, Sz 3 r ∧ dIx (.lst [.tup [.int 0, .int 1], R r1]) (.int i3) = some (R r) := by
    have : i3 = 0 ∨ i3 = 1 := by omega
    rcases this with rfl | rfl
    · exact ⟨0, Sz.zero0 (by decide), rfl⟩
    · exact ⟨r1, sr1, rfl⟩
  refine ⟨_, er, ?_⟩
  unfold Nxt
  simp
  refine above_wp (k := 3) g4 (by omega) (by decide) (by decide) (by decide) (by decide) fun r2 t5 r20 sr2 g5 => ?_
  refine take_wp g5 (by omega) (many_of (by decide) (by decide)) fun i4 t6 i40 i41 g6 => ?_
  obtain ⟨off, hoff, eoff⟩ : ∃ r, Sz 3 r ∧ dIx (.lst [.tup [.int 0, .int 1], .tup [.int 0, .int 1], R r2]) (.int i4) = some (R r) := by
    have : i4 = 0 ∨ i4 = 1 ∨ i4 = 2 := by omega
    rcases this with rfl | rfl | rfl
    · exact ⟨0, Sz.zero0 (by decide), rfl⟩
    · exact ⟨0, Sz.zero0 (by decide), rfl⟩
    · exact ⟨r2, sr2, rfl⟩
  refine ⟨_, eoff, ?_⟩
  unfold Nxt
  simp
  refine take_wp g6 (by omega) (many_of (by decide) (by decide)) fun sg t7 s0 s1 g7 => ?_
  simp
  refine ⟨small_mul (i := 2) (j := sg) (a := 20) (b := 20) (by omega) (by omega) (by decide) (by decide) (by decide), ?_⟩
  obtain ⟨s, es, hs⟩ : ∃ s : Int, 1 - 2 * sg = s ∧ s.natAbs ≤ 1 := ⟨_, rfl, by omega⟩
  rw [es]
  unfold Nxt
  simp
  refine ⟨by omega, comp_map (enc := pt) (f := fun q => roomD (hw w q) q) (fun q hq => ⟨_, rfl, ?_⟩) ?_⟩
  · have hb := ob.ok.hp q hq
    simp [wipeR, pt_ix0, pt_ix1]
    exact ⟨mulW wzw.1 hb.1 (by decide), mulW wzw.2 hb.2 (by decide), rfl⟩
  obtain ⟨mi, hmi, emi, _⟩ := max_key (fun q => roomD (hw w q) q) (fun q => [pyP q]) (fun q => hw w q) (fun w => rfl) (fun a b => by simp [PySem.W.alikeAll, PySem.W.alike, pyP]) (fun a => by simp [PyData.depthAll, PyData.depth, pyP]) ob.ok.ne
  refine ⟨_, emi, ?_⟩
  refine ⟨pt mi, rfl, ?_⟩
  unfold Nxt
  simp
  have m4 := ob.sm mi hmi
  refine ⟨by omega, comp_map (enc := pt) (f := fun q => .tup [.int (hw w q), .int (s * q.1), .int (s * q.2), pt q]) (fun q hq => ⟨_, rfl, ?_⟩) ?_⟩
  · have hb := oc.ok.hp q hq
    have hb4 := oc.sm q hq
    simp [wipeR, pt_ix0, pt_ix1]
    exact ⟨mulW wzw.1 hb.1 (by decide), mulW wzw.2 hb.2 (by decide), small_mul (a := 20) (b := 20) (by omega) (by omega) (by decide) (by decide) (by decide), small_mul (a := 20) (b := 20) (by omega) (by omega) (by decide) (by decide) (by decide), rfl⟩
  obtain ⟨yo, hyo, eyo, _⟩ := min_key (fun q => .tup [.int (hw w q), .int (s * q.1), .int (s * q.2), pt q]) (fun q => [.int (s * q.1), .int (s * q.2), pyP q]) (fun q => hw w q) (fun w => rfl) (fun a b => by simp [PySem.W.alikeAll, PySem.W.alike, pyP]) (fun a => by simp [PyData.depthAll, PyData.depth, pyP]) oc.ok.ne
  have y4 := oc.sm yo hyo
  refine ⟨_, eyo, ?_⟩
  refine ⟨pt yo, rfl, ?_⟩
  unfold Nxt
  simp [pt_ix0, pt_ix1]
  have d1 : Sz 3 ((mi.1 - yo.1 : Int) : Rat) := Sz.int (by omega) (by decide)
  have d2 : Sz 3 ((mi.2 - yo.2 : Int) : Rat) := Sz.int (by omega) (by decide)
  have sof := spotof_ok (mi.1 - yo.1, mi.2 - yo.2)
  have e1 := splusE ob.ok.s1 ob.ok.s2 d1 d2 (by omega)
  have p1 := ob.ok.s1.addE d1
  have p2 := ob.ok.s2.addE d2
  have so2 := spotof_ok (-w.2, w.1)
  have x1 : Sz 3 ((-w.2 : Int) : Rat) := Sz.int (by have := wzw.2; omega) (by decide)
  have x2 : Sz 3 ((w.1 : Int) : Rat) := Sz.int wzw.1 (by decide)
  have x3 : Sz 3 ((w.2 : Int) : Rat) := Sz.int wzw.2 (by decide)
  have e2 := stimesE x1 x2 hr (by decide)
  have e3 := splusE p1 p2 (x1.mulE hr) (x2.mulE hr) (by omega)
  have p3 := p1.addE (x1.mulE hr)
  have p4 := p2.addE (x2.mulE hr)
  have so3 := spotof_ok w
  have e4 := stimesE x2 x3 hoff (by decide)
  have e5 := splusE p3 p4 (x2.mulE hoff) (x3.mulE hoff) (by omega)
  have p5 := p3.addE (x2.mulE hoff)
  have p6 := p4.addE (x3.mulE hoff)
  rw [show D.tup [.int (mi.1 - yo.1), .int (mi.2 - yo.2)] = pt (mi.1 - yo.1, mi.2 - yo.2) from rfl, sof]
  simp only [oE_ok]
  rw [e1]
  generalize b.px + ((mi.1 - yo.1 : Int) : Rat) = X1 at *
  generalize b.py + ((mi.2 - yo.2 : Int) : Rat) = Y1 at *
  unfold Nxt
  simp [pt_ix0, pt_ix1]
  rw [show D.tup [.int (-w.2), .int w.1] = pt (-w.2, w.1) from rfl, so2]
  simp only [oE_ok]
  rw [e2]
  simp only [oE_ok]
  rw [e3]
  generalize X1 + ((-w.2 : Int) : Rat) * r = X2 at *
  generalize Y1 + ((w.1 : Int) : Rat) * r = Y2 at *
  have cut1 : dCutA c.row none (some 4) = some (.tup [.str c.x, .tup (c.qs.map pt), .int c.m, c.rl]) := rfl
  have cut2 : dCutA c.row (some 5) none = some (.tup [S2 c.vx c.vy]) := rfl
  unfold Nxt
  simp [so3, e4, e5, cut1, cut2]
  exact h (X2 + (w.1 : Rat) * off) (Y2 + (w.2 : Rat) * off) t7 ⟨⟨oc.ok.hx, oc.ok.cv, oc.ok.hp, oc.ok.hl, p5.le (by omega), p6.le (by omega), oc.ok.s3, oc.ok.s4⟩, oc.sm, oc.ms, oc.rl, oc.wall⟩ (g7.le (by omega))
/-- plain data of a depth -/
def gd : Nat → D → Bool
  | _, .non => true
  | _, .bl _ => true
  | _, .int _ => true
  | _, .str x => PyData.canLay0 (.str x)
  | n + 1, .tup ds => ds.all (gd n)
  | n + 1, .lst ds => ds.all (gd n)
  | _, _ => false
theorem gds_ok {n : Nat} (ih : ∀ d, gd n d = true → ∃ p, py d = some p ∧ p.canLay0 = true ∧ p.depth ≤ n) : ∀ ds : List D, ds.all (gd n) = true → ∃ ps, pys ds = some ps ∧ PyData.canLayAll0 ps = true ∧ PyData.depthAll ps ≤ n
  | [], _ => ⟨[], rfl, rfl, Nat.zero_le _⟩
  | d :: ds, h => by
    rw [List.all_cons, Bool.and_eq_true_iff] at h
    obtain ⟨p, h1, h2, h3⟩ := ih d h.1
    obtain ⟨ps, k1, k2, k3⟩ := gds_ok ih ds h.2
    exact ⟨p :: ps, by simp [pys, h1, k1], by simp [PyData.canLayAll0, h2, k2], by simp [PyData.depthAll]; omega⟩
theorem gd_ok : ∀ (n : Nat) (d : D), gd n d = true → ∃ p, py d = some p ∧ p.canLay0 = true ∧ p.depth ≤ n := by
  intro n
  induction n with
  | zero =>
    intro d h
    cases d <;> first
      | (cases h; done)
      | exact ⟨_, rfl, h, Nat.zero_le _⟩
      | exact ⟨_, rfl, rfl, Nat.zero_le _⟩
  | succ n ih =>
    intro d h
    cases d <;> first
      | (cases h; done)
      | exact ⟨_, rfl, h, Nat.zero_le _⟩
      | exact ⟨_, rfl, rfl, Nat.zero_le _⟩
      | skip
    all_goals
      obtain ⟨ps, k1, k2, k3⟩ := gds_ok ih _ h
      exact ⟨_, by simp only [py, k1]; rfl, by simpa [PyData.canLay0] using k2, by simp [PyData.depth]; omega⟩
theorem gd_shaped {n : Nat} {d : D} (h : gd n d = true) (hn : n ≤ 64) : ∃ p, py d = some p ∧ SeqAt.shaped p = true ∧ p.canLay0 = true := by
  obtain ⟨p, h1, h2, h3⟩ := gd_ok n d h
  exact ⟨p, h1, Bool.and_eq_true_iff.mpr ⟨h2, decide_eq_true (by omega)⟩, h2⟩
theorem eqD_self {n : Nat} {d : D} (h : gd n d = true) (hn : n ≤ 64) : eqD d d = some true := by
  obtain ⟨p, h1, h2, h3⟩ := gd_shaped h hn
  unfold eqD
  rw [h1]
  dsimp only
  rw [if_pos ⟨h2, h2⟩, SeqAt.eqv_refl p h3]
theorem dEq_self {n : Nat} {d : D} (h : gd n d = true) (hn : n ≤ 64 := by decide) : dEq d d = some (.bl true) := by unfold dEq; rw [eqD_self h hn]; rfl
theorem dNe_self {n : Nat} {d : D} (h : gd n d = true) (hn : n ≤ 64 := by decide) : dNe d d = some (.bl false) := by unfold dNe; rw [eqD_self h hn]; rfl
/-- a row: its name, shape, mass, rail, place, speed -/
def row6 (x : Str) (sh m rl : D) (px py vx vy : Rat) : D := .tup [.str x, sh, m, rl, S2 px py, S2 vx vy]
mutual
theorem alike_refl : ∀ d : PyData, d.canLay0 = true → PySem.W.alike d d = true
  | .none, _ => rfl
  | .bool _, _ => rfl
  | .int _, _ => rfl
  | .str _, _ => rfl
  | .list xs, h => by rw [PySem.W.alike]; exact alikeAll_refl xs h
  | .tuple xs, h => by rw [PySem.W.alike]; exact alikeAll_refl xs h
  | .dict _, h => nomatch h
theorem alikeAll_refl : ∀ xs : List PyData, PyData.canLayAll0 xs = true → PySem.W.alikeAll xs xs = true
  | [], _ => rfl
  | x :: xs, h => by
    have h' : x.canLay0 = true ∧ PyData.canLayAll0 xs = true := by simpa [PyData.canLayAll0] using h
    rw [PySem.W.alikeAll, alike_refl x h'.1, alikeAll_refl xs h'.2]; rfl
end
theorem cmpAll_refl : ∀ xs : List PyData, PyData.canLayAll0 xs = true → PySem.W.cmpAll xs xs = true
  | [], _ => rfl
  | x :: xs, h => by
    have h' : x.canLay0 = true ∧ PyData.canLayAll0 xs = true := by simpa [PyData.canLayAll0] using h
    rw [PySem.W.cmpAll, alike_refl x h'.1, SeqAt.eqv_refl x h'.1, if_pos rfl, cmpAll_refl xs h'.2]; rfl
/-- named data: a tuple whose first part is a text -/
def Nmd (d : D) (x : Str) : Prop := ∃ r, d = .tup (.str x :: r)
theorem nmd_cons {d : D} {x : Str} {p : PyData} (h : Nmd d x) (e : py d = some p) : ∃ r, p = .tuple (.str x :: r) := by
  obtain ⟨r, rfl⟩ := h
  simp only [py, pys] at e
  cases h2 : pys r with
  | none => rw [h2] at e; cases e
  | some q => rw [h2] at e; cases e; exact ⟨q, rfl⟩
theorem pys_mem : ∀ {ds : List D} {ps : List PyData}, pys ds = some ps → ∀ p ∈ ps, ∃ d ∈ ds, py d = some p
  | [], _, e, p, hp => by cases e; cases hp
  | d :: ds, ps, e, p, hp => by
    simp only [pys] at e
    cases h1 : py d with
    | none => rw [h1] at e; cases e
    | some q =>
      cases h2 : pys ds with
      | none => rw [h1, h2] at e; cases e
      | some qs =>
        rw [h1, h2] at e; cases e
        rcases List.mem_cons.mp hp with rfl | hp
        · exact ⟨d, List.mem_cons_self, h1⟩
        · obtain ⟨d', m, e'⟩ := pys_mem h2 p hp
          exact ⟨d', List.mem_cons_of_mem _ m, e'⟩
theorem sortV_perm {α : Type} {xs : List α} {ps : List PyData} (h : ps.length = xs.length) : (sortV xs ps).Perm xs := by
  unfold sortV
  have := (List.mergeSort_perm (xs.zip ps) (PySem.W.dataLe false fun b : α × PyData => b.2)).map (·.1)
  rw [show (xs.zip ps).map (·.1) = xs from zip_fst h] at this
  exact this
/-- rows with unlike names can be sorted; what comes of it is a new order -/
theorem sort_rows {ds : List D} (hg : ∀ d ∈ ds, gd 8 d = true ∧ ∃ x, Nmd d x) (hn : ∀ d ∈ ds, ∀ d' ∈ ds, ∀ x, Nmd d x → Nmd d' x → d = d') : ∃ zs, fSortD [.lst ds] = some zs ∧ zs.Perm ds := by
  obtain ⟨ps, e, _, _⟩ := gds_ok (fun d => gd_ok 8 d) ds (List.all_eq_true.mpr fun d hd => (hg d hd).1)
  have c : SrtC ps := by
    refine ⟨.inr ⟨fun p hp => ?_, fun xs ys hx hy => ?_⟩, fun p hp => ?_⟩
    · obtain ⟨d, m, e1⟩ := pys_mem e p hp
      obtain ⟨q, h1, h2, _⟩ := gd_ok 8 d (hg d m).1
      rw [e1] at h1; cases h1
      obtain ⟨x, hx⟩ := (hg d m).2
      obtain ⟨r, er⟩ := nmd_cons hx e1
      exact ⟨h2, _, r, er⟩
    · obtain ⟨d, m, e1⟩ := pys_mem e _ hx
      obtain ⟨d', m', e2⟩ := pys_mem e _ hy
      obtain ⟨x, n1⟩ := (hg d m).2
      obtain ⟨y, n2⟩ := (hg d' m').2
      obtain ⟨r, er⟩ := nmd_cons n1 e1
      obtain ⟨r', er'⟩ := nmd_cons n2 e2
      cases er; cases er'
      by_cases h : x = y
      · subst h
        have := hn d m d' m' x n1 n2
        subst this
        rw [e1] at e2
        cases e2
        obtain ⟨q, h1, h2, _⟩ := gd_ok 8 d (hg d m).1
        rw [e1] at h1; cases h1
        exact cmpAll_refl _ h2
      · simp [PySem.W.cmpAll, PySem.W.alike, PyData.eqv, h]
    · obtain ⟨d, m, e1⟩ := pys_mem e p hp
      obtain ⟨q, h1, _, h3⟩ := gd_ok 8 d (hg d m).1
      rw [e1] at h1; cases h1
      omega
  refine ⟨sortV ds ps, ?_, sortV_perm (pys_len e).symm⟩
  show (pys ds).bind _ = _
  rw [e, Option.bind_some, if_pos c]
/-! rows of the law's own: their names, their order -/
theorem nmdI {d : D} {x y : Str} (h1 : Nmd d x) (h2 : Nmd d y) : x = y := by
  obtain ⟨r, rfl⟩ := h1
  obtain ⟨r', e⟩ := h2
  cases e; rfl
theorem mapP {α β : Type} {f : α → β} {xs : List α} {ys : List β} (h : ys.Perm (xs.map f)) : ∃ zs : List α, zs.Perm xs ∧ ys = zs.map f := by
  generalize e : xs.map f = l at h
  induction h generalizing xs with
  | nil =>
    obtain rfl := List.map_eq_nil_iff.mp e
    exact ⟨[], .refl _, rfl⟩
  | @cons y l1 l2 p ih =>
    cases xs with
    | nil => cases e
    | cons x xs =>
      rw [List.map_cons] at e
      injection e with e1 e2
      obtain ⟨zs, p', rfl⟩ := ih e2
      exact ⟨x :: zs, p'.cons x, by rw [List.map_cons, e1]⟩
  | @swap y z l =>
    match xs, e with
    | x1 :: x2 :: xs, e =>
      simp only [List.map_cons, List.cons.injEq] at e
      obtain ⟨rfl, rfl, rfl⟩ := e
      exact ⟨x2 :: x1 :: xs, .swap .., rfl⟩
  | trans p1 p2 ih1 ih2 =>
    obtain ⟨zs, p, rfl⟩ := ih2 e
    obtain ⟨zs', p', e'⟩ := ih1 rfl
    exact ⟨zs', p'.trans p, e'⟩
theorem uniX {α β : Type} {f : α → β} : ∀ {bs : List α}, (bs.map f).Nodup → ∀ b ∈ bs, ∀ c ∈ bs, f b = f c → b = c
  | [], _, b, hb, _, _, _ => by cases hb
  | d :: bs, nd, b, hb, c, hc, e => by
    rw [List.map_cons, List.nodup_cons] at nd
    rcases List.mem_cons.mp hb with h1 | h1
    · rcases List.mem_cons.mp hc with h2 | h2
      · rw [h1, h2]
      · exact absurd (List.mem_map.mpr ⟨c, h2, by rw [← e, h1]⟩) nd.1
    · rcases List.mem_cons.mp hc with h2 | h2
      · exact absurd (List.mem_map.mpr ⟨b, h1, by rw [e, h2]⟩) nd.1
      · exact uniX nd.2 b h1 c h2 e
theorem gd_pts {qs : List (Int × Int)} : gd 7 (.tup (qs.map pt)) = true := by
  show (qs.map pt).all (gd 6) = true
  rw [List.all_eq_true]
  intro d m
  obtain ⟨q, _, rfl⟩ := List.mem_map.mp m
  rfl
theorem eq_nil {ds : List D} (h : ∀ d ∈ ds, gd 8 d = true) : eqD (.lst ds) (.lst []) = some (decide (ds = [])) := by
  obtain ⟨p, e1, e2, _⟩ := gd_shaped (n := 9) (d := .lst ds) (List.all_eq_true.mpr h) (by decide)
  have e0 : py (.lst []) = some (.list []) := rfl
  unfold eqD
  rw [e1, e0]
  dsimp only
  rw [if_pos ⟨e2, rfl⟩]
  cases ds with
  | nil => cases e1; rfl
  | cons d ds =>
    simp only [py] at e1
    cases q : pys (d :: ds) with
    | none => rw [q] at e1; cases e1
    | some ps =>
      rw [q] at e1
      cases e1
      cases ps with
      | nil =>
        have := pys_len q
        simp at this
      | cons p ps => simp [PyData.eqv, PyData.eqvAll]
theorem B15.nmd (b : B15) : Nmd b.row b.x := ⟨_, rfl⟩
@[simp] theorem B15.ix2 {b : B15} : dIx b.row (.int 2) = some (.int b.m) := rfl
@[simp] theorem B15.ix3 {b : B15} : dIx b.row (.int 3) = some b.rl := rfl
theorem SOk.gd8 {n : Nat} {b : B15} (o : SOk n b) : gd 8 b.row = true := by
  have a3 : ∀ a b, gd 7 (S2 a b) = true := fun a b => rfl
  have a4 : gd 7 (.str b.x) = true := o.ok.hx.ok
  have a5 : gd 7 b.rl = true := by
    rcases o.rl with e | ⟨w, e, _⟩ <;> rw [e] <;> rfl
  show (gd 7 (.str b.x) && (gd 7 (.tup (b.qs.map pt)) && (gd 7 (.int b.m) && (gd 7 b.rl && (gd 7 (S2 b.px b.py) && (gd 7 (S2 b.vx b.vy) && true)))))) = true
  rw [a4, a5, gd_pts, a3, a3]
  rfl
theorem sortE {bs : List B15} (hg : ∀ b ∈ bs, gd 8 b.row = true) (nd : (bs.map (·.x)).Nodup) : ∃ cs : List B15, fSortD [.lst (bs.map B15.row)] = some (cs.map B15.row) ∧ cs.Perm bs := by
  obtain ⟨zs, e, pm⟩ := sort_rows (ds := bs.map B15.row) (fun d m => by
    obtain ⟨b, mb, rfl⟩ := List.mem_map.mp m
    exact ⟨hg b mb, b.x, b.nmd⟩) (fun d m d' m' x n1 n2 => by
    obtain ⟨b, mb, rfl⟩ := List.mem_map.mp m
    obtain ⟨c, mc, rfl⟩ := List.mem_map.mp m'
    rw [uniX nd b mb c mc ((nmdI b.nmd n1).trans (nmdI n2 c.nmd))])
  obtain ⟨cs, pc, rfl⟩ := mapP pm
  exact ⟨cs, e, pc⟩
/-- what a scene is -/
structure Scn (N : Nat) (bs : List B15) : Prop where
  ok : ∀ b ∈ bs, SOk N b
  nd : (bs.map (·.x)).Nodup
  no : ∀ b ∈ bs, ∀ c ∈ bs, b.x ≠ c.x → OverAt b c 0 → b.m = 0 ∧ c.m = 0
theorem over_turn {b c : B15} {t : Rat} (C1 : Cvx b.qs) (C2 : Cvx c.qs) (h : OverAt b c t) : OverAt c b t := fun w hw => by
  have hw' : ngp w ∈ pwy b.qs c.qs := by
    rw [pwy_mem] at hw ⊢
    rcases hw with h | h
    · exact .inr (by rw [ngp_ngp]; exact h)
    · exact .inl h
  have := h _ hw'
  unfold gapQ rateQ at *
  rw [ngp_ngp] at this
  have e1 : (ngp w).1 = -w.1 := rfl
  have e2 : (ngp w).2 = -w.2 := rfl
  rw [e1, e2] at this
  simp only [Rat.intCast_neg, Rat.intCast_add] at *
  grind
theorem sceneE_wp {ns : List Int} {a : Addr} {n : Nat} {t : Dk} {m : Int} {Q : D → Dk → Prop} {X : Str → Fds → Dk → Prop} (g : Gd ns a n t) (hc : n < 1000) (m1 : 1 ≤ m) (m5 : m ≤ 5) (h : ∀ (bs : List B15) (t' : Dk), Scn 100 bs → 1 ≤ bs.length → bs.length ≤ m.toNat + 1 → (bs.length < 2 → ∀ b ∈ bs, b.x.length ≠ 5) → Gd ns a (n + 1000) t' → Q (.tup (bs.map B15.row)) t') :
    oE (m__law_scene [.at a, .int m] t) Q X := by
  unfold m__law_scene b__law_scene
  simp
  unfold Nxt
  simp
  refine take_wp g (by omega) (many_of (by omega) (by omega)) fun k t1 k0 k1 g1 => ?_
  simp
  have hlen : (rngD 0 (1 + k).toNat).length = (1 + k).toNat := by simp [rngD]
  refine ⟨by omega, ?_⟩
  obtain ⟨I, hI⟩ : ∃ I : List D → Rho → Dk → Prop, I = fun ds ρ t => ∃ (i : Nat) (bs : List B15) (s3 s4 s5 s6 : Slot), i + ds.length = (1 + k).toNat ∧ ρ = [.val (.at a), .val (.int m), .own (bs.map B15.row), s3, s4, s5, s6] ∧ Scn (4 + 18 * i) bs ∧ bs.length ≤ i ∧ (0 < i → 1 ≤ bs.length) ∧ (∀ b ∈ bs, b.x.length ≠ 5) ∧ Slot.nown s6 = true ∧ Slot.nown s4 = true ∧ Gd ns a (n + 10 + 150 * i) t := ⟨_, rfl⟩
  refine oS_loop I _ _ _ (by rw [hI]; exact ⟨0, [], _, _, _, _, by simp [hlen], rfl, ⟨fun b hb => (nomatch hb), List.nodup_nil, fun b hb => (nomatch hb)⟩, by simp, by simp, fun b hb => (nomatch hb), rfl, rfl, g1.le (by omega)⟩) ?_ ?_
  · intro d ds ρ t h2
    rw [hI] at h2
    obtain ⟨i, bs, s3, s4, s5, s6, hil, rfl, sc, bl, b1, bx, s6n, s4n, g2⟩ := h2
    rw [List.length_cons] at hil
    have hi5 : i < 5 := by omega
    have fin : ∀ (c : B15) (t : Dk) (s5 : Slot), SOk (4 + 18 * (i + 1)) c → c.x.length ≠ 5 → Gd ns a (n + 10 + 150 * (i + 1)) t → ∀ P : Pt Dk, P.nx = I ds → Nxt (sIf (e1 asB (e2 dEq (eLst (eComp (eOwnIt 2) [6] (gN 6) (tOr2 (e1 asB (e2 dEq (e2 dIx (eVarW 6) (eC (.int 0))) (e2 dIx (eVarW 4) (eC (.int 0))))) (e1 truth (eCall m__law_over [] (aCons (eVar 6) (aCons (eVar 4) (aCons (eTup (aCons (eC (.int 0)) (aCons (eC (.int 1)) aNil))) aNil)))))) (eVar 6))) (eLst (e1 lim aNil)))) (sApp 2 (eVar 4)) sSkip) [.val (.at a), .val (.int m), .own (bs.map B15.row), .val d, .val c.row, s5, s6] t P := by
      intro c t s5 oc cx g3 P hP
      have wk : ∀ b ∈ bs, SOk (4 + 18 * (i + 1)) b := fun b hb => (sc.ok b hb).le (by omega)
      have z0 : D.tup [.int 0, .int 1] = R 0 := rfl
      classical
      unfold Nxt
      simp [s6n]
      refine ⟨by omega, ?_⟩
      refine comp_filt (enc := B15.row) (f := B15.row) (p := fun b => decide (b.x = c.x) || decide (OverAt b c 0)) (fun b hb => ⟨_, rfl, ?_, fun _ => ?_⟩) ?_
      · have ov := overE_ok (wk b hb).ok oc.ok (Sz.zero0 (n := 1) (by decide)) (by omega)
        simp [wipeR, z0, ov, dEq, eqD_str (wk b hb).ok.hx.ok oc.ok.hx.ok]
        by_cases e : b.x = c.x <;> by_cases o : OverAt b c 0 <;> simp [e, o]
      · simp [wipeR]
      · have en := eq_nil (ds := (bs.filter fun b => decide (b.x = c.x) || decide (OverAt b c 0)).map B15.row) (fun d hd => by
          obtain ⟨b, hb, rfl⟩ := List.mem_map.mp hd
          exact (wk b (List.mem_filter.mp hb |>.1)).gd8)
        simp [dEq, en]
        by_cases hx : ∃ x, x ∈ bs ∧ (¬x.x = c.x → OverAt x c 0)
        · left
          refine ⟨hx, ?_⟩
          obtain ⟨x, hxm, _⟩ := hx
          rw [hP, hI]
          exact ⟨i + 1, bs, _, _, _, _, by omega, rfl, ⟨wk, sc.nd, sc.no⟩, by omega, fun _ => List.length_pos_of_mem hxm, bx, s6n, rfl, g3⟩
        · right
          have hno : ∀ x ∈ bs, ¬x.x = c.x ∧ ¬OverAt x c 0 := fun x hxm => by
            constructor
            · exact fun e => hx ⟨x, hxm, fun z => absurd e z⟩
            · exact fun e => hx ⟨x, hxm, fun _ => e⟩
          refine ⟨hno, by omega, ?_⟩
          rw [hP, hI]
          refine ⟨i + 1, bs ++ [c], _, _, _, _, by omega, by rw [List.map_append]; rfl, ⟨fun b hb => ?_, ?_, ?_⟩, by simp; omega, fun _ => by simp, fun b hb => ?_, s6n, rfl, g3⟩
          · rcases List.mem_append.mp hb with hb | hb
            · exact wk b hb
            · rw [List.mem_singleton.mp hb]; exact oc
          · rw [List.map_append, List.nodup_append]
            refine ⟨sc.nd, by simp, fun y hy z hz => ?_⟩
            obtain ⟨b, hb, rfl⟩ := List.mem_map.mp hy
            simp at hz
            subst hz
            exact (hno b hb).1
          · intro b hb e he hbe ho
            rcases List.mem_append.mp hb with hb | hb <;> rcases List.mem_append.mp he with he | he
            · exact sc.no b hb e he hbe ho
            · rw [List.mem_singleton.mp he] at ho
              exact absurd ho (hno b hb).2
            · rw [List.mem_singleton.mp hb] at ho
              exact absurd (over_turn oc.ok.cv (wk e he).ok.cv ho) (hno e he).2
            · rw [List.mem_singleton.mp hb, List.mem_singleton.mp he] at hbe
              exact absurd rfl hbe
          · rcases List.mem_append.mp hb with hb | hb
            · exact bx b hb
            · rw [List.mem_singleton.mp hb]; exact cx
    refine ⟨_, rfl, ?_⟩
    simp
    refine shapeE_wp g2 (by omega) fun qs t1 cv sm hl g3 => ?_
    refine size_wp (k := 4) g3 (by omega) (by decide) (by decide) (by decide) (by decide) fun px t2 spx g4 => ?_
    refine size_wp (k := 4) g4 (by omega) (by decide) (by decide) (by decide) (by decide) fun py t3 spy g5 => ?_
    refine rowE_wp g5 (by omega) cv sm hl spx spy fun c t4 oc eqs cx g6 => ?_
    have en := eq_nil (ds := bs.map B15.row) (fun d hd => by
      obtain ⟨b, hb, rfl⟩ := List.mem_map.mp hd
      exact (sc.ok b hb).gd8)
    unfold Nxt
    simp [dNe, en]
    by_cases hb0 : bs = []
    · refine ⟨.bl false, .inr ⟨hb0, rfl⟩, .inl ⟨rfl, ?_⟩⟩
      exact fin c t4 _ (oc.le (by omega)) cx (g6.le (by omega)) _ rfl
    · have bl1 : 0 < bs.length := List.length_pos_iff.mpr hb0
      refine ⟨.bl true, .inl ⟨hb0, rfl⟩, .inr ⟨rfl, ?_⟩⟩
      refine take_wp g6 (by omega) (many_of (by omega) (by omega)) fun j t5 j0 j1 g7 => ?_
      obtain ⟨b, hb, eb⟩ : ∃ b ∈ bs, dIx (.lst (bs.map B15.row)) (.int j) = some b.row := by
        obtain ⟨j, rfl⟩ : ∃ q : Nat, j = (q : Int) := ⟨j.toNat, by omega⟩
        have hj : j < bs.length := by omega
        exact ⟨bs[j], List.getElem_mem hj, atI_nat (by rw [List.getElem?_map, List.getElem?_eq_getElem hj]; rfl)⟩
      refine ⟨_, eb, ?_⟩
      refine besideE_wp g7 (by omega) (sc.ok b hb) oc (by omega) (by omega) fun px' py' t6 oc' g8 => ?_
      exact fin { c with px := px', py := py' } t6 _ (oc'.le (by omega)) cx (g8.le (by omega)) _ rfl
  · intro ρ t h2
    rw [hI] at h2
    obtain ⟨i, bs, s3, s4, s5, s6, hil, rfl, sc, bl, b1, bx, s6n, s4n, g2⟩ := h2
    simp at hil
    have s100 : Scn 100 bs := ⟨fun b hb => (sc.ok b hb).le (by omega), sc.nd, sc.no⟩
    have fin : ∀ (cs : List B15) (t : Dk) (s3 s4 s5 s6 : Slot), Scn 100 cs → 1 ≤ cs.length → cs.length ≤ m.toNat + 1 → (cs.length < 2 → ∀ b ∈ cs, b.x.length ≠ 5) → Gd ns a (n + 1000) t → Nxt (sFrz 2 (sRet (e1 fTup (aCons (eLst (e1 fSortD (aCons (eVarW 2) aNil))) aNil)))) [.val (.at a), .val (.int m), .own (cs.map B15.row), s3, s4, s5, s6] t { nx := fun _ t => Q .non t, rt := Q, ex := fun n fs _ t => X n fs t } := by
      intro cs t s3 s4 s5 s6 sc l1 l2 l3 g
      obtain ⟨zs, ez, pz⟩ := sortE (bs := cs) (fun b hb => (sc.ok b hb).gd8) sc.nd
      unfold Nxt
      simp [ez, fTup]
      have pl := pz.length_eq
      exact h zs t ⟨fun b hb => sc.ok b (pz.mem_iff.mp hb), (pz.map _).nodup_iff.mpr sc.nd, fun b hb c hc => sc.no b (pz.mem_iff.mp hb) c (pz.mem_iff.mp hc)⟩ (by omega) (by omega) (fun z b hb => l3 (by omega) b (pz.mem_iff.mp hb)) g
    unfold Nxt
    simp [s4n]
    refine ⟨by omega, ?_⟩
    refine comp_filt (enc := B15.row) (f := B15.row) (p := fun b => decide (b.m = 0)) (fun b hb => ⟨_, rfl, ?_, fun _ => ?_⟩) ?_
    · simp [wipeR]
      by_cases e : b.m = 0 <;> simp [e]
    · simp [wipeR]
    · obtain ⟨ss, hss⟩ : ∃ ss, ss = bs.filter (fun b => decide (b.m = 0)) := ⟨_, rfl⟩
      rw [← hss]
      have sl : ss.length ≤ bs.length := by rw [hss]; exact List.length_filter_le _ _
      unfold Nxt
      simp
      cases hc0 : ss with
      | nil =>
        left
        exact ⟨rfl, fin bs t _ _ _ _ s100 (b1 (by omega)) (by omega) (fun _ => bx) (g2.le (by omega))⟩
      | cons w ws =>
        right
        refine ⟨by simp, take_wp g2 (by omega) (many_of (by decide) (by decide)) fun j t2 j0 j1 g3 => ?_⟩
        simp
        by_cases hj : j = 0
        · right
          have hw : w ∈ bs ∧ w.m = 0 := by
            have : w ∈ bs.filter (fun b => decide (b.m = 0)) := by rw [← hss, hc0]; exact List.mem_cons_self
            rw [List.mem_filter] at this
            exact ⟨this.1, of_decide_eq_true this.2⟩
          have ow := s100.ok w hw.1
          have na : Nm 30 (Str.ofString "again") := ⟨by decide, by decide⟩
          have al : (Str.ofString "again").length = 5 := by decide
          have ea : ∀ b ∈ bs, b.x ≠ Str.ofString "again" := fun b hb e => bx b hb (by rw [e]; exact al)
          have ov : ∀ b : B15, OverAt { w with x := Str.ofString "again" } b 0 ↔ OverAt w b 0 := fun b => Iff.rfl
          have ov2 : ∀ b : B15, OverAt b { w with x := Str.ofString "again" } 0 ↔ OverAt b w 0 := fun b => Iff.rfl
          refine ⟨hj, _, rfl, _, rfl, by omega, ?_⟩
          have sn : Scn 100 (bs ++ [{ w with x := Str.ofString "again" }]) := by
            refine ⟨fun b hb => ?_, ?_, ?_⟩
            · rcases List.mem_append.mp hb with hb | hb
              · exact s100.ok b hb
              · rw [List.mem_singleton.mp hb]
                exact ⟨⟨na, ow.ok.cv, ow.ok.hp, ow.ok.hl, ow.ok.s1, ow.ok.s2, ow.ok.s3, ow.ok.s4⟩, ow.sm, ow.ms, ow.rl, ow.wall⟩
            · rw [List.map_append, List.nodup_append]
              refine ⟨s100.nd, by simp, fun y hy z hz => ?_⟩
              obtain ⟨b, hb, rfl⟩ := List.mem_map.mp hy
              simp at hz
              subst hz
              exact ea b hb
            · have key : ∀ b ∈ bs, OverAt b w 0 → b.m = 0 := fun b hb ho => by
                by_cases e : b.x = w.x
                · rw [uniX s100.nd b hb w hw.1 e]; exact hw.2
                · exact (s100.no b hb w hw.1 e ho).1
              intro b hb e he hbe ho
              rcases List.mem_append.mp hb with hb | hb <;> rcases List.mem_append.mp he with he | he
              · exact s100.no b hb e he hbe ho
              · rw [List.mem_singleton.mp he] at ho ⊢
                exact ⟨key b hb ((ov2 b).mp ho), hw.2⟩
              · rw [List.mem_singleton.mp hb] at ho ⊢
                exact ⟨hw.2, key e he (over_turn ow.ok.cv (s100.ok e he).ok.cv ((ov e).mp ho))⟩
              · rw [List.mem_singleton.mp hb, List.mem_singleton.mp he] at hbe
                exact absurd rfl hbe
          have := fin (bs ++ [{ w with x := Str.ofString "again" }]) t2 s3 s4 (.val (.lst ((w :: ws).map B15.row))) s6 sn (by simp) (by simp; omega) (fun z => by have := List.length_pos_of_mem hw.1; simp at z; omega) (g3.le (by omega))
          rw [List.map_append] at this
          exact this
        · left
          exact ⟨hj, fin bs t2 _ _ _ _ s100 (b1 (by omega)) (by omega) (fun _ => bx) (g3.le (by omega))⟩
-- opts: kinds=_law_drawn_shape|sorted([(_law_signed(_law_deck, _law_span), _law_signed(_law_deck, _law_span)) for _law_turn in range(3 + _law_take(_law_deck, 6))])|d;_law_pair_ways|sorted(_law_found + [_law_way for _law_way in _law_turned if _law_way not in _law_found])|d;_law_over|max(_law_rooms(_law_one, _law_other, _law_after))|d;_law_beside|max([(_law_way[0] * _law_c[0] + _law_way[1] * _law_c[1], _law_c) for _law_c in _law_one[1]])|d;_law_beside|min([(_law_way[0] * _law_c[0] + _law_way[1] * _law_c[1], _law_sign * _law_c[0], _law_sign * _law_c[1], _law_c) for _law_c in _law_row[1]])|d;_law_scene|sorted(_law_rows)|d;law|sorted([('again', ((0, 0), (1, 0), (0, 1)), 2, None) + (_law_rows[0][4], _law_rows[0][4])] + list(_law_rows))|d;law|_law_touches[:1] * 2|l ## cut=a ## badraise=NoBody
structure WOk (b : B15) : Prop where
  ok : b.Ok 100 100
  gd8 : gd 8 b.row = true
  rl : b.rl = .non ∨ ∃ w : Int × Int, b.rl = pt w ∧ w.1.natAbs < 2 ^ 3 ∧ w.2.natAbs < 2 ^ 3
  wall : b.m = 0 → b.rl = .non
theorem SOk.w {b : B15} (o : SOk 100 b) : WOk b := ⟨o.ok.le (by decide) (by decide), o.gd8, o.rl.imp id fun ⟨w, h1, h2, h3, _⟩ => ⟨w, h1, h2, h3⟩, fun z => (o.wall z).1⟩
theorem find_ok {bs : List B15} (ok : ∀ b ∈ bs, WOk b) (nd : (bs.map (·.x)).Nodup) {b : B15} (hb : b ∈ bs) : m_find_row [.tup (bs.map B15.row), .str b.x] () = .ok b.row () := by
  apply oE_eq
  unfold m_find_row b_find_row
  simp
  obtain ⟨I, hI⟩ : ∃ I : List B15 → List B15 → Rho → Unit → Prop, I = fun dn td ρ t => ∃ s2, ρ = [.val (.tup (bs.map B15.row)), .val (.str b.x), s2] ∧ b ∉ dn := ⟨_, rfl⟩
  refine oS_loopE I bs (by rw [hI]; exact ⟨_, rfl, by simp⟩) ?_ ?_
  · intro dn c td ρ t eq hh
    rw [hI] at hh
    obtain ⟨s2, rfl, hn⟩ := hh
    have hc : c ∈ bs := by rw [eq]; simp
    refine ⟨_, rfl, ?_⟩
    simp [dEq, eqD_str (ok c hc).ok.hx.ok (ok b hb).ok.hx.ok]
    by_cases e : c.x = b.x
    · have := uniX nd c hc b hb e
      subst this
      simp
    · simp [e]
      rw [hI]
      refine ⟨_, rfl, ?_⟩
      intro z
      rcases List.mem_append.mp z with z | z
      · exact hn z
      · rw [List.mem_singleton.mp z] at e; exact e rfl
  · intro ρ t hh
    rw [hI] at hh
    obtain ⟨s2, rfl, hn⟩ := hh
    exact absurd hb hn
/-- the bodies of a contact, its way -/
structure Tch (bs : List B15) (τ : Str × Str × (Int × Int)) (b c : B15) : Prop where
  hb : b ∈ bs
  hc : c ∈ bs
  xb : b.x = τ.1
  xc : c.x = τ.2.1
  wz : Wsz 140 τ.2.2
def tchD (τ : Str × Str × (Int × Int)) : D := .tup [.str τ.1, .str τ.2.1, pt τ.2.2]
theorem parting_ok {bs : List B15} {τ : Str × Str × (Int × Int)} {b c : B15} (ok : ∀ b ∈ bs, WOk b) (nd : (bs.map (·.x)).Nodup) (h : Tch bs τ b c) : m_parting [.tup (bs.map B15.row), tchD τ] () = .ok (R (rateQ b c τ.2.2)) () := by
  have f1 := find_ok ok nd h.hb
  have f2 := find_ok ok nd h.hc
  rw [h.xb] at f1
  rw [h.xc] at f2
  have ob := (ok b h.hb).ok
  have oc := (ok c h.hc).ok
  have e1 := spot_minus_R oc.s3 oc.s4 ob.s3 ob.s4 (by decide)
  have e2 := along_R h.wz.1 h.wz.2 (oc.s3.sub ob.s3) (oc.s4.sub ob.s4) (by decide)
  rw [show Wy τ.2.2.1 τ.2.2.2 = pt τ.2.2 from rfl] at e2
  apply oE_eq
  unfold m_parting b_parting tchD
  simp
  unfold Nxt
  simp [f1, f2, e1, e2]
  rfl
theorem pick_ok {bs : List B15} (ok : ∀ b ∈ bs, WOk b) (nd : (bs.map (·.x)).Nodup) {b : B15} (hb : b ∈ bs) : bs.filter (fun c => decide (c.x = b.x)) = [b] := by
  induction bs with
  | nil => cases hb
  | cons c bs ih =>
    rw [List.map_cons, List.nodup_cons] at nd
    rcases List.mem_cons.mp hb with rfl | hb
    · rw [List.filter_cons_of_pos (by simp)]
      congr 1
      rw [List.filter_eq_nil_iff]
      intro c hc z
      exact nd.1 (List.mem_map.mpr ⟨c, hc, of_decide_eq_true z⟩)
    · rw [List.filter_cons_of_neg (by
        simp
        exact fun z => nd.1 (List.mem_map.mpr ⟨b, hb, z.symm⟩))]
      exact ih (fun b h => ok b (List.mem_cons_of_mem _ h)) nd.2 hb
theorem fast_ok {bs : List B15} {τ : Str × Str × (Int × Int)} {b c : B15} (ok : ∀ b ∈ bs, WOk b) (bl : bs.length ≤ 1000) (nd : (bs.map (·.x)).Nodup) (h : Tch bs τ b c) : m__law_fast [.tup (bs.map B15.row), tchD τ] () = .ok (R (rateQ b c τ.2.2)) () := by
  have ob := ok b h.hb
  have oc := ok c h.hc
  have t0 : dIx (tchD τ) (.int 0) = some (.str b.x) := by rw [h.xb]; rfl
  have t1 : dIx (tchD τ) (.int 1) = some (.str c.x) := by rw [h.xc]; rfl
  have t2 : dIx (tchD τ) (.int 2) = some (pt τ.2.2) := rfl
  have sp := speed_ok ob.ok oc.ok h.wz (by decide) (by decide)
  apply oE_eq
  unfold m__law_fast b__law_fast
  simp
  refine ⟨by omega, ?_⟩
  refine comp_filt (enc := B15.row) (f := B15.row) (p := fun e => decide (e.x = b.x)) (fun e he => ⟨_, rfl, ?_, fun _ => ?_⟩) ?_
  · simp [wipeR, dEq, t0, eqD_str (ok e he).ok.hx.ok ob.ok.hx.ok]
    by_cases q : e.x = b.x <;> simp [q]
  · simp [wipeR]
  · rw [pick_ok ok nd h.hb]
    simp
    unfold Nxt
    simp
    refine ⟨by omega, ?_⟩
    refine comp_filt (enc := B15.row) (f := B15.row) (p := fun e => decide (e.x = c.x)) (fun e he => ⟨_, rfl, ?_, fun _ => ?_⟩) ?_
    · simp [wipeR, dEq, t1, eqD_str (ok e he).ok.hx.ok oc.ok.hx.ok]
      by_cases q : e.x = c.x <;> simp [q]
    · simp [wipeR]
    · rw [pick_ok ok nd h.hc]
      simp
      unfold Nxt
      simp [t2, sp]
/-- contacts of rows: what is reckoned of each -/
structure Rt (bs : List B15) (ts : List (Str × Str × (Int × Int))) (rt : Str × Str × (Int × Int) → Rat) : Prop where
  pa : ∀ τ ∈ ts, m_parting [.tup (bs.map B15.row), tchD τ] () = .ok (R (rt τ)) ()
  fa : ∀ τ ∈ ts, m__law_fast [.tup (bs.map B15.row), tchD τ] () = .ok (R (rt τ)) ()
  sz : ∀ τ ∈ ts, Sd 700 500 (rt τ)
  gd : ∀ τ ∈ ts, gd 8 (tchD τ) = true
theorem rt_of {bs : List B15} {ts : List (Str × Str × (Int × Int))} (ok : ∀ b ∈ bs, WOk b) (bl : bs.length ≤ 1000) (nd : (bs.map (·.x)).Nodup) (h : ∀ τ ∈ ts, ∃ b c, Tch bs τ b c) : ∃ rt, Rt bs ts rt := by
  classical
  obtain ⟨rt, hrt⟩ : ∃ rt : Str × Str × (Int × Int) → Rat, ∀ τ ∈ ts, ∃ b c, Tch bs τ b c ∧ rt τ = rateQ b c τ.2.2 := by
    refine ⟨fun τ => if h : ∃ r, ∃ b c, Tch bs τ b c ∧ r = rateQ b c τ.2.2 then Classical.choose h else 0, fun τ hτ => ?_⟩
    obtain ⟨b, c, hT⟩ := h τ hτ
    have hx : ∃ r, ∃ b c, Tch bs τ b c ∧ r = rateQ b c τ.2.2 := ⟨_, b, c, hT, rfl⟩
    dsimp only
    rw [dif_pos hx]
    exact Classical.choose_spec hx
  refine ⟨rt, fun τ hτ => ?_, fun τ hτ => ?_, fun τ hτ => ?_, fun τ hτ => ?_⟩ <;> obtain ⟨b, c, hT, e⟩ := hrt τ hτ
  · rw [e]; exact parting_ok ok nd hT
  · rw [e]; exact fast_ok ok bl nd hT
  · rw [e]
    have ob := (ok b hT.hb).ok
    have oc := (ok c hT.hc).ok
    exact Sd.along hT.wz.1 hT.wz.2 (oc.s3.sub ob.s3).sd (oc.s4.sub ob.s4).sd (by decide) (by decide) (by decide)
  · have a1 : gd 7 (.str τ.1) = true := by rw [← hT.xb]; exact (ok b hT.hb).ok.hx.ok
    have a2 : gd 7 (.str τ.2.1) = true := by rw [← hT.xc]; exact (ok c hT.hc).ok.hx.ok
    show (MM.gd 7 (.str τ.1) && (MM.gd 7 (.str τ.2.1) && (MM.gd 7 (pt τ.2.2) && true))) = true
    rw [a1, a2]
    rfl
theorem is_size_ok (r : Rat) : m__law_is_size [R r] () = .ok (.bl true) () := by
  have g : Int.gcd r.num r.den = 1 := r.reduced
  have d := r.den_pos
  have e0 : atI [D.int r.num, .int r.den] 0 = some (.int r.num) := rfl
  have e1 : atI [D.int r.num, .int r.den] 1 = some (.int r.den) := rfl
  have w : ∀ k : Int, m__law_whole [.int k] () = .ok (.bl true) () := fun k => by
    apply oE_eq
    unfold m__law_whole b__law_whole
    have i1 : isi (.int k) "int" = some true := rfl
    have i2 : isi (.int k) "bool" = some false := rfl
    simp [fIsi, i1, i2]
  have tw : m__law_two [R r] () = .ok (.bl true) () := by
    apply oE_eq
    unfold m__law_two b__law_two
    unfold R
    have i1 : isi (.tup [D.int r.num, .int r.den]) "tuple" = some true := rfl
    simp [fIsi, i1, w]
    unfold Nxt
    simp [gcdE_ok, g]
  apply oE_eq
  unfold m__law_is_size b__law_is_size
  simp [tw]
  omega
theorem blsD_map {α : Type} (f : α → Bool) : ∀ l : List α, blsD (l.map fun x => .bl (f x)) = some (l.map f)
  | [] => rfl
  | x :: l => by
    show (blsD (l.map fun x => D.bl (f x))).map _ = _
    rw [blsD_map f l]; rfl
theorem closing_ok {bs : List B15} {ts : List (Str × Str × (Int × Int))} {rt} (h : Rt bs ts rt) (tl : ts.length ≤ 1000) : m_closing [.tup (bs.map B15.row), .tup (ts.map tchD)] () = .ok (.bl (ts.any fun τ => decide (rt τ < 0))) () := by
  apply oE_eq
  unfold m_closing b_closing
  simp
  refine ⟨by omega, comp_map (f := fun τ => .bl (decide (rt τ < 0))) (fun τ hτ => ⟨_, rfl, ?_⟩) ?_⟩
  · have z0 : D.tup [.int 0, .int 1] = R 0 := rfl
    have o := order_S (h.sz τ hτ) (Sd.zero) (by decide)
    simp [wipeR, h.pa τ hτ, z0, o, cmpR_neg]
  · rw [blsD_map]
    simp [List.any_map]
theorem closes_ok {bs : List B15} {ts : List (Str × Str × (Int × Int))} {rt} (h : Rt bs ts rt) (tl : ts.length ≤ 1000) : m__law_closes [.tup (bs.map B15.row), .lst (ts.map tchD)] () = .ok (.bl (ts.any fun τ => decide (rt τ < 0))) () := by
  apply oE_eq
  unfold m__law_closes b__law_closes
  simp
  refine ⟨by omega, comp_filt (enc := tchD) (f := tchD) (p := fun τ => decide (rt τ < 0)) (fun τ hτ => ⟨_, rfl, ?_, fun _ => ?_⟩) ?_⟩
  · simp [wipeR, h.fa τ hτ, num_neg']
  · simp [wipeR]
  · have en := eq_nil (ds := (ts.filter fun τ => decide (rt τ < 0)).map tchD) (fun d hd => by
      obtain ⟨b, hb, rfl⟩ := List.mem_map.mp hd
      exact h.gd b (List.mem_filter.mp hb).1)
    simp [dNe, en]
    cases hx : ts.any fun τ => decide (rt τ < 0) with
    | false =>
      rw [List.any_eq_false] at hx
      rw [show ts.filter (fun τ => decide (rt τ < 0)) = [] from List.filter_eq_nil_iff.mpr hx]
      rfl
    | true =>
      rw [List.any_eq_true] at hx
      obtain ⟨τ, hτ, h1⟩ := hx
      have hm : τ ∈ ts.filter (fun τ => decide (rt τ < 0)) := List.mem_filter.mpr ⟨hτ, h1⟩
      have : ts.filter (fun τ => decide (rt τ < 0)) ≠ [] := fun z => by rw [z] at hm; cases hm
      simp only [List.map_eq_nil_iff, this, decide_false, Bool.not_true]
theorem right_ok {bs : List B15} {ts : List (Str × Str × (Int × Int))} {rt} (h : Rt bs ts rt) (tl : ts.length ≤ 1000) : m__law_right [.tup (bs.map B15.row), .lst (ts.map tchD)] () = .ok (.bl true) () := by
  have c1 := closing_ok h tl
  have c2 := closes_ok h tl
  apply oE_eq
  unfold m__law_right b__law_right
  simp
  obtain ⟨I, hI⟩ : ∃ I : List (Str × Str × (Int × Int)) → List (Str × Str × (Int × Int)) → Rho → Unit → Prop, I = fun dn td ρ t => ∃ s2 s3, ρ = [.val (.tup (bs.map B15.row)), .val (.lst (ts.map tchD)), s2, s3] := ⟨_, rfl⟩
  refine oS_loopE I ts (by rw [hI]; exact ⟨_, _, rfl⟩) ?_ ?_
  · intro dn τ td ρ t eq hh
    rw [hI] at hh
    obtain ⟨s2, s3, rfl⟩ := hh
    have hτ : τ ∈ ts := by rw [eq]; simp
    have gR : gd 8 (R (rt τ)) = true := rfl
    refine ⟨_, rfl, ?_⟩
    simp [h.pa τ hτ]
    unfold Nxt
    simp [is_size_ok, h.fa τ hτ, dNe_self gR]
    rw [hI]
    exact ⟨_, _, rfl⟩
  · intro ρ t hh
    rw [hI] at hh
    obtain ⟨s2, s3, rfl⟩ := hh
    generalize (ts.any fun τ => decide (rt τ < 0)) = x at c1 c2
    unfold Nxt
    cases x with
    | true => simp [c1, c2, fTup]
    | false =>
      simp [c2, fTup]
      unfold Nxt
      simp [c1, fTup]
theorem anyE_wp {ns : List Int} {a : Addr} {n : Nat} {t : Dk} {bs : List B15} {Q : D → Dk → Prop} {X : Str → Fds → Dk → Prop} (g : Gd ns a n t) (hc : n < 100000) (l2 : 2 ≤ bs.length) (l3 : bs.length ≤ 1000) (h : ∀ (τ : Str × Str × (Int × Int)) (t' : Dk), (∃ b c, Tch bs τ b c) → Gd ns a (n + 10) t' → Q (tchD τ) t') :
    oE (m__law_any [.at a, .tup (bs.map B15.row)] t) Q X := by
  unfold m__law_any b__law_any
  simp
  refine take_wp g (by omega) (many_of (by omega) (by omega)) fun k t1 k0 k1 g1 => ?_
  unfold Nxt
  simp
  refine take_wp g1 (by omega) (many_of (by omega) (by omega)) fun j t2 j0 j1 g2 => ?_
  have at_ : ∀ j : Int, 0 ≤ j → j < bs.length → ∃ b ∈ bs, atI (bs.map B15.row) j = some b.row := fun j h0 h1 => by
    obtain ⟨j, rfl⟩ : ∃ q : Nat, j = (q : Int) := ⟨j.toNat, by omega⟩
    have hj : j < bs.length := by omega
    exact ⟨bs[j], List.getElem_mem hj, atI_nat (by rw [List.getElem?_map, List.getElem?_eq_getElem hj]; rfl)⟩
  obtain ⟨b, hb, eb⟩ := at_ k (by omega) (by omega)
  obtain ⟨c, hc', ec⟩ := at_ (k + 1 + j) (by omega) (by omega)
  simp [ec]
  unfold Nxt
  simp
  refine ⟨by decide, take_wp g2 (by omega) (many_of (by decide) (by decide)) fun f t3 f0 f1 g3 => ?_⟩
  obtain ⟨fa, ef, f2⟩ : ∃ fa : Int, atI [D.int 1, .int 1000000000000000000000000000000000000000] (if f = 0 then 1 else 0) = some (.int fa) ∧ fa.natAbs < 2 ^ 131 := by
    by_cases q : f = 0
    · rw [if_pos q]; exact ⟨_, rfl, by decide⟩
    · rw [if_neg q]; exact ⟨_, rfl, by decide⟩
  simp [ef]
  unfold Nxt
  simp
  refine signed_wp g3 (by omega) (by decide) (by decide) fun p1 t4 p10 p11 g4 => ?_
  have m1 : mulOk p1 fa = true := mulOk_sz (n := 5) (by omega) f2 (by decide)
  simp [m1]
  refine signed_wp g4 (by omega) (by decide) (by decide) fun p2 t5 p20 p21 g5 => ?_
  simp
  unfold Nxt
  simp
  refine signed_wp g5 (by omega) (by decide) (by decide) fun q1 t6 q10 q11 g6 => ?_
  have m2 : mulOk q1 fa = true := mulOk_sz (n := 5) (by omega) f2 (by decide)
  simp [m2]
  refine signed_wp g6 (by omega) (by decide) (by decide) fun q2 t7 q20 q21 g7 => ?_
  have sp : (p1 * fa + p2).natAbs < 2 ^ 137 := sz_add (sz_mulN (n := 5) (by omega) f2 (by decide)) (Nat.lt_of_lt_of_le (show p2.natAbs < 2 ^ 5 by omega) (by decide))
  have sq : (q1 * fa + q2).natAbs < 2 ^ 137 := sz_add (sz_mulN (n := 5) (by omega) f2 (by decide)) (Nat.lt_of_lt_of_le (show q2.natAbs < 2 ^ 5 by omega) (by decide))
  unfold Nxt
  simp [gcdE_ok]
  generalize p1 * fa + p2 = p at *
  generalize q1 * fa + q2 = q at *
  have t1' : ∀ w : Int × Int, Wsz 140 w → Q (.tup [.str b.x, .str c.x, pt w]) t7 := fun w hw => h (b.x, c.x, w) t7 ⟨b, c, hb, hc', rfl, rfl, hw⟩ (g7.le (by omega))
  unfold Nxt
  by_cases hz : p = 0 ∧ q = 0
  · obtain ⟨rfl, rfl⟩ := hz
    simp
    refine ⟨by decide, ?_⟩
    unfold Nxt
    simp [eb]
    exact t1' (0, -1) ⟨by decide, by decide⟩
  · have h0 : p ≠ 0 ∨ q ≠ 0 := by omega
    have gs := gcd_small (n := 137) h0 sp sq
    have mx : max 1 (Int.gcd p q : Int) = (Int.gcd p q : Int) := by omega
    have o1 : ∀ x, divOk x (Int.gcd p q : Int) = true := fun x => small_div gs.1 gs.2 (by decide) (by decide)
    rw [mx]
    simp [gs.1, o1]
    have sz := nw_sz (n := 137) h0 sp sq
    have fin := t1' (nw p q) (Wsz.le sz (by decide))
    by_cases e : p = 0
    · right
      refine ⟨e, pt (nw p q), ?_, ?_⟩
      · rw [if_neg fun z => hz ⟨e, z⟩]
        rfl
      · unfold Nxt
        simp [eb]
        exact fin
    · left
      refine ⟨e, ?_⟩
      unfold Nxt
      simp [eb]
      exact fin
theorem anew_wp {ns : List Int} {a : Addr} {n : Nat} {t : Dk} {bs : List B15} {Q : D → Dk → Prop} {X : Str → Fds → Dk → Prop} (g : Gd ns a n t) (hc : n < 100000) (l3 : bs.length ≤ 10) (ok : ∀ b ∈ bs, WOk b) (h : ∀ (cs : List B15) (t' : Dk), cs.map (·.x) = bs.map (·.x) → (∀ b ∈ cs, WOk b) → Gd ns a (n + 100) t' → Q (.tup (cs.map B15.row)) t') :
    oE (m__law_anew [.at a, .tup (bs.map B15.row)] t) Q X := by
  unfold m__law_anew b__law_anew
  simp
  unfold Nxt
  simp
  obtain ⟨I, hI⟩ : ∃ I : List B15 → List B15 → Rho → Dk → Prop, I = fun dn td ρ t => ∃ (cs : List B15) (s3 s4 : Slot), ρ = [.val (.at a), .val (.tup (bs.map B15.row)), .own (cs.map B15.row), s3, s4] ∧ cs.map (·.x) = dn.map (·.x) ∧ (∀ b ∈ cs, WOk b) ∧ Gd ns a (n + 8 * dn.length) t := ⟨_, rfl⟩
  refine oS_loopE I bs (by rw [hI]; exact ⟨[], _, _, rfl, rfl, fun b hb => (nomatch hb), g⟩) ?_ ?_
  · intro dn b td ρ t eq hh
    rw [hI] at hh
    obtain ⟨cs, s3, s4, rfl, ec, oc, g1⟩ := hh
    have hb : b ∈ bs := by rw [eq]; simp
    have ob := ok b hb
    have ll := congrArg List.length eq
    rw [List.length_append, List.length_cons] at ll
    have cl : cs.length = dn.length := by have := congrArg List.length ec; simpa using this
    refine ⟨_, rfl, ?_⟩
    simp
    refine size_wp (k := 3) g1 (by omega) (by decide) (by decide) (by decide) (by decide) fun vx t1 svx g2 => ?_
    refine size_wp (k := 3) g2 (by omega) (by decide) (by decide) (by decide) (by decide) fun vy t2 svy g3 => ?_
    have cut : dCutA b.row none (some 5) = some (.tup [.str b.x, .tup (b.qs.map pt), .int b.m, b.rl, S2 b.px b.py]) := rfl
    have fin : ∀ (vx vy : Rat) (s4 : Slot), Sz 100 vx → Sz 100 vy → I (dn ++ [b]) td [.val (.at a), .val (.tup (bs.map B15.row)), .own (cs.map B15.row ++ [({ b with vx := vx, vy := vy } : B15).row]), .val b.row, s4] t2 := fun vx vy s4 h1 h2 => by
      rw [hI]
      refine ⟨cs ++ [{ b with vx := vx, vy := vy }], _, _, by rw [List.map_append]; rfl, by rw [List.map_append, List.map_append, ec]; rfl, fun e he => ?_, g3.le (by rw [List.length_append, List.length_singleton]; omega)⟩
      rcases List.mem_append.mp he with he | he
      · exact oc e he
      · rw [List.mem_singleton.mp he]
        exact ⟨⟨ob.ok.hx, ob.ok.cv, ob.ok.hp, ob.ok.hl, ob.ok.s1, ob.ok.s2, h1, h2⟩, ob.gd8, ob.rl, ob.wall⟩
    have cl3 : cs.length < 16777216 := by omega
    have i1 : dIsnt .non .non = some (.bl false) := by simp [dIsnt]; rfl
    have i2 : ∀ w : Int × Int, dIsnt (pt w) .non = some (.bl true) := fun w => by simp [dIsnt, pt]; rfl
    have S2e : ∀ x y : Rat, D.tup [R x, R y] = S2 x y := fun _ _ => rfl
    unfold Nxt
    simp
    by_cases hm : b.m = 0
    · right
      refine ⟨hm, ?_⟩
      unfold Nxt
      simp [ob.wall hm]
      unfold Nxt
      simp [cut, ob.wall hm, cl3, i1]
      have := fin b.vx b.vy (.val (S2 b.vx b.vy)) ob.ok.s3 ob.ok.s4
      rw [show D.tup [.str b.x, .tup (b.qs.map pt), .int b.m, .non, S2 b.px b.py, S2 b.vx b.vy] = b.row by rw [← ob.wall hm]; rfl]
      exact this
    · left
      refine ⟨hm, ?_⟩
      rcases ob.rl with e | ⟨w, e, w1, w2⟩
      · unfold Nxt
        simp [e]
        unfold Nxt
        simp [cut, e, cl3, i1]
        have := fin vx vy (.val (S2 vx vy)) (svx.le (by decide)) (svy.le (by decide))
        rw [show ({ b with vx := vx, vy := vy } : B15).row = .tup [.str b.x, .tup (b.qs.map pt), .int b.m, .non, S2 b.px b.py, S2 vx vy] by rw [← e]; rfl] at this
        exact this
      · have a1 : Sz 3 (w.1 : Rat) := Sz.int w1 (by decide)
        have a2 : Sz 3 (w.2 : Rat) := Sz.int w2 (by decide)
        have e1 := stimesE a1 a2 svx (by decide)
        unfold Nxt
        simp [e, i2, spotof_ok, e1]
        unfold Nxt
        simp [cut, e, cl3]
        have := fin (w.1 * vx) (w.2 * vx) (.val (S2 (w.1 * vx) (w.2 * vx))) ((a1.mulE svx).le (by decide)) ((a2.mulE svx).le (by decide))
        rw [show ({ b with vx := w.1 * vx, vy := w.2 * vx } : B15).row = .tup [.str b.x, .tup (b.qs.map pt), .int b.m, pt w, S2 b.px b.py, S2 (w.1 * vx) (w.2 * vx)] by rw [← e]; rfl] at this
        exact this
  · intro ρ t hh
    rw [hI] at hh
    obtain ⟨cs, s3, s4, rfl, ec, oc, g1⟩ := hh
    unfold Nxt
    simp [fTup]
    exact h cs t ec oc (g1.le (by omega))
theorem law_good (ns : List Int) (hl : ns.length ≤ 63) (hb : ∀ z ∈ ns, Builtin.Int.intBits z ≤ 1048576) : lawIs 8 m__law_new_deck b_law ns := by
  obtain ⟨big, eb⟩ := deck_ok ns hl
  refine ⟨_, big, eb, fun a b => ?_⟩
  have key : oS (b_law ((Slot.val (.scr ns) :: List.replicate (8 - 1) .no).set 1 (.val (.at a))) ⟨a, b, .scr ns, big, 0, 0⟩) { nx := fun _ _ => False, rt := fun d _ => d = .bl true } := by
    unfold b_law
    simp
    have g0 : Gd ns a 0 ⟨a, b, .scr ns, big, 0, 0⟩ := ⟨rfl, rfl, Nat.le_refl _⟩
    refine sceneE_wp g0 (by decide) (by decide) (by decide) fun bs t1 sc l1 l2 l5 g1 => ?_
    replace g1 : Gd ns a 1000 t1 := g1.le (by omega)
    have l2' : bs.length ≤ 5 := l2
    have tail : ∀ (cs : List B15) (t : Dk), (∀ b ∈ cs, WOk b) → (cs.map (·.x)).Nodup → 2 ≤ cs.length → cs.length ≤ 10 → Gd ns a 2000 t → Nxt (sSeq (sAsg (gN 3) (eLst (eComp (e1 fRng1 (aCons (e2 dAdd (eC (.int 1)) (eCallS m__law_take [] (aCons (eVar 1) (aCons (eC (.int 6)) aNil)))) aNil)) [6] (gN 6) (fun _ t => .ok true t) (eCallS m__law_any [] (aCons (eVar 1) (aCons (eVar 2) aNil))))))
  (sSeq (sAsg (gN 4) (eLst (eComp (e1 itD (eVar 3)) [7] (gN 7) (e1 asB (e2 dGe (e2 dIx (eCall m__law_fast [] (aCons (eVar 2) (aCons (eVar 7) aNil))) (eC (.int 0))) (eC (.int 0)))) (eVar 7))))
  (sSeq (sIf (tOr2 (e1 asB (e2 dIsntB (eCall m_closing [] (aCons (eVar 2) (aCons (eTup aNil) aNil))) (eC (.bl false)))) (tOr2 (tNot1 (e1 truth (eCall m__law_right [] (aCons (eVar 2) (aCons (eVar 3) aNil))))) (tNot1 (e1 truth (eCall m__law_right [] (aCons (eVar 2) (aCons (eLst (e2 fRep (e3 dCutA (eVarW 3) oNone (oSome (eC (.int 1)))) (eC (.int 2)))) aNil))))))) (sRet (eC (.bl false))) sSkip)
  (sSeq (sAsg (gN 5) (eCallS m__law_anew [] (aCons (eVar 1) (aCons (eVar 2) aNil))))
  (sRet (eAnd2 (eCall m__law_right [] (aCons (eVar 5) (aCons (eVar 3) aNil))) (eAnd2 (eCall m__law_right [] (aCons (eVar 2) (aCons (eVar 4) aNil))) (eCall m__law_right [] (aCons (eVar 2) (aCons (eVar 3) aNil)))))))))) [.val (.scr ns), .val (.at a), .val (.tup (cs.map B15.row)), .no, .no, .no, .no, .no] t { nx := fun _ _ => False, rt := fun d _ => d = .bl true } := by
      intro cs t ok nd c2 c10 g
      unfold Nxt
      simp
      refine take_wp g (by omega) (many_of (by decide) (by decide)) fun k t2 k0 k1 g2 => ?_
      simp
      have hlen : (rngD 0 (1 + k).toNat).length = (1 + k).toNat := by simp [rngD]
      refine ⟨by omega, by rw [hlen]; omega, comp_wp (p := fun _ y => ∃ τ, y = tchD τ ∧ ∃ b c, Tch cs τ b c) (k := 10) (B := 3000) _ (fun d hd k t1 g1 hm => ⟨_, rfl, ?_⟩) _ t2 g2 (by rw [hlen]; omega) fun ys t' hys g' => ?_⟩
      · simp [wipeR]
        exact anyE_wp g1 (by omega) c2 (by omega) fun τ t' hτ g2 => ⟨⟨τ.1, τ.2.1, τ.2.2.1, τ.2.2.2, rfl, hτ⟩, g2⟩
      · obtain ⟨ts, rfl, hts, tl⟩ := pw_of hys
        rw [hlen] at tl g'
        obtain ⟨rt, hrt⟩ := rt_of ok (by omega) nd hts
        have cl0 := closing_ok (ts := []) (rt := rt) ⟨fun _ h => (nomatch h), fun _ h => (nomatch h), fun _ h => (nomatch h), fun _ h => (nomatch h)⟩ (bs := cs) (by decide)
        have r1 := right_ok hrt (by omega)
        unfold Nxt
        simp
        refine ⟨by omega, comp_filt (enc := tchD) (f := tchD) (p := fun τ => !decide (rt τ < 0)) (fun τ hτ => ⟨_, rfl, ?_, fun _ => ?_⟩) ?_⟩
        · simp [wipeR, hrt.fa τ hτ]
          have := num_neg' (q := rt τ)
          by_cases q : rt τ < 0
          · have := this.mpr q
            simp [Rat.not_le.mpr q, this, q]
          · simp [Rat.not_lt.mp q, q]
        · simp [wipeR]
        · obtain ⟨ps, hps⟩ : ∃ ps, ps = ts.filter (fun τ => !decide (rt τ < 0)) := ⟨_, rfl⟩
          rw [← hps]
          have pl : ps.length ≤ ts.length := by rw [hps]; exact List.length_filter_le _ _
          have hrp : Rt cs ps rt := ⟨fun τ h => hrt.pa τ (by rw [hps] at h; exact (List.mem_filter.mp h).1), fun τ h => hrt.fa τ (by rw [hps] at h; exact (List.mem_filter.mp h).1), fun τ h => hrt.sz τ (by rw [hps] at h; exact (List.mem_filter.mp h).1), fun τ h => hrt.gd τ (by rw [hps] at h; exact (List.mem_filter.mp h).1)⟩
          have r2 := right_ok hrp (by omega)
          simp at cl0
          unfold Nxt
          simp [cl0, r1]
          have ct : fRep (.lst (cutD (ts.map tchD) none (some 1))) (.int 2) = some ((ts.take 1 ++ ts.take 1).map tchD) := by
            have e1 : cutD (ts.map tchD) none (some 1) = (ts.take 1).map tchD := by
              cases ts with
              | nil => rfl
              | cons τ ts => simp [cutD, HT.sIx]
            rw [e1]
            show (if (0 : Int) ≤ 2 ∧ (2 : Int) ≤ 1000 ∧ ((ts.take 1).map tchD).length ≤ 1000 then some (List.replicate 2 ((ts.take 1).map tchD)).flatten else none) = _
            rw [if_pos ⟨by decide, by decide, by simp; omega⟩]
            simp [List.replicate]
          have ht2 : ∀ τ ∈ ts.take 1 ++ ts.take 1, τ ∈ ts := fun τ h => by
            rcases List.mem_append.mp h with h | h <;> exact List.mem_of_mem_take h
          have hr2 : Rt cs (ts.take 1 ++ ts.take 1) rt := ⟨fun τ h => hrt.pa τ (ht2 τ h), fun τ h => hrt.fa τ (ht2 τ h), fun τ h => hrt.sz τ (ht2 τ h), fun τ h => hrt.gd τ (ht2 τ h)⟩
          have r3 := right_ok hr2 (by simp; omega)
          refine ⟨_, ct, ?_⟩
          rw [r3]
          simp
          unfold Nxt
          simp
          refine anew_wp g' (by omega) c10 ok fun ds t3 ed od g3 => ?_
          have ndd : (ds.map (·.x)).Nodup := by rw [ed]; exact nd
          have dl : ds.length = cs.length := by have := congrArg List.length ed; simpa using this
          have inn : ∀ b ∈ cs, ∃ e ∈ ds, e.x = b.x := fun b hb => by
            have : b.x ∈ ds.map (·.x) := by rw [ed]; exact List.mem_map.mpr ⟨b, hb, rfl⟩
            obtain ⟨e, he, h⟩ := List.mem_map.mp this
            exact ⟨e, he, h⟩
          have htd : ∀ τ ∈ ts, ∃ b c, Tch ds τ b c := fun τ h => by
            obtain ⟨b, c, hT⟩ := hts τ h
            obtain ⟨b', h1, h2⟩ := inn b hT.hb
            obtain ⟨c', h3, h4⟩ := inn c hT.hc
            exact ⟨b', c', h1, h3, h2.trans hT.xb, h4.trans hT.xc, hT.wz⟩
          obtain ⟨rt2, hrt2⟩ := rt_of od (by omega) ndd htd
          have r4 := right_ok hrt2 (by omega)
          unfold Nxt
          simp [r4, r1, r2]
    unfold Nxt
    simp
    by_cases h2 : bs.length < 2
    · right
      refine ⟨by omega, ?_⟩
      obtain ⟨b0, rfl⟩ : ∃ b0, bs = [b0] := by
        match bs, l1, h2 with
        | [b], _, _ => exact ⟨b, rfl⟩
      have o0 := (sc.ok b0 (by simp)).w
      have x5 := l5 h2 b0 (by simp)
      have na : Nm 30 (Str.ofString "again") := ⟨by decide, by decide⟩
      have al : (Str.ofString "again").length = 5 := by decide
      obtain ⟨n0, hn0⟩ : ∃ n0 : B15, n0 = ⟨Str.ofString "again", [(0, 0), (1, 0), (0, 1)], 2, .non, b0.px, b0.py, b0.px, b0.py⟩ := ⟨_, rfl⟩
      have on : WOk n0 := by
        rw [hn0]
        refine ⟨⟨na, ?_, ?_, show 3 ≤ 16 by decide, o0.ok.s1, o0.ok.s2, o0.ok.s1, o0.ok.s2⟩, (by
          have h : gd 7 (.str (Str.ofString "again")) = true := na.ok
          show (gd 7 (.str (Str.ofString "again")) && (gd 7 (.tup ([((0 : Int), (0 : Int)), (1, 0), (0, 1)].map pt)) && (gd 7 (.int 2) && (gd 7 .non && (gd 7 (S2 b0.px b0.py) && (gd 7 (S2 b0.px b0.py) && true)))))) = true
          rw [h]; rfl), .inl rfl, fun _ => rfl⟩
        · exact cvx_of (U := [(0, 0)]) (V := [(1, 0), (0, 1)]) (f := (0, 0)) (z := (1, 0)) rfl rfl (.c1 (.inl (by decide))) (.c2 (.inl (by decide)) (by decide) (.c1 (.inr ⟨rfl, by decide⟩))) (by decide)
        · intro q hq
          simp only [List.mem_cons, List.not_mem_nil, or_false] at hq
          rcases hq with rfl | rfl | rfl <;> exact ⟨by decide, by decide⟩
      have nx : n0.x ≠ b0.x := fun e => x5 (by rw [← e, hn0]; exact al)
      have ok2 : ∀ b ∈ [n0, b0], WOk b := fun b hb => by
        simp only [List.mem_cons, List.not_mem_nil, or_false] at hb
        rcases hb with rfl | rfl
        · exact on
        · exact o0
      obtain ⟨zs, ez, pz⟩ := sortE (bs := [n0, b0]) (fun b hb => (ok2 b hb).gd8) (by simp [nx])
      have er : D.tup [D.str (Str.ofString "again"), D.tup [D.tup [D.int 0, D.int 0], D.tup [D.int 1, D.int 0], D.tup [D.int 0, D.int 1]], D.int 2, D.non, S2 b0.px b0.py, S2 b0.px b0.py] = n0.row := by rw [hn0]; rfl
      have pl := pz.length_eq
      refine ⟨b0.row, rfl, S2 b0.px b0.py, rfl, b0.row, rfl, S2 b0.px b0.py, rfl, by simp, zs.map B15.row, ?_, ?_⟩
      · rw [er]
        exact ez
      · exact tail zs t1 (fun b hb => ok2 b (pz.mem_iff.mp hb)) ((pz.map _).nodup_iff.mpr (by simp [nx])) (by rw [pl]; exact Nat.le_refl 2) (by rw [pl]; exact show 2 ≤ 10 by decide) (g1.le (by omega))
    · left
      exact ⟨by omega, tail bs t1 (fun b hb => (sc.ok b hb).w) sc.nd (by omega) (by omega) (g1.le (by omega))⟩
  obtain ⟨d, t, e, rfl⟩ := oS_rtEx key
  exact ⟨t, e⟩

end MM

noncomputable section
namespace MM
open PySem PySem.Spec PyProof.Rows L2
def top (i : Nat) : Stmt := PySem.Challenge.pw_restbodies_k46_partings.main.body.getD i (.Pass ⟨0, 0, 0, 0⟩)
def mth (i j : Nat) : Stmt := (clsBody (top i)).getD j (.Pass ⟨0, 0, 0, 0⟩)
structure Fx (K : Fg) (mg : Str → Option Value) : Prop where
  z_abs : mg "abs" = none
  f_divisor : ∃ fd, FunD K "divisor" "divisor" (defArgs (top 6)) (defBody (top 6)) (defScope (top 6)) [] [] (He.ga K "divisor") fd
  g_divisor : mg "divisor" = some (.ref (He.ga K "divisor"))
  x_NoShare : ExcF K mg "NoShare"
  f_share : ∃ fd, FunD K "share" "share" (defArgs (top 7)) (defBody (top 7)) (defScope (top 7)) [.int 1] [] (He.ga K "share") fd
  g_share : mg "share" = some (.ref (He.ga K "share"))
  f_minus : ∃ fd, FunD K "minus" "minus" (defArgs (top 8)) (defBody (top 8)) (defScope (top 8)) [] [] (He.ga K "minus") fd
  g_minus : mg "minus" = some (.ref (He.ga K "minus"))
  f_order : ∃ fd, FunD K "order" "order" (defArgs (top 9)) (defBody (top 9)) (defScope (top 9)) [] [] (He.ga K "order") fd
  g_order : mg "order" = some (.ref (He.ga K "order"))
  f_along : ∃ fd, FunD K "along" "along" (defArgs (top 11)) (defBody (top 11)) (defScope (top 11)) [] [] (He.ga K "along") fd
  g_along : mg "along" = some (.ref (He.ga K "along"))
  z_zip : mg "zip" = none
  z_tuple : mg "tuple" = none
  f_spot_minus : ∃ fd, FunD K "spot_minus" "spot_minus" (defArgs (top 12)) (defBody (top 12)) (defScope (top 12)) [] [] (He.ga K "spot_minus") fd
  g_spot_minus : mg "spot_minus" = some (.ref (He.ga K "spot_minus"))
  f_find_row : ∃ fd, FunD K "find_row" "find_row" (defArgs (top 14)) (defBody (top 14)) (defScope (top 14)) [] [] (He.ga K "find_row") fd
  g_find_row : mg "find_row" = some (.ref (He.ga K "find_row"))
  f_parting : ∃ fd, FunD K "parting" "parting" (defArgs (top 16)) (defBody (top 16)) (defScope (top 16)) [] [] (He.ga K "parting") fd
  g_parting : mg "parting" = some (.ref (He.ga K "parting"))
  c_NOUGHT : Glc K mg "NOUGHT" (.tup [(.int 0), (.int 1)])
  z_any : mg "any" = none
  f_closing : ∃ fd, FunD K "closing" "closing" (defArgs (top 17)) (defBody (top 17)) (defScope (top 17)) [] [] (He.ga K "closing") fd
  g_closing : mg "closing" = some (.ref (He.ga K "closing"))
  z_len : mg "len" = none
  f__law_cell_at : ∃ fd, FunD K "_law_cell_at" "_law_cell_at" (defArgs (top 19)) (defBody (top 19)) (defScope (top 19)) [] [] (He.ga K "_law_cell_at") fd
  g__law_cell_at : mg "_law_cell_at" = some (.ref (He.ga K "_law_cell_at"))
  f__law_mixed : ∃ fd, FunD K "_law_mixed" "_law_mixed" (defArgs (top 20)) (defBody (top 20)) (defScope (top 20)) [] [] (He.ga K "_law_mixed") fd
  g__law_mixed : mg "_law_mixed" = some (.ref (He.ga K "_law_mixed"))
  f__law_new_deck : ∃ fd, FunD K "_law_new_deck" "_law_new_deck" (defArgs (top 21)) (defBody (top 21)) (defScope (top 21)) [] [] (He.ga K "_law_new_deck") fd
  g__law_new_deck : mg "_law_new_deck" = some (.ref (He.ga K "_law_new_deck"))
  f__law_take : ∃ fd, FunD K "_law_take" "_law_take" (defArgs (top 22)) (defBody (top 22)) (defScope (top 22)) [] [] (He.ga K "_law_take") fd
  g__law_take : mg "_law_take" = some (.ref (He.ga K "_law_take"))
  f__law_gcd : ∃ fd, FunD K "_law_gcd" "_law_gcd" (defArgs (top 23)) (defBody (top 23)) (defScope (top 23)) [] [] (He.ga K "_law_gcd") fd
  g__law_gcd : mg "_law_gcd" = some (.ref (He.ga K "_law_gcd"))
  f__law_lowest : ∃ fd, FunD K "_law_lowest" "_law_lowest" (defArgs (top 24)) (defBody (top 24)) (defScope (top 24)) [] [] (He.ga K "_law_lowest") fd
  g__law_lowest : mg "_law_lowest" = some (.ref (He.ga K "_law_lowest"))
  f__law_plus : ∃ fd, FunD K "_law_plus" "_law_plus" (defArgs (top 25)) (defBody (top 25)) (defScope (top 25)) [] [] (He.ga K "_law_plus") fd
  g__law_plus : mg "_law_plus" = some (.ref (He.ga K "_law_plus"))
  f__law_times : ∃ fd, FunD K "_law_times" "_law_times" (defArgs (top 26)) (defBody (top 26)) (defScope (top 26)) [] [] (He.ga K "_law_times") fd
  g__law_times : mg "_law_times" = some (.ref (He.ga K "_law_times"))
  f__law_spot_plus : ∃ fd, FunD K "_law_spot_plus" "_law_spot_plus" (defArgs (top 27)) (defBody (top 27)) (defScope (top 27)) [] [] (He.ga K "_law_spot_plus") fd
  g__law_spot_plus : mg "_law_spot_plus" = some (.ref (He.ga K "_law_spot_plus"))
  f__law_spot_times : ∃ fd, FunD K "_law_spot_times" "_law_spot_times" (defArgs (top 28)) (defBody (top 28)) (defScope (top 28)) [] [] (He.ga K "_law_spot_times") fd
  g__law_spot_times : mg "_law_spot_times" = some (.ref (He.ga K "_law_spot_times"))
  f__law_spot_less : ∃ fd, FunD K "_law_spot_less" "_law_spot_less" (defArgs (top 29)) (defBody (top 29)) (defScope (top 29)) [] [] (He.ga K "_law_spot_less") fd
  g__law_spot_less : mg "_law_spot_less" = some (.ref (He.ga K "_law_spot_less"))
  f__law_dot : ∃ fd, FunD K "_law_dot" "_law_dot" (defArgs (top 30)) (defBody (top 30)) (defScope (top 30)) [] [] (He.ga K "_law_dot") fd
  g__law_dot : mg "_law_dot" = some (.ref (He.ga K "_law_dot"))
  f__law_spot_of : ∃ fd, FunD K "_law_spot_of" "_law_spot_of" (defArgs (top 31)) (defBody (top 31)) (defScope (top 31)) [] [] (He.ga K "_law_spot_of") fd
  g__law_spot_of : mg "_law_spot_of" = some (.ref (He.ga K "_law_spot_of"))
  f__law_left : ∃ fd, FunD K "_law_left" "_law_left" (defArgs (top 33)) (defBody (top 33)) (defScope (top 33)) [] [] (He.ga K "_law_left") fd
  g__law_left : mg "_law_left" = some (.ref (He.ga K "_law_left"))
  f__law_half : ∃ fd, FunD K "_law_half" "_law_half" (defArgs (top 32)) (defBody (top 32)) (defScope (top 32)) [] [] (He.ga K "_law_half") fd
  g__law_half : mg "_law_half" = some (.ref (He.ga K "_law_half"))
  f__law_signed : ∃ fd, FunD K "_law_signed" "_law_signed" (defArgs (top 34)) (defBody (top 34)) (defScope (top 34)) [] [] (He.ga K "_law_signed") fd
  g__law_signed : mg "_law_signed" = some (.ref (He.ga K "_law_signed"))
  z_range : mg "range" = none
  z_sorted : mg "sorted" = none
  f__law_drawn_shape : ∃ fd, FunD K "_law_drawn_shape" "_law_drawn_shape" (defArgs (top 35)) (defBody (top 35)) (defScope (top 35)) [] [] (He.ga K "_law_drawn_shape") fd
  g__law_drawn_shape : mg "_law_drawn_shape" = some (.ref (He.ga K "_law_drawn_shape"))
  f__law_drawn_size : ∃ fd, FunD K "_law_drawn_size" "_law_drawn_size" (defArgs (top 36)) (defBody (top 36)) (defScope (top 36)) [] [] (He.ga K "_law_drawn_size") fd
  g__law_drawn_size : mg "_law_drawn_size" = some (.ref (He.ga K "_law_drawn_size"))
  f__law_above : ∃ fd, FunD K "_law_above" "_law_above" (defArgs (top 37)) (defBody (top 37)) (defScope (top 37)) [] [] (He.ga K "_law_above") fd
  g__law_above : mg "_law_above" = some (.ref (He.ga K "_law_above"))
  z_enumerate : mg "enumerate" = none
  f__law_side_ways : ∃ fd, FunD K "_law_side_ways" "_law_side_ways" (defArgs (top 38)) (defBody (top 38)) (defScope (top 38)) [] [] (He.ga K "_law_side_ways") fd
  g__law_side_ways : mg "_law_side_ways" = some (.ref (He.ga K "_law_side_ways"))
  f__law_pair_ways : ∃ fd, FunD K "_law_pair_ways" "_law_pair_ways" (defArgs (top 39)) (defBody (top 39)) (defScope (top 39)) [] [] (He.ga K "_law_pair_ways") fd
  g__law_pair_ways : mg "_law_pair_ways" = some (.ref (He.ga K "_law_pair_ways"))
  z_max : mg "max" = none
  f__law_far : ∃ fd, FunD K "_law_far" "_law_far" (defArgs (top 40)) (defBody (top 40)) (defScope (top 40)) [] [] (He.ga K "_law_far") fd
  g__law_far : mg "_law_far" = some (.ref (He.ga K "_law_far"))
  f__law_speed : ∃ fd, FunD K "_law_speed" "_law_speed" (defArgs (top 41)) (defBody (top 41)) (defScope (top 41)) [] [] (He.ga K "_law_speed") fd
  g__law_speed : mg "_law_speed" = some (.ref (He.ga K "_law_speed"))
  f__law_between : ∃ fd, FunD K "_law_between" "_law_between" (defArgs (top 42)) (defBody (top 42)) (defScope (top 42)) [] [] (He.ga K "_law_between") fd
  g__law_between : mg "_law_between" = some (.ref (He.ga K "_law_between"))
  f__law_room_by : ∃ fd, FunD K "_law_room_by" "_law_room_by" (defArgs (top 43)) (defBody (top 43)) (defScope (top 43)) [] [] (He.ga K "_law_room_by") fd
  g__law_room_by : mg "_law_room_by" = some (.ref (He.ga K "_law_room_by"))
  f__law_rooms : ∃ fd, FunD K "_law_rooms" "_law_rooms" (defArgs (top 44)) (defBody (top 44)) (defScope (top 44)) [] [] (He.ga K "_law_rooms") fd
  g__law_rooms : mg "_law_rooms" = some (.ref (He.ga K "_law_rooms"))
  f__law_over : ∃ fd, FunD K "_law_over" "_law_over" (defArgs (top 45)) (defBody (top 45)) (defScope (top 45)) [] [] (He.ga K "_law_over") fd
  g__law_over : mg "_law_over" = some (.ref (He.ga K "_law_over"))
  lim : NoLim K
  z_int : mg "int" = none
  f__law_drawn_name : ∃ fd, FunD K "_law_drawn_name" "_law_drawn_name" (defArgs (top 46)) (defBody (top 46)) (defScope (top 46)) [] [] (He.ga K "_law_drawn_name") fd
  g__law_drawn_name : mg "_law_drawn_name" = some (.ref (He.ga K "_law_drawn_name"))
  f__law_drawn_way : ∃ fd, FunD K "_law_drawn_way" "_law_drawn_way" (defArgs (top 47)) (defBody (top 47)) (defScope (top 47)) [] [] (He.ga K "_law_drawn_way") fd
  g__law_drawn_way : mg "_law_drawn_way" = some (.ref (He.ga K "_law_drawn_way"))
  f__law_drawn_row : ∃ fd, FunD K "_law_drawn_row" "_law_drawn_row" (defArgs (top 48)) (defBody (top 48)) (defScope (top 48)) [] [] (He.ga K "_law_drawn_row") fd
  g__law_drawn_row : mg "_law_drawn_row" = some (.ref (He.ga K "_law_drawn_row"))
  z_min : mg "min" = none
  f__law_beside : ∃ fd, FunD K "_law_beside" "_law_beside" (defArgs (top 49)) (defBody (top 49)) (defScope (top 49)) [] [] (He.ga K "_law_beside") fd
  g__law_beside : mg "_law_beside" = some (.ref (He.ga K "_law_beside"))
  f__law_scene : ∃ fd, FunD K "_law_scene" "_law_scene" (defArgs (top 50)) (defBody (top 50)) (defScope (top 50)) [] [] (He.ga K "_law_scene") fd
  g__law_scene : mg "_law_scene" = some (.ref (He.ga K "_law_scene"))
  z_isinstance : mg "isinstance" = none
  z_bool : mg "bool" = none
  f__law_whole : ∃ fd, FunD K "_law_whole" "_law_whole" (defArgs (top 51)) (defBody (top 51)) (defScope (top 51)) [] [] (He.ga K "_law_whole") fd
  g__law_whole : mg "_law_whole" = some (.ref (He.ga K "_law_whole"))
  f__law_two : ∃ fd, FunD K "_law_two" "_law_two" (defArgs (top 52)) (defBody (top 52)) (defScope (top 52)) [] [] (He.ga K "_law_two") fd
  g__law_two : mg "_law_two" = some (.ref (He.ga K "_law_two"))
  f__law_is_size : ∃ fd, FunD K "_law_is_size" "_law_is_size" (defArgs (top 53)) (defBody (top 53)) (defScope (top 53)) [] [] (He.ga K "_law_is_size") fd
  g__law_is_size : mg "_law_is_size" = some (.ref (He.ga K "_law_is_size"))
  f__law_fast : ∃ fd, FunD K "_law_fast" "_law_fast" (defArgs (top 54)) (defBody (top 54)) (defScope (top 54)) [] [] (He.ga K "_law_fast") fd
  g__law_fast : mg "_law_fast" = some (.ref (He.ga K "_law_fast"))
  f__law_closes : ∃ fd, FunD K "_law_closes" "_law_closes" (defArgs (top 55)) (defBody (top 55)) (defScope (top 55)) [] [] (He.ga K "_law_closes") fd
  g__law_closes : mg "_law_closes" = some (.ref (He.ga K "_law_closes"))
  f__law_anew : ∃ fd, FunD K "_law_anew" "_law_anew" (defArgs (top 56)) (defBody (top 56)) (defScope (top 56)) [] [] (He.ga K "_law_anew") fd
  g__law_anew : mg "_law_anew" = some (.ref (He.ga K "_law_anew"))
  f__law_any : ∃ fd, FunD K "_law_any" "_law_any" (defArgs (top 57)) (defBody (top 57)) (defScope (top 57)) [] [] (He.ga K "_law_any") fd
  g__law_any : mg "_law_any" = some (.ref (He.ga K "_law_any"))
  f__law_right : ∃ fd, FunD K "_law_right" "_law_right" (defArgs (top 58)) (defBody (top 58)) (defScope (top 58)) [] [] (He.ga K "_law_right") fd
  g__law_right : mg "_law_right" = some (.ref (He.ga K "_law_right"))
  z_list : mg "list" = none
  f_law : ∃ fd, FunD K "law" "law" (defArgs (top 59)) (defBody (top 59)) (defScope (top 59)) [] [] (He.ga K "law") fd
  g_law : mg "law" = some (.ref (He.ga K "law"))
section
variable {P : Program} {w : World} {K : Fg} {mg : Str → Option Value} {base : Heap}
abbrev N_divisor : List Str := ["one", "other"]
theorem sc_divisor : FnScope N_divisor ["one", "other"] (defScope (top 6)) := ⟨rfl, rfl, rfl, by decide +kernel, rfl, by decide +kernel, by decide +kernel⟩
theorem w_divisor (T : Fx K mg) (fd : FuncData) (cdv : Value) (A : Around) (outer : List Env) (s : Shared) (H : Hp) (E : XK) (hr : Room 0 (A.deeper (envOfC "divisor" (defScope (top 6)) s.heap.objs.size (He.ga K "divisor") cdv))) :
    PSs (cxOf (L2.CX P w) P w K mg base N_divisor "divisor" (defScope (top 6)) (He.ga K "divisor") cdv A outer s H E) (defBody (top 6)) (tS K (fun cls d _ H => E cls d H) b_divisor) := by
  have tk := tk_cx (P := P) (w := w) (K := K) (mg := mg) (base := base) (N := N_divisor) (qual := "divisor") (scope := defScope (top 6)) (f := He.ga K "divisor") (cd := cdv) (A := A) (outer := outer) (s := s) (H := H) (E := E)
  exact (mss_cons (ms_par (ps_par (i := 0) (j := 1) rfl sc_divisor.nd rfl rfl (by decide) rfl rfl (ma_cons (me_callB call_abs c_abs (by rfl) T.z_abs (by decide +kernel) (maw_cons (me_varW (pv 0)) maw_nil)) (ma_cons (me_callB call_abs c_abs (by rfl) T.z_abs (by decide +kernel) (maw_cons (me_varW (pv 1)) maw_nil)) ma_nil)) (by rfl)))
  (mss_cons (ms_while po_cx (mt_cmp2 op_gt o_gt (me_varW (pv 1)) (weak me_int) (nomark _)) (mss_one (ms_par (ps_par (i := 0) (j := 1) rfl sc_divisor.nd rfl rfl (by decide) rfl rfl (ma_cons (me_var (pv 1)) (ma_cons (me_op2 op_modN o_mod (me_varW (pv 0)) (me_varW (pv 1))) ma_nil)) (by rfl)))))
  (mss_one (ms_ret (me_var (pv 0))))))
theorem d_divisor (T : Fx K mg) : Def P w K mg base 1 "divisor" 2 [] m_divisor := by
  obtain ⟨fd, F⟩ := T.f_divisor
  exact Def.mk' (ps := ["one", "other"]) (N := N_divisor) (k := 0) F T.g_divisor sc_divisor b_divisor ⟨[], [], .nil, F.bindsN (fun _ _ _ _ _ _ us hl => match us, hl with | [_, _], _ => rfl), fun _ _ => .nil⟩ (fun cdv A outer s H E hr => w_divisor T fd cdv A outer s H E hr)
abbrev N_share : List Str := ["top", "bottom", "part"]
theorem sc_share : FnScope N_share ["top", "bottom"] (defScope (top 7)) := ⟨rfl, rfl, rfl, by decide +kernel, rfl, by decide +kernel, by decide +kernel⟩
theorem w_share (T : Fx K mg) (fd : FuncData) (cdv : Value) (A : Around) (outer : List Env) (s : Shared) (H : Hp) (E : XK) (hr : Room 1 (A.deeper (envOfC "share" (defScope (top 7)) s.heap.objs.size (He.ga K "share") cdv))) :
    PSs (cxOf (L2.CX P w) P w K mg base N_share "share" (defScope (top 7)) (He.ga K "share") cdv A outer s H E) (defBody (top 7)) (tS K (fun cls d _ H => E cls d H) b_share) := by
  have tk := tk_cx (P := P) (w := w) (K := K) (mg := mg) (base := base) (N := N_share) (qual := "share") (scope := defScope (top 7)) (f := He.ga K "share") (cd := cdv) (A := A) (outer := outer) (s := s) (H := H) (E := E)
  exact (mss_cons (ms_if (mt_cmp2 (op_eqD hr.units) o_eq (me_varW (pv 1)) (weak me_int) (nomark _)) (mss_one (ms_raise rfl tk (pmk_own PySem.F.excBase_ValueError T.x_NoShare.x T.x_NoShare.g T.x_NoShare.k (raises_own T.x_NoShare.b T.x_NoShare.t) (by rfl)))) mss_nil)
  (mss_cons (ms_set (ps_set (i := 2) sc_share.nd rfl (Or.inl rfl) (me_call ((d_divisor T).mono (by decide)) hr tk (by rfl) (alen_cons (alen_cons alen_nil)) (ma_cons (me_var (pv 0)) (ma_cons (me_var (pv 1)) ma_nil)))))
  (mss_cons (ms_if (mt_cmp2 op_lt o_lt (me_varW (pv 1)) (weak me_int) (nomark _)) (mss_one (ms_set (ps_set (i := 2) sc_share.nd rfl (Or.inl rfl) (me_un un_neg o_neg (me_varW (pv 2)))))) mss_nil)
  (mss_one (ms_ret (me_tup (ma_cons (me_op2 op_fdivB o_div (me_varW (pv 0)) (me_varW (pv 2))) (ma_cons (me_op2 op_fdivB o_div (me_varW (pv 1)) (me_varW (pv 2))) ma_nil))))))))
theorem d_share (T : Fx K mg) : Def P w K mg base 2 "share" 2 [] m_share := by
  obtain ⟨fd, F⟩ := T.f_share
  exact Def.mk' (ps := ["top", "bottom"]) (N := N_share) (k := 1) F T.g_share sc_share b_share (by
    obtain ⟨ds, h1, h2⟩ := F.binds1 (ps := ["top", "bottom"]) 2 1 (by simp) rfl (fun _ _ _ _ _ _ _ us its hu hi => match us, its, hu, hi with | [_, _], [_], _, _ => ⟨_, rfl, rfl⟩)
    exact ⟨ds, _, h1, h2, fun _ _ => .nil⟩) (fun cdv A outer s H E hr => w_share T fd cdv A outer s H E hr)
abbrev N_minus : List Str := ["one", "other"]
theorem sc_minus : FnScope N_minus ["one", "other"] (defScope (top 8)) := ⟨rfl, rfl, rfl, by decide +kernel, rfl, by decide +kernel, by decide +kernel⟩
theorem w_minus (T : Fx K mg) (fd : FuncData) (cdv : Value) (A : Around) (outer : List Env) (s : Shared) (H : Hp) (E : XK) (hr : Room 2 (A.deeper (envOfC "minus" (defScope (top 8)) s.heap.objs.size (He.ga K "minus") cdv))) :
    PSs (cxOf (L2.CX P w) P w K mg base N_minus "minus" (defScope (top 8)) (He.ga K "minus") cdv A outer s H E) (defBody (top 8)) (tS K (fun cls d _ H => E cls d H) b_minus) := by
  have tk := tk_cx (P := P) (w := w) (K := K) (mg := mg) (base := base) (N := N_minus) (qual := "minus") (scope := defScope (top 8)) (f := He.ga K "minus") (cd := cdv) (A := A) (outer := outer) (s := s) (H := H) (E := E)
  exact (mss_one (ms_ret (me_call ((d_share T).mono (by decide)) hr tk (by rfl) (alen_cons (alen_cons alen_nil)) (ma_cons (me_op2 op_sub o_sub (weak (me_op2 op_mulW o_mul (weak (me_ix ix_seq o_ix (me_varW (pv 0)) (weak me_int) (fun _ _ => rfl))) (weak (me_ix ix_seq o_ix (me_varW (pv 1)) (weak me_int) (fun _ _ => rfl))))) (weak (me_op2 op_mulW o_mul (weak (me_ix ix_seq o_ix (me_varW (pv 1)) (weak me_int) (fun _ _ => rfl))) (weak (me_ix ix_seq o_ix (me_varW (pv 0)) (weak me_int) (fun _ _ => rfl)))))) (ma_cons (me_op2 op_mulW o_mul (weak (me_ix ix_seq o_ix (me_varW (pv 0)) (weak me_int) (fun _ _ => rfl))) (weak (me_ix ix_seq o_ix (me_varW (pv 1)) (weak me_int) (fun _ _ => rfl)))) ma_nil)))))
theorem d_minus (T : Fx K mg) : Def P w K mg base 3 "minus" 2 [] m_minus := by
  obtain ⟨fd, F⟩ := T.f_minus
  exact Def.mk' (ps := ["one", "other"]) (N := N_minus) (k := 2) F T.g_minus sc_minus b_minus ⟨[], [], .nil, F.bindsN (fun _ _ _ _ _ _ us hl => match us, hl with | [_, _], _ => rfl), fun _ _ => .nil⟩ (fun cdv A outer s H E hr => w_minus T fd cdv A outer s H E hr)
abbrev N_order : List Str := ["one", "other", "left", "right"]
theorem sc_order : FnScope N_order ["one", "other"] (defScope (top 9)) := ⟨rfl, rfl, rfl, by decide +kernel, rfl, by decide +kernel, by decide +kernel⟩
theorem w_order (T : Fx K mg) (fd : FuncData) (cdv : Value) (A : Around) (outer : List Env) (s : Shared) (H : Hp) (E : XK) (hr : Room 0 (A.deeper (envOfC "order" (defScope (top 9)) s.heap.objs.size (He.ga K "order") cdv))) :
    PSs (cxOf (L2.CX P w) P w K mg base N_order "order" (defScope (top 9)) (He.ga K "order") cdv A outer s H E) (defBody (top 9)) (tS K (fun cls d _ H => E cls d H) b_order) := by
  have tk := tk_cx (P := P) (w := w) (K := K) (mg := mg) (base := base) (N := N_order) (qual := "order") (scope := defScope (top 9)) (f := He.ga K "order") (cd := cdv) (A := A) (outer := outer) (s := s) (H := H) (E := E)
  exact (mss_cons (ms_set (ps_set (i := 2) sc_order.nd rfl (Or.inl rfl) (me_op2 op_mulW o_mul (weak (me_ix ix_seq o_ix (me_varW (pv 0)) (weak me_int) (fun _ _ => rfl))) (weak (me_ix ix_seq o_ix (me_varW (pv 1)) (weak me_int) (fun _ _ => rfl))))))
  (mss_cons (ms_set (ps_set (i := 3) sc_order.nd rfl (Or.inl rfl) (me_op2 op_mulW o_mul (weak (me_ix ix_seq o_ix (me_varW (pv 1)) (weak me_int) (fun _ _ => rfl))) (weak (me_ix ix_seq o_ix (me_varW (pv 0)) (weak me_int) (fun _ _ => rfl))))))
  (mss_cons (ms_if (mt_cmp2 (op_eqD hr.units) o_eq (me_varW (pv 2)) (me_varW (pv 3)) (nomark _)) (mss_one (ms_ret me_int)) mss_nil)
  (mss_one (ms_ret (me_if (mt_cmp2 op_lt o_lt (me_varW (pv 2)) (me_varW (pv 3)) (nomark _)) (me_un un_neg o_neg (weak me_int)) me_int))))))
theorem d_order (T : Fx K mg) : Def P w K mg base 1 "order" 2 [] m_order := by
  obtain ⟨fd, F⟩ := T.f_order
  exact Def.mk' (ps := ["one", "other"]) (N := N_order) (k := 0) F T.g_order sc_order b_order ⟨[], [], .nil, F.bindsN (fun _ _ _ _ _ _ us hl => match us, hl with | [_, _], _ => rfl), fun _ _ => .nil⟩ (fun cdv A outer s H E hr => w_order T fd cdv A outer s H E hr)
abbrev N_along : List Str := ["way", "spot", "a", "b", "c", "d"]
theorem sc_along : FnScope N_along ["way", "spot"] (defScope (top 11)) := ⟨rfl, rfl, rfl, by decide +kernel, rfl, by decide +kernel, by decide +kernel⟩
theorem w_along (T : Fx K mg) (fd : FuncData) (cdv : Value) (A : Around) (outer : List Env) (s : Shared) (H : Hp) (E : XK) (hr : Room 2 (A.deeper (envOfC "along" (defScope (top 11)) s.heap.objs.size (He.ga K "along") cdv))) :
    PSs (cxOf (L2.CX P w) P w K mg base N_along "along" (defScope (top 11)) (He.ga K "along") cdv A outer s H E) (defBody (top 11)) (tS K (fun cls d _ H => E cls d H) b_along) := by
  have tk := tk_cx (P := P) (w := w) (K := K) (mg := mg) (base := base) (N := N_along) (qual := "along") (scope := defScope (top 11)) (f := He.ga K "along") (cd := cdv) (A := A) (outer := outer) (s := s) (H := H) (E := E)
  exact (mss_cons (ms_asg (me_var (pv 1)) (mg_tup rfl (glen_cons (glen_cons glen_nil)) (mgs_cons (mg_tup rfl (glen_cons (glen_cons glen_nil)) (mgs_cons (mg_name (pg_name (i := 2) sc_along.nd rfl (Or.inl rfl))) (mgs_cons (mg_name (pg_name (i := 3) sc_along.nd rfl (Or.inl rfl))) mgs_nil))) (mgs_cons (mg_tup rfl (glen_cons (glen_cons glen_nil)) (mgs_cons (mg_name (pg_name (i := 4) sc_along.nd rfl (Or.inl rfl))) (mgs_cons (mg_name (pg_name (i := 5) sc_along.nd rfl (Or.inl rfl))) mgs_nil))) mgs_nil))))
  (mss_one (ms_ret (me_call ((d_share T).mono (by decide)) hr tk (by rfl) (alen_cons (alen_cons alen_nil)) (ma_cons (me_op2 op_add4 o_add (weak (me_op2 op_mulW o_mul (weak (me_op2 op_mulW o_mul (weak (me_ix ix_seq o_ix (me_varW (pv 0)) (weak me_int) (fun _ _ => rfl))) (me_varW (pv 2)))) (me_varW (pv 5)))) (weak (me_op2 op_mulW o_mul (weak (me_op2 op_mulW o_mul (weak (me_ix ix_seq o_ix (me_varW (pv 0)) (weak me_int) (fun _ _ => rfl))) (me_varW (pv 4)))) (me_varW (pv 3))))) (ma_cons (me_op2 op_mulW o_mul (me_varW (pv 3)) (me_varW (pv 5))) ma_nil))))))
theorem d_along (T : Fx K mg) : Def P w K mg base 3 "along" 2 [] m_along := by
  obtain ⟨fd, F⟩ := T.f_along
  exact Def.mk' (ps := ["way", "spot"]) (N := N_along) (k := 2) F T.g_along sc_along b_along ⟨[], [], .nil, F.bindsN (fun _ _ _ _ _ _ us hl => match us, hl with | [_, _], _ => rfl), fun _ _ => .nil⟩ (fun cdv A outer s H E hr => w_along T fd cdv A outer s H E hr)
abbrev N_spot_minus : List Str := ["one", "other", "a", "b"]
theorem sc_spot_minus : FnScope N_spot_minus ["one", "other"] (defScope (top 12)) := ⟨rfl, rfl, rfl, by decide +kernel, rfl, by decide +kernel, by decide +kernel⟩
theorem w_spot_minus (T : Fx K mg) (fd : FuncData) (cdv : Value) (A : Around) (outer : List Env) (s : Shared) (H : Hp) (E : XK) (hr : Room 3 (A.deeper (envOfC "spot_minus" (defScope (top 12)) s.heap.objs.size (He.ga K "spot_minus") cdv))) :
    PSs (cxOf (L2.CX P w) P w K mg base N_spot_minus "spot_minus" (defScope (top 12)) (He.ga K "spot_minus") cdv A outer s H E) (defBody (top 12)) (tS K (fun cls d _ H => E cls d H) b_spot_minus) := by
  have tk := tk_cx (P := P) (w := w) (K := K) (mg := mg) (base := base) (N := N_spot_minus) (qual := "spot_minus") (scope := defScope (top 12)) (f := He.ga K "spot_minus") (cd := cdv) (A := A) (outer := outer) (s := s) (H := H) (E := E)
  exact (mss_one (ms_ret (me_callTy call_tuple_of c_tup (by rfl) T.z_tuple (by decide +kernel) (maw_cons (weak (me_new (mf_lc (own := [("a", 2), ("b", 3)]) (ws := [2, 3]) rfl sc_spot_minus.nd (toO (mi_zipS (by rfl) T.z_zip (ma_cons (me_var (pv 0)) (ma_cons (me_var (pv 1)) ma_nil)) kstrict)) (blkOk_by (N := N_spot_minus) (sc := defScope (top 12)) (by decide +kernel)) (by decide) (fun _ _ _ _ _ => (mg_tup rfl (glen_cons (glen_cons glen_nil)) (mgs_cons (mg_name (pg_name (i := 2) sc_spot_minus.nd rfl (Or.inl rfl))) (mgs_cons (mg_name (pg_name (i := 3) sc_spot_minus.nd rfl (Or.inl rfl))) mgs_nil)))) (fun _ _ _ _ _ => mts_nil) (fun _ _ _ _ _ => (me_call ((d_minus T).mono (by decide)) hr takes0 (by rfl) (alen_cons (alen_cons alen_nil)) (ma_cons (me_var (pv 2)) (ma_cons (me_var (pv 3)) ma_nil))))))) maw_nil))))
theorem d_spot_minus (T : Fx K mg) : Def P w K mg base 4 "spot_minus" 2 [] m_spot_minus := by
  obtain ⟨fd, F⟩ := T.f_spot_minus
  exact Def.mk' (ps := ["one", "other"]) (N := N_spot_minus) (k := 3) F T.g_spot_minus sc_spot_minus b_spot_minus ⟨[], [], .nil, F.bindsN (fun _ _ _ _ _ _ us hl => match us, hl with | [_, _], _ => rfl), fun _ _ => .nil⟩ (fun cdv A outer s H E hr => w_spot_minus T fd cdv A outer s H E hr)
abbrev N_find_row : List Str := ["rows", "name", "row"]
theorem sc_find_row : FnScope N_find_row ["rows", "name"] (defScope (top 14)) := ⟨rfl, rfl, rfl, by decide +kernel, rfl, by decide +kernel, by decide +kernel⟩
theorem w_find_row (T : Fx K mg) (fd : FuncData) (cdv : Value) (A : Around) (outer : List Env) (s : Shared) (H : Hp) (E : XK) (hr : Room 0 (A.deeper (envOfC "find_row" (defScope (top 14)) s.heap.objs.size (He.ga K "find_row") cdv))) :
    PSs (cxOf (L2.CX P w) P w K mg base N_find_row "find_row" (defScope (top 14)) (He.ga K "find_row") cdv A outer s H E) (defBody (top 14)) (tS K (fun cls d _ H => E cls d H) b_find_row) := by
  have tk := tk_cx (P := P) (w := w) (K := K) (mg := mg) (base := base) (N := N_find_row) (qual := "find_row") (scope := defScope (top 14)) (f := He.ga K "find_row") (cd := cdv) (A := A) (outer := outer) (s := s) (H := H) (E := E)
  exact (mss_cons (ms_for po_cx rfl (mi_seq (me_var (pv 0))) (mg_name (pg_name (i := 2) sc_find_row.nd rfl (Or.inl rfl))) (mss_one (ms_if (mt_cmp2 (op_eqD hr.units) o_eq (weak (me_ix ix_seq o_ix (me_varW (pv 2)) (weak me_int) (fun _ _ => rfl))) (me_varW (pv 1)) (nomark _)) (mss_one (ms_ret (me_var (pv 2)))) mss_nil)))
  (mss_one ms_bad))
theorem d_find_row (T : Fx K mg) : Def P w K mg base 1 "find_row" 2 [] m_find_row := by
  obtain ⟨fd, F⟩ := T.f_find_row
  exact Def.mk' (ps := ["rows", "name"]) (N := N_find_row) (k := 0) F T.g_find_row sc_find_row b_find_row ⟨[], [], .nil, F.bindsN (fun _ _ _ _ _ _ us hl => match us, hl with | [_, _], _ => rfl), fun _ _ => .nil⟩ (fun cdv A outer s H E hr => w_find_row T fd cdv A outer s H E hr)
abbrev N_parting : List Str := ["rows", "contact", "one", "other", "way"]
theorem sc_parting : FnScope N_parting ["rows", "contact"] (defScope (top 16)) := ⟨rfl, rfl, rfl, by decide +kernel, rfl, by decide +kernel, by decide +kernel⟩
theorem w_parting (T : Fx K mg) (fd : FuncData) (cdv : Value) (A : Around) (outer : List Env) (s : Shared) (H : Hp) (E : XK) (hr : Room 4 (A.deeper (envOfC "parting" (defScope (top 16)) s.heap.objs.size (He.ga K "parting") cdv))) :
    PSs (cxOf (L2.CX P w) P w K mg base N_parting "parting" (defScope (top 16)) (He.ga K "parting") cdv A outer s H E) (defBody (top 16)) (tS K (fun cls d _ H => E cls d H) b_parting) := by
  have tk := tk_cx (P := P) (w := w) (K := K) (mg := mg) (base := base) (N := N_parting) (qual := "parting") (scope := defScope (top 16)) (f := He.ga K "parting") (cd := cdv) (A := A) (outer := outer) (s := s) (H := H) (E := E)
  exact (mss_cons (ms_asg (me_var (pv 1)) (mg_tup rfl (glen_cons (glen_cons (glen_cons glen_nil))) (mgs_cons (mg_name (pg_name (i := 2) sc_parting.nd rfl (Or.inl rfl))) (mgs_cons (mg_name (pg_name (i := 3) sc_parting.nd rfl (Or.inl rfl))) (mgs_cons (mg_name (pg_name (i := 4) sc_parting.nd rfl (Or.inl rfl))) mgs_nil)))))
  (mss_one (ms_ret (me_call ((d_along T).mono (by decide)) hr tk (by rfl) (alen_cons (alen_cons alen_nil)) (ma_cons (me_var (pv 4)) (ma_cons (me_call ((d_spot_minus T).mono (by decide)) hr tk (by rfl) (alen_cons (alen_cons alen_nil)) (ma_cons (me_ix ix_seq o_ix (weak (me_call ((d_find_row T).mono (by decide)) hr tk (by rfl) (alen_cons (alen_cons alen_nil)) (ma_cons (me_var (pv 0)) (ma_cons (me_var (pv 3)) ma_nil)))) (weak me_int) (fun _ _ => rfl)) (ma_cons (me_ix ix_seq o_ix (weak (me_call ((d_find_row T).mono (by decide)) hr tk (by rfl) (alen_cons (alen_cons alen_nil)) (ma_cons (me_var (pv 0)) (ma_cons (me_var (pv 2)) ma_nil)))) (weak me_int) (fun _ _ => rfl)) ma_nil))) ma_nil))))))
theorem d_parting (T : Fx K mg) : Def P w K mg base 5 "parting" 2 [] m_parting := by
  obtain ⟨fd, F⟩ := T.f_parting
  exact Def.mk' (ps := ["rows", "contact"]) (N := N_parting) (k := 4) F T.g_parting sc_parting b_parting ⟨[], [], .nil, F.bindsN (fun _ _ _ _ _ _ us hl => match us, hl with | [_, _], _ => rfl), fun _ _ => .nil⟩ (fun cdv A outer s H E hr => w_parting T fd cdv A outer s H E hr)
abbrev N_closing : List Str := ["rows", "pairs", "contact"]
theorem sc_closing : FnScope N_closing ["rows", "pairs"] (defScope (top 17)) := ⟨rfl, rfl, rfl, by decide +kernel, rfl, by decide +kernel, by decide +kernel⟩
theorem w_closing (T : Fx K mg) (fd : FuncData) (cdv : Value) (A : Around) (outer : List Env) (s : Shared) (H : Hp) (E : XK) (hr : Room 5 (A.deeper (envOfC "closing" (defScope (top 17)) s.heap.objs.size (He.ga K "closing") cdv))) :
    PSs (cxOf (L2.CX P w) P w K mg base N_closing "closing" (defScope (top 17)) (He.ga K "closing") cdv A outer s H E) (defBody (top 17)) (tS K (fun cls d _ H => E cls d H) b_closing) := by
  have tk := tk_cx (P := P) (w := w) (K := K) (mg := mg) (base := base) (N := N_closing) (qual := "closing") (scope := defScope (top 17)) (f := He.ga K "closing") (cd := cdv) (A := A) (outer := outer) (s := s) (H := H) (E := E)
  exact (mss_one (ms_ret (me_callB (cr_any rfl) c_any (by rfl) T.z_any (by decide +kernel) (maw_cons (weak (me_new (mf_lc (own := [("contact", 2)]) (ws := [2]) rfl sc_closing.nd (toO (mi_seq (me_var (pv 1)))) (blkOk_by (N := N_closing) (sc := defScope (top 17)) (by decide +kernel)) (by decide) (fun _ _ _ _ _ => (mg_name (pg_name (i := 2) sc_closing.nd rfl (Or.inl rfl)))) (fun _ _ _ _ _ => mts_nil) (fun _ _ _ _ _ => (me_cmp2 op_lt o_lt (weak (me_call ((d_order T).mono (by decide)) hr takes0 (by rfl) (alen_cons (alen_cons alen_nil)) (ma_cons (me_call ((d_parting T).mono (by decide)) hr takes0 (by rfl) (alen_cons (alen_cons alen_nil)) (ma_cons (me_var (pv 0)) (ma_cons (me_var (pv 2)) ma_nil))) (ma_cons (me_g T.c_NOUGHT (by rfl)) ma_nil)))) (weak me_int) (nomark _)))))) maw_nil))))
theorem d_closing (T : Fx K mg) : Def P w K mg base 6 "closing" 2 [] m_closing := by
  obtain ⟨fd, F⟩ := T.f_closing
  exact Def.mk' (ps := ["rows", "pairs"]) (N := N_closing) (k := 5) F T.g_closing sc_closing b_closing ⟨[], [], .nil, F.bindsN (fun _ _ _ _ _ _ us hl => match us, hl with | [_, _], _ => rfl), fun _ _ => .nil⟩ (fun cdv A outer s H E hr => w_closing T fd cdv A outer s H E hr)
abbrev N__law_cell_at : List Str := ["_law_script", "_law_k"]
theorem sc__law_cell_at : FnScope N__law_cell_at ["_law_script", "_law_k"] (defScope (top 19)) := ⟨rfl, rfl, rfl, by decide +kernel, rfl, by decide +kernel, by decide +kernel⟩
theorem w__law_cell_at (T : Fx K mg) (fd : FuncData) (cdv : Value) (A : Around) (outer : List Env) (s : Shared) (H : Hp) (E : XK) (hr : Room 0 (A.deeper (envOfC "_law_cell_at" (defScope (top 19)) s.heap.objs.size (He.ga K "_law_cell_at") cdv))) :
    PSs (cxOf (L2.CX P w) P w K mg base N__law_cell_at "_law_cell_at" (defScope (top 19)) (He.ga K "_law_cell_at") cdv A outer s H E) (defBody (top 19)) (tS K (fun cls d _ H => E cls d H) b__law_cell_at) := by
  have tk := tk_cx (P := P) (w := w) (K := K) (mg := mg) (base := base) (N := N__law_cell_at) (qual := "_law_cell_at") (scope := defScope (top 19)) (f := He.ga K "_law_cell_at") (cd := cdv) (A := A) (outer := outer) (s := s) (H := H) (E := E)
  exact (mss_cons (ms_if (mt_cmp2 (op_eqD hr.units) o_eq (weak (me_callB call_len3 c_len (by rfl) T.z_len (by decide +kernel) (maw_cons (me_varW (pv 0)) maw_nil))) (weak me_int) (nomark _)) (mss_one (ms_ret (me_op2 op_add4 o_add (weak (me_op2 op_mulW o_mul (weak me_int) (me_varW (pv 1)))) (weak me_int)))) mss_nil)
  (mss_one (ms_ret (me_callB call_abs c_abs (by rfl) T.z_abs (by decide +kernel) (maw_cons (weak (me_ix ix_seq o_ix (me_varW (pv 0)) (weak (me_op2 op_modN o_mod (me_varW (pv 1)) (weak (me_callB call_len3 c_len (by rfl) T.z_len (by decide +kernel) (maw_cons (me_varW (pv 0)) maw_nil))))) (fun _ _ => rfl))) maw_nil)))))
theorem d__law_cell_at (T : Fx K mg) : Def P w K mg base 1 "_law_cell_at" 2 [] m__law_cell_at := by
  obtain ⟨fd, F⟩ := T.f__law_cell_at
  exact Def.mk' (ps := ["_law_script", "_law_k"]) (N := N__law_cell_at) (k := 0) F T.g__law_cell_at sc__law_cell_at b__law_cell_at ⟨[], [], .nil, F.bindsN (fun _ _ _ _ _ _ us hl => match us, hl with | [_, _], _ => rfl), fun _ _ => .nil⟩ (fun cdv A outer s H E hr => w__law_cell_at T fd cdv A outer s H E hr)
abbrev N__law_mixed : List Str := ["_law_script", "_law_k", "_law_many", "_law_number"]
theorem sc__law_mixed : FnScope N__law_mixed ["_law_script", "_law_k", "_law_many"] (defScope (top 20)) := ⟨rfl, rfl, rfl, by decide +kernel, rfl, by decide +kernel, by decide +kernel⟩
theorem w__law_mixed (T : Fx K mg) (fd : FuncData) (cdv : Value) (A : Around) (outer : List Env) (s : Shared) (H : Hp) (E : XK) (hr : Room 1 (A.deeper (envOfC "_law_mixed" (defScope (top 20)) s.heap.objs.size (He.ga K "_law_mixed") cdv))) :
    PSs (cxOf (L2.CX P w) P w K mg base N__law_mixed "_law_mixed" (defScope (top 20)) (He.ga K "_law_mixed") cdv A outer s H E) (defBody (top 20)) (tS K (fun cls d _ H => E cls d H) b__law_mixed) := by
  have tk := tk_cx (P := P) (w := w) (K := K) (mg := mg) (base := base) (N := N__law_mixed) (qual := "_law_mixed") (scope := defScope (top 20)) (f := He.ga K "_law_mixed") (cd := cdv) (A := A) (outer := outer) (s := s) (H := H) (E := E)
  exact (mss_cons (ms_set (ps_set (i := 3) sc__law_mixed.nd rfl (Or.inl rfl) (me_op2 op_modN o_mod (weak (me_op2 op_pow o_pow (weak (me_op2 op_add4 o_add (weak (me_op2 op_mulW o_mul (weak (me_op2 op_add4 o_add (weak (me_op2 op_modN o_mod (weak (me_call ((d__law_cell_at T).mono (by decide)) hr tk (by rfl) (alen_cons (alen_cons alen_nil)) (ma_cons (me_var (pv 0)) (ma_cons (me_var (pv 1)) ma_nil)))) (weak me_int))) (weak me_int))) (weak (me_op2 op_add4 o_add (me_varW (pv 1)) (weak me_int))))) (weak (me_op2 op_mulW o_mul (weak me_int) (me_varW (pv 1)))))) (weak me_int))) (weak me_int))))
  (mss_one (ms_ret (me_op2 op_modN o_mod (weak (me_op2 op_fdivB o_div (me_varW (pv 3)) (weak me_int))) (me_varW (pv 2))))))
theorem d__law_mixed (T : Fx K mg) : Def P w K mg base 2 "_law_mixed" 3 [] m__law_mixed := by
  obtain ⟨fd, F⟩ := T.f__law_mixed
  exact Def.mk' (ps := ["_law_script", "_law_k", "_law_many"]) (N := N__law_mixed) (k := 1) F T.g__law_mixed sc__law_mixed b__law_mixed ⟨[], [], .nil, F.bindsN (fun _ _ _ _ _ _ us hl => match us, hl with | [_, _, _], _ => rfl), fun _ _ => .nil⟩ (fun cdv A outer s H E hr => w__law_mixed T fd cdv A outer s H E hr)
abbrev N__law_new_deck : List Str := ["_law_script", "_law_cell"]
theorem sc__law_new_deck : FnScope N__law_new_deck ["_law_script"] (defScope (top 21)) := ⟨rfl, rfl, rfl, by decide +kernel, rfl, by decide +kernel, by decide +kernel⟩
theorem w__law_new_deck (T : Fx K mg) (fd : FuncData) (cdv : Value) (A : Around) (outer : List Env) (s : Shared) (H : Hp) (E : XK) (hr : Room 0 (A.deeper (envOfC "_law_new_deck" (defScope (top 21)) s.heap.objs.size (He.ga K "_law_new_deck") cdv))) :
    PSs (cxOf (L2.CX P w) P w K mg base N__law_new_deck "_law_new_deck" (defScope (top 21)) (He.ga K "_law_new_deck") cdv A outer s H E) (defBody (top 21)) (tSd K b__law_new_deck) := by
  have tk := tk_cx (P := P) (w := w) (K := K) (mg := mg) (base := base) (N := N__law_new_deck) (qual := "_law_new_deck") (scope := defScope (top 21)) (f := He.ga K "_law_new_deck") (cd := cdv) (A := A) (outer := outer) (s := s) (H := H) (E := E)
  exact (mss_oneD (ms_retDk (W := fun cls d _ H => E cls d H) (pv 0) (mf_lc (own := [("_law_cell", 1)]) (ws := [1]) rfl sc__law_new_deck.nd (toO (mi_seq (me_var (pv 0)))) (blkOk_by (N := N__law_new_deck) (sc := defScope (top 21)) (by decide +kernel)) (by decide) (fun _ _ _ _ _ => (mg_name (pg_name (i := 1) sc__law_new_deck.nd rfl (Or.inl rfl)))) (fun _ _ _ _ _ => (mts_one (mt_cmp2 op_ge o_ge (weak (me_callB call_abs c_abs (by rfl) T.z_abs (by decide +kernel) (maw_cons (me_varW (pv 1)) maw_nil))) (weak (me_op2 op_pow o_pow (weak me_int) (weak me_int))) (nomark _)))) (fun _ _ _ _ _ => (me_callB call_abs c_abs (by rfl) T.z_abs (by decide +kernel) (maw_cons (me_varW (pv 1)) maw_nil))))))
theorem d__law_new_deck (T : Fx K mg) : DefD P w K mg base 1 "_law_new_deck" 1 m__law_new_deck := by
  obtain ⟨fd, F⟩ := T.f__law_new_deck
  exact DefD.mk' (ps := ["_law_script"]) (N := N__law_new_deck) (k := 0) F T.g__law_new_deck sc__law_new_deck b__law_new_deck ⟨[], .nil, F.bindsN (fun _ _ _ _ _ _ us hl => match us, hl with | [_], _ => rfl)⟩ (fun cdv A outer s H E hr => w__law_new_deck T fd cdv A outer s H E hr)
abbrev N__law_take : List Str := ["_law_deck", "_law_many", "_law_cell"]
theorem sc__law_take : FnScope N__law_take ["_law_deck", "_law_many"] (defScope (top 22)) := ⟨rfl, rfl, rfl, by decide +kernel, rfl, by decide +kernel, by decide +kernel⟩
theorem w__law_take (T : Fx K mg) (fd : FuncData) (cdv : Value) (A : Around) (outer : List Env) (s : Shared) (H : Hp) (E : XK) (hr : Room 2 (A.deeper (envOfC "_law_take" (defScope (top 22)) s.heap.objs.size (He.ga K "_law_take") cdv))) :
    PSs (cxOf (L2.CX P w) P w K mg base N__law_take "_law_take" (defScope (top 22)) (He.ga K "_law_take") cdv A outer s H E) (defBody (top 22)) (tS K (fun cls d _ H => E cls d H) b__law_take) := by
  have tk := tk_cx (P := P) (w := w) (K := K) (mg := mg) (base := base) (N := N__law_take) (qual := "_law_take") (scope := defScope (top 22)) (f := He.ga K "_law_take") (cd := cdv) (A := A) (outer := outer) (s := s) (H := H) (E := E)
  exact (mss_cons (ms_while po_cx (mt_cmp2 op_lt o_lt (weak (me_dk (j := 2) (pe_ix ix_list (pv 0) pe_int (fun _ _ => rfl)))) (weak (me_dkLen (pe_callB call_len3 (by rfl) T.z_len (by decide +kernel) (pa_cons (pe_ix ix_list (pv 0) pe_int (fun _ _ => rfl)) pa_nil)))) (nomark _)) (mss_cons (ms_set (ps_set (i := 2) sc__law_take.nd rfl (Or.inl rfl) (me_dkAt (pe_ix ix_list (pe_ix ix_list (pv 0) pe_int (fun _ _ => rfl)) (pe_ix ix_list (pv 0) pe_int (fun _ _ => rfl)) (fun _ _ => rfl)))))
  (mss_cons (ms_if (mt_cmp2 op_gt o_gt (me_varW (pv 2)) (weak me_int) (nomark _)) (mss_cons (ms_dkBig (ps_asg (me_op2 op_fdivB o_div (me_varW (pv 2)) (me_varW (pv 1))) (pg_sub (pe_ix ix_list (pv 0) pe_int (fun _ _ => rfl)) (pe_ix ix_list (pv 0) pe_int (fun _ _ => rfl)) set_list)))
  (mss_one (ms_ret (me_op2 op_modN o_mod (me_varW (pv 2)) (me_varW (pv 1)))))) mss_nil)
  (mss_one (ms_dkSet (j := 2) (ps_asg (me_op2 op_add4 o_add (weak (me_dk (j := 2) (pe_ix ix_list (pv 0) pe_int (fun _ _ => rfl)))) (weak me_int)) (pg_sub (pv 0) pe_int set_list)))))))
  (mss_cons (ms_dkSet (j := 3) (ps_asg (me_op2 op_add4 o_add (weak (me_dk (j := 3) (pe_ix ix_list (pv 0) pe_int (fun _ _ => rfl)))) (weak me_int)) (pg_sub (pv 0) pe_int set_list)))
  (mss_one (ms_ret (me_call ((d__law_mixed T).mono (by decide)) hr tk (by rfl) (alen_cons (alen_cons (alen_cons alen_nil))) (ma_cons (me_dk (j := 0) (pe_ix ix_list (pv 0) pe_int (fun _ _ => rfl))) (ma_cons (me_dk (j := 3) (pe_ix ix_list (pv 0) pe_int (fun _ _ => rfl))) (ma_cons (me_var (pv 1)) ma_nil))))))))
theorem d__law_take (T : Fx K mg) : Def P w K mg base 3 "_law_take" 2 [] m__law_take := by
  obtain ⟨fd, F⟩ := T.f__law_take
  exact Def.mk' (ps := ["_law_deck", "_law_many"]) (N := N__law_take) (k := 2) F T.g__law_take sc__law_take b__law_take ⟨[], [], .nil, F.bindsN (fun _ _ _ _ _ _ us hl => match us, hl with | [_, _], _ => rfl), fun _ _ => .nil⟩ (fun cdv A outer s H E hr => w__law_take T fd cdv A outer s H E hr)
abbrev N__law_gcd : List Str := ["_law_one", "_law_other", "_law_rest"]
theorem sc__law_gcd : FnScope N__law_gcd ["_law_one", "_law_other"] (defScope (top 23)) := ⟨rfl, rfl, rfl, by decide +kernel, rfl, by decide +kernel, by decide +kernel⟩
theorem w__law_gcd (T : Fx K mg) (fd : FuncData) (cdv : Value) (A : Around) (outer : List Env) (s : Shared) (H : Hp) (E : XK) (hr : Room 0 (A.deeper (envOfC "_law_gcd" (defScope (top 23)) s.heap.objs.size (He.ga K "_law_gcd") cdv))) :
    PSs (cxOf (L2.CX P w) P w K mg base N__law_gcd "_law_gcd" (defScope (top 23)) (He.ga K "_law_gcd") cdv A outer s H E) (defBody (top 23)) (tS K (fun cls d _ H => E cls d H) b__law_gcd) := by
  have tk := tk_cx (P := P) (w := w) (K := K) (mg := mg) (base := base) (N := N__law_gcd) (qual := "_law_gcd") (scope := defScope (top 23)) (f := He.ga K "_law_gcd") (cd := cdv) (A := A) (outer := outer) (s := s) (H := H) (E := E)
  exact (mss_cons (ms_while po_cx (mt_cmp2 (op_neD hr.units) o_ne (me_varW (pv 1)) (weak me_int) (nomark _)) (mss_cons (ms_set (ps_set (i := 2) sc__law_gcd.nd rfl (Or.inl rfl) (me_op2 op_modN o_mod (me_varW (pv 0)) (me_varW (pv 1)))))
  (mss_cons (ms_set (ps_set (i := 0) sc__law_gcd.nd rfl (Or.inl rfl) (me_var (pv 1))))
  (mss_one (ms_set (ps_set (i := 1) sc__law_gcd.nd rfl (Or.inl rfl) (me_var (pv 2))))))))
  (mss_one (ms_ret (me_callB call_abs c_abs (by rfl) T.z_abs (by decide +kernel) (maw_cons (me_varW (pv 0)) maw_nil)))))
theorem d__law_gcd (T : Fx K mg) : Def P w K mg base 1 "_law_gcd" 2 [] m__law_gcd := by
  obtain ⟨fd, F⟩ := T.f__law_gcd
  exact Def.mk' (ps := ["_law_one", "_law_other"]) (N := N__law_gcd) (k := 0) F T.g__law_gcd sc__law_gcd b__law_gcd ⟨[], [], .nil, F.bindsN (fun _ _ _ _ _ _ us hl => match us, hl with | [_, _], _ => rfl), fun _ _ => .nil⟩ (fun cdv A outer s H E hr => w__law_gcd T fd cdv A outer s H E hr)
abbrev N__law_lowest : List Str := ["_law_top", "_law_bottom", "_law_part"]
theorem sc__law_lowest : FnScope N__law_lowest ["_law_top", "_law_bottom"] (defScope (top 24)) := ⟨rfl, rfl, rfl, by decide +kernel, rfl, by decide +kernel, by decide +kernel⟩
theorem w__law_lowest (T : Fx K mg) (fd : FuncData) (cdv : Value) (A : Around) (outer : List Env) (s : Shared) (H : Hp) (E : XK) (hr : Room 1 (A.deeper (envOfC "_law_lowest" (defScope (top 24)) s.heap.objs.size (He.ga K "_law_lowest") cdv))) :
    PSs (cxOf (L2.CX P w) P w K mg base N__law_lowest "_law_lowest" (defScope (top 24)) (He.ga K "_law_lowest") cdv A outer s H E) (defBody (top 24)) (tS K (fun cls d _ H => E cls d H) b__law_lowest) := by
  have tk := tk_cx (P := P) (w := w) (K := K) (mg := mg) (base := base) (N := N__law_lowest) (qual := "_law_lowest") (scope := defScope (top 24)) (f := He.ga K "_law_lowest") (cd := cdv) (A := A) (outer := outer) (s := s) (H := H) (E := E)
  exact (mss_cons (ms_set (ps_set (i := 2) sc__law_lowest.nd rfl (Or.inl rfl) (me_call ((d__law_gcd T).mono (by decide)) hr tk (by rfl) (alen_cons (alen_cons alen_nil)) (ma_cons (me_var (pv 0)) (ma_cons (me_var (pv 1)) ma_nil)))))
  (mss_cons (ms_if (mt_cmp2 op_lt o_lt (me_varW (pv 1)) (weak me_int) (nomark _)) (mss_one (ms_set (ps_set (i := 2) sc__law_lowest.nd rfl (Or.inl rfl) (me_un un_neg o_neg (me_varW (pv 2)))))) mss_nil)
  (mss_one (ms_ret (me_tup (ma_cons (me_op2 op_fdivB o_div (me_varW (pv 0)) (me_varW (pv 2))) (ma_cons (me_op2 op_fdivB o_div (me_varW (pv 1)) (me_varW (pv 2))) ma_nil)))))))
theorem d__law_lowest (T : Fx K mg) : Def P w K mg base 2 "_law_lowest" 2 [] m__law_lowest := by
  obtain ⟨fd, F⟩ := T.f__law_lowest
  exact Def.mk' (ps := ["_law_top", "_law_bottom"]) (N := N__law_lowest) (k := 1) F T.g__law_lowest sc__law_lowest b__law_lowest ⟨[], [], .nil, F.bindsN (fun _ _ _ _ _ _ us hl => match us, hl with | [_, _], _ => rfl), fun _ _ => .nil⟩ (fun cdv A outer s H E hr => w__law_lowest T fd cdv A outer s H E hr)
abbrev N__law_plus : List Str := ["_law_one", "_law_other"]
theorem sc__law_plus : FnScope N__law_plus ["_law_one", "_law_other"] (defScope (top 25)) := ⟨rfl, rfl, rfl, by decide +kernel, rfl, by decide +kernel, by decide +kernel⟩
theorem w__law_plus (T : Fx K mg) (fd : FuncData) (cdv : Value) (A : Around) (outer : List Env) (s : Shared) (H : Hp) (E : XK) (hr : Room 2 (A.deeper (envOfC "_law_plus" (defScope (top 25)) s.heap.objs.size (He.ga K "_law_plus") cdv))) :
    PSs (cxOf (L2.CX P w) P w K mg base N__law_plus "_law_plus" (defScope (top 25)) (He.ga K "_law_plus") cdv A outer s H E) (defBody (top 25)) (tS K (fun cls d _ H => E cls d H) b__law_plus) := by
  have tk := tk_cx (P := P) (w := w) (K := K) (mg := mg) (base := base) (N := N__law_plus) (qual := "_law_plus") (scope := defScope (top 25)) (f := He.ga K "_law_plus") (cd := cdv) (A := A) (outer := outer) (s := s) (H := H) (E := E)
  exact (mss_one (ms_ret (me_call ((d__law_lowest T).mono (by decide)) hr tk (by rfl) (alen_cons (alen_cons alen_nil)) (ma_cons (me_op2 op_add4 o_add (weak (me_op2 op_mulW o_mul (weak (me_ix ix_seq o_ix (me_varW (pv 0)) (weak me_int) (fun _ _ => rfl))) (weak (me_ix ix_seq o_ix (me_varW (pv 1)) (weak me_int) (fun _ _ => rfl))))) (weak (me_op2 op_mulW o_mul (weak (me_ix ix_seq o_ix (me_varW (pv 1)) (weak me_int) (fun _ _ => rfl))) (weak (me_ix ix_seq o_ix (me_varW (pv 0)) (weak me_int) (fun _ _ => rfl)))))) (ma_cons (me_op2 op_mulW o_mul (weak (me_ix ix_seq o_ix (me_varW (pv 0)) (weak me_int) (fun _ _ => rfl))) (weak (me_ix ix_seq o_ix (me_varW (pv 1)) (weak me_int) (fun _ _ => rfl)))) ma_nil)))))
theorem d__law_plus (T : Fx K mg) : Def P w K mg base 3 "_law_plus" 2 [] m__law_plus := by
  obtain ⟨fd, F⟩ := T.f__law_plus
  exact Def.mk' (ps := ["_law_one", "_law_other"]) (N := N__law_plus) (k := 2) F T.g__law_plus sc__law_plus b__law_plus ⟨[], [], .nil, F.bindsN (fun _ _ _ _ _ _ us hl => match us, hl with | [_, _], _ => rfl), fun _ _ => .nil⟩ (fun cdv A outer s H E hr => w__law_plus T fd cdv A outer s H E hr)
abbrev N__law_times : List Str := ["_law_one", "_law_other"]
theorem sc__law_times : FnScope N__law_times ["_law_one", "_law_other"] (defScope (top 26)) := ⟨rfl, rfl, rfl, by decide +kernel, rfl, by decide +kernel, by decide +kernel⟩
theorem w__law_times (T : Fx K mg) (fd : FuncData) (cdv : Value) (A : Around) (outer : List Env) (s : Shared) (H : Hp) (E : XK) (hr : Room 2 (A.deeper (envOfC "_law_times" (defScope (top 26)) s.heap.objs.size (He.ga K "_law_times") cdv))) :
    PSs (cxOf (L2.CX P w) P w K mg base N__law_times "_law_times" (defScope (top 26)) (He.ga K "_law_times") cdv A outer s H E) (defBody (top 26)) (tS K (fun cls d _ H => E cls d H) b__law_times) := by
  have tk := tk_cx (P := P) (w := w) (K := K) (mg := mg) (base := base) (N := N__law_times) (qual := "_law_times") (scope := defScope (top 26)) (f := He.ga K "_law_times") (cd := cdv) (A := A) (outer := outer) (s := s) (H := H) (E := E)
  exact (mss_one (ms_ret (me_call ((d__law_lowest T).mono (by decide)) hr tk (by rfl) (alen_cons (alen_cons alen_nil)) (ma_cons (me_op2 op_mulW o_mul (weak (me_ix ix_seq o_ix (me_varW (pv 0)) (weak me_int) (fun _ _ => rfl))) (weak (me_ix ix_seq o_ix (me_varW (pv 1)) (weak me_int) (fun _ _ => rfl)))) (ma_cons (me_op2 op_mulW o_mul (weak (me_ix ix_seq o_ix (me_varW (pv 0)) (weak me_int) (fun _ _ => rfl))) (weak (me_ix ix_seq o_ix (me_varW (pv 1)) (weak me_int) (fun _ _ => rfl)))) ma_nil)))))
theorem d__law_times (T : Fx K mg) : Def P w K mg base 3 "_law_times" 2 [] m__law_times := by
  obtain ⟨fd, F⟩ := T.f__law_times
  exact Def.mk' (ps := ["_law_one", "_law_other"]) (N := N__law_times) (k := 2) F T.g__law_times sc__law_times b__law_times ⟨[], [], .nil, F.bindsN (fun _ _ _ _ _ _ us hl => match us, hl with | [_, _], _ => rfl), fun _ _ => .nil⟩ (fun cdv A outer s H E hr => w__law_times T fd cdv A outer s H E hr)
abbrev N__law_spot_plus : List Str := ["_law_one", "_law_other"]
theorem sc__law_spot_plus : FnScope N__law_spot_plus ["_law_one", "_law_other"] (defScope (top 27)) := ⟨rfl, rfl, rfl, by decide +kernel, rfl, by decide +kernel, by decide +kernel⟩
theorem w__law_spot_plus (T : Fx K mg) (fd : FuncData) (cdv : Value) (A : Around) (outer : List Env) (s : Shared) (H : Hp) (E : XK) (hr : Room 3 (A.deeper (envOfC "_law_spot_plus" (defScope (top 27)) s.heap.objs.size (He.ga K "_law_spot_plus") cdv))) :
    PSs (cxOf (L2.CX P w) P w K mg base N__law_spot_plus "_law_spot_plus" (defScope (top 27)) (He.ga K "_law_spot_plus") cdv A outer s H E) (defBody (top 27)) (tS K (fun cls d _ H => E cls d H) b__law_spot_plus) := by
  have tk := tk_cx (P := P) (w := w) (K := K) (mg := mg) (base := base) (N := N__law_spot_plus) (qual := "_law_spot_plus") (scope := defScope (top 27)) (f := He.ga K "_law_spot_plus") (cd := cdv) (A := A) (outer := outer) (s := s) (H := H) (E := E)
  exact (mss_one (ms_ret (me_tup (ma_cons (me_call ((d__law_plus T).mono (by decide)) hr tk (by rfl) (alen_cons (alen_cons alen_nil)) (ma_cons (me_ix ix_seq o_ix (me_varW (pv 0)) (weak me_int) (fun _ _ => rfl)) (ma_cons (me_ix ix_seq o_ix (me_varW (pv 1)) (weak me_int) (fun _ _ => rfl)) ma_nil))) (ma_cons (me_call ((d__law_plus T).mono (by decide)) hr tk (by rfl) (alen_cons (alen_cons alen_nil)) (ma_cons (me_ix ix_seq o_ix (me_varW (pv 0)) (weak me_int) (fun _ _ => rfl)) (ma_cons (me_ix ix_seq o_ix (me_varW (pv 1)) (weak me_int) (fun _ _ => rfl)) ma_nil))) ma_nil)))))
theorem d__law_spot_plus (T : Fx K mg) : Def P w K mg base 4 "_law_spot_plus" 2 [] m__law_spot_plus := by
  obtain ⟨fd, F⟩ := T.f__law_spot_plus
  exact Def.mk' (ps := ["_law_one", "_law_other"]) (N := N__law_spot_plus) (k := 3) F T.g__law_spot_plus sc__law_spot_plus b__law_spot_plus ⟨[], [], .nil, F.bindsN (fun _ _ _ _ _ _ us hl => match us, hl with | [_, _], _ => rfl), fun _ _ => .nil⟩ (fun cdv A outer s H E hr => w__law_spot_plus T fd cdv A outer s H E hr)
abbrev N__law_spot_times : List Str := ["_law_spot", "_law_size"]
theorem sc__law_spot_times : FnScope N__law_spot_times ["_law_spot", "_law_size"] (defScope (top 28)) := ⟨rfl, rfl, rfl, by decide +kernel, rfl, by decide +kernel, by decide +kernel⟩
theorem w__law_spot_times (T : Fx K mg) (fd : FuncData) (cdv : Value) (A : Around) (outer : List Env) (s : Shared) (H : Hp) (E : XK) (hr : Room 3 (A.deeper (envOfC "_law_spot_times" (defScope (top 28)) s.heap.objs.size (He.ga K "_law_spot_times") cdv))) :
    PSs (cxOf (L2.CX P w) P w K mg base N__law_spot_times "_law_spot_times" (defScope (top 28)) (He.ga K "_law_spot_times") cdv A outer s H E) (defBody (top 28)) (tS K (fun cls d _ H => E cls d H) b__law_spot_times) := by
  have tk := tk_cx (P := P) (w := w) (K := K) (mg := mg) (base := base) (N := N__law_spot_times) (qual := "_law_spot_times") (scope := defScope (top 28)) (f := He.ga K "_law_spot_times") (cd := cdv) (A := A) (outer := outer) (s := s) (H := H) (E := E)
  exact (mss_one (ms_ret (me_tup (ma_cons (me_call ((d__law_times T).mono (by decide)) hr tk (by rfl) (alen_cons (alen_cons alen_nil)) (ma_cons (me_ix ix_seq o_ix (me_varW (pv 0)) (weak me_int) (fun _ _ => rfl)) (ma_cons (me_var (pv 1)) ma_nil))) (ma_cons (me_call ((d__law_times T).mono (by decide)) hr tk (by rfl) (alen_cons (alen_cons alen_nil)) (ma_cons (me_ix ix_seq o_ix (me_varW (pv 0)) (weak me_int) (fun _ _ => rfl)) (ma_cons (me_var (pv 1)) ma_nil))) ma_nil)))))
theorem d__law_spot_times (T : Fx K mg) : Def P w K mg base 4 "_law_spot_times" 2 [] m__law_spot_times := by
  obtain ⟨fd, F⟩ := T.f__law_spot_times
  exact Def.mk' (ps := ["_law_spot", "_law_size"]) (N := N__law_spot_times) (k := 3) F T.g__law_spot_times sc__law_spot_times b__law_spot_times ⟨[], [], .nil, F.bindsN (fun _ _ _ _ _ _ us hl => match us, hl with | [_, _], _ => rfl), fun _ _ => .nil⟩ (fun cdv A outer s H E hr => w__law_spot_times T fd cdv A outer s H E hr)
abbrev N__law_spot_less : List Str := ["_law_one", "_law_other"]
theorem sc__law_spot_less : FnScope N__law_spot_less ["_law_one", "_law_other"] (defScope (top 29)) := ⟨rfl, rfl, rfl, by decide +kernel, rfl, by decide +kernel, by decide +kernel⟩
theorem w__law_spot_less (T : Fx K mg) (fd : FuncData) (cdv : Value) (A : Around) (outer : List Env) (s : Shared) (H : Hp) (E : XK) (hr : Room 4 (A.deeper (envOfC "_law_spot_less" (defScope (top 29)) s.heap.objs.size (He.ga K "_law_spot_less") cdv))) :
    PSs (cxOf (L2.CX P w) P w K mg base N__law_spot_less "_law_spot_less" (defScope (top 29)) (He.ga K "_law_spot_less") cdv A outer s H E) (defBody (top 29)) (tS K (fun cls d _ H => E cls d H) b__law_spot_less) := by
  have tk := tk_cx (P := P) (w := w) (K := K) (mg := mg) (base := base) (N := N__law_spot_less) (qual := "_law_spot_less") (scope := defScope (top 29)) (f := He.ga K "_law_spot_less") (cd := cdv) (A := A) (outer := outer) (s := s) (H := H) (E := E)
  exact (mss_one (ms_ret (me_call ((d__law_spot_plus T).mono (by decide)) hr tk (by rfl) (alen_cons (alen_cons alen_nil)) (ma_cons (me_var (pv 0)) (ma_cons (me_call ((d__law_spot_times T).mono (by decide)) hr tk (by rfl) (alen_cons (alen_cons alen_nil)) (ma_cons (me_var (pv 1)) (ma_cons (me_tup (ma_cons (me_un un_neg o_neg (weak me_int)) (ma_cons me_int ma_nil))) ma_nil))) ma_nil)))))
theorem d__law_spot_less (T : Fx K mg) : Def P w K mg base 5 "_law_spot_less" 2 [] m__law_spot_less := by
  obtain ⟨fd, F⟩ := T.f__law_spot_less
  exact Def.mk' (ps := ["_law_one", "_law_other"]) (N := N__law_spot_less) (k := 4) F T.g__law_spot_less sc__law_spot_less b__law_spot_less ⟨[], [], .nil, F.bindsN (fun _ _ _ _ _ _ us hl => match us, hl with | [_, _], _ => rfl), fun _ _ => .nil⟩ (fun cdv A outer s H E hr => w__law_spot_less T fd cdv A outer s H E hr)
abbrev N__law_dot : List Str := ["_law_way", "_law_spot"]
theorem sc__law_dot : FnScope N__law_dot ["_law_way", "_law_spot"] (defScope (top 30)) := ⟨rfl, rfl, rfl, by decide +kernel, rfl, by decide +kernel, by decide +kernel⟩
theorem w__law_dot (T : Fx K mg) (fd : FuncData) (cdv : Value) (A : Around) (outer : List Env) (s : Shared) (H : Hp) (E : XK) (hr : Room 3 (A.deeper (envOfC "_law_dot" (defScope (top 30)) s.heap.objs.size (He.ga K "_law_dot") cdv))) :
    PSs (cxOf (L2.CX P w) P w K mg base N__law_dot "_law_dot" (defScope (top 30)) (He.ga K "_law_dot") cdv A outer s H E) (defBody (top 30)) (tS K (fun cls d _ H => E cls d H) b__law_dot) := by
  have tk := tk_cx (P := P) (w := w) (K := K) (mg := mg) (base := base) (N := N__law_dot) (qual := "_law_dot") (scope := defScope (top 30)) (f := He.ga K "_law_dot") (cd := cdv) (A := A) (outer := outer) (s := s) (H := H) (E := E)
  exact (mss_one (ms_ret (me_call ((d__law_plus T).mono (by decide)) hr tk (by rfl) (alen_cons (alen_cons alen_nil)) (ma_cons (me_call ((d__law_times T).mono (by decide)) hr tk (by rfl) (alen_cons (alen_cons alen_nil)) (ma_cons (me_tup (ma_cons (me_ix ix_seq o_ix (me_varW (pv 0)) (weak me_int) (fun _ _ => rfl)) (ma_cons me_int ma_nil))) (ma_cons (me_ix ix_seq o_ix (me_varW (pv 1)) (weak me_int) (fun _ _ => rfl)) ma_nil))) (ma_cons (me_call ((d__law_times T).mono (by decide)) hr tk (by rfl) (alen_cons (alen_cons alen_nil)) (ma_cons (me_tup (ma_cons (me_ix ix_seq o_ix (me_varW (pv 0)) (weak me_int) (fun _ _ => rfl)) (ma_cons me_int ma_nil))) (ma_cons (me_ix ix_seq o_ix (me_varW (pv 1)) (weak me_int) (fun _ _ => rfl)) ma_nil))) ma_nil)))))
theorem d__law_dot (T : Fx K mg) : Def P w K mg base 4 "_law_dot" 2 [] m__law_dot := by
  obtain ⟨fd, F⟩ := T.f__law_dot
  exact Def.mk' (ps := ["_law_way", "_law_spot"]) (N := N__law_dot) (k := 3) F T.g__law_dot sc__law_dot b__law_dot ⟨[], [], .nil, F.bindsN (fun _ _ _ _ _ _ us hl => match us, hl with | [_, _], _ => rfl), fun _ _ => .nil⟩ (fun cdv A outer s H E hr => w__law_dot T fd cdv A outer s H E hr)
abbrev N__law_spot_of : List Str := ["_law_way"]
theorem sc__law_spot_of : FnScope N__law_spot_of ["_law_way"] (defScope (top 31)) := ⟨rfl, rfl, rfl, by decide +kernel, rfl, by decide +kernel, by decide +kernel⟩
theorem w__law_spot_of (T : Fx K mg) (fd : FuncData) (cdv : Value) (A : Around) (outer : List Env) (s : Shared) (H : Hp) (E : XK) (hr : Room 0 (A.deeper (envOfC "_law_spot_of" (defScope (top 31)) s.heap.objs.size (He.ga K "_law_spot_of") cdv))) :
    PSs (cxOf (L2.CX P w) P w K mg base N__law_spot_of "_law_spot_of" (defScope (top 31)) (He.ga K "_law_spot_of") cdv A outer s H E) (defBody (top 31)) (tS K (fun cls d _ H => E cls d H) b__law_spot_of) := by
  have tk := tk_cx (P := P) (w := w) (K := K) (mg := mg) (base := base) (N := N__law_spot_of) (qual := "_law_spot_of") (scope := defScope (top 31)) (f := He.ga K "_law_spot_of") (cd := cdv) (A := A) (outer := outer) (s := s) (H := H) (E := E)
  exact (mss_one (ms_ret (me_tup (ma_cons (me_tup (ma_cons (me_ix ix_seq o_ix (me_varW (pv 0)) (weak me_int) (fun _ _ => rfl)) (ma_cons me_int ma_nil))) (ma_cons (me_tup (ma_cons (me_ix ix_seq o_ix (me_varW (pv 0)) (weak me_int) (fun _ _ => rfl)) (ma_cons me_int ma_nil))) ma_nil)))))
theorem d__law_spot_of (T : Fx K mg) : Def P w K mg base 1 "_law_spot_of" 1 [] m__law_spot_of := by
  obtain ⟨fd, F⟩ := T.f__law_spot_of
  exact Def.mk' (ps := ["_law_way"]) (N := N__law_spot_of) (k := 0) F T.g__law_spot_of sc__law_spot_of b__law_spot_of ⟨[], [], .nil, F.bindsN (fun _ _ _ _ _ _ us hl => match us, hl with | [_], _ => rfl), fun _ _ => .nil⟩ (fun cdv A outer s H E hr => w__law_spot_of T fd cdv A outer s H E hr)
abbrev N__law_left : List Str := ["_law_a", "_law_b", "_law_c"]
theorem sc__law_left : FnScope N__law_left ["_law_a", "_law_b", "_law_c"] (defScope (top 33)) := ⟨rfl, rfl, rfl, by decide +kernel, rfl, by decide +kernel, by decide +kernel⟩
theorem w__law_left (T : Fx K mg) (fd : FuncData) (cdv : Value) (A : Around) (outer : List Env) (s : Shared) (H : Hp) (E : XK) (hr : Room 0 (A.deeper (envOfC "_law_left" (defScope (top 33)) s.heap.objs.size (He.ga K "_law_left") cdv))) :
    PSs (cxOf (L2.CX P w) P w K mg base N__law_left "_law_left" (defScope (top 33)) (He.ga K "_law_left") cdv A outer s H E) (defBody (top 33)) (tS K (fun cls d _ H => E cls d H) b__law_left) := by
  have tk := tk_cx (P := P) (w := w) (K := K) (mg := mg) (base := base) (N := N__law_left) (qual := "_law_left") (scope := defScope (top 33)) (f := He.ga K "_law_left") (cd := cdv) (A := A) (outer := outer) (s := s) (H := H) (E := E)
  exact (mss_one (ms_ret (me_op2 op_sub o_sub (weak (me_op2 op_mulW o_mul (weak (me_op2 op_sub o_sub (weak (me_ix ix_seq o_ix (me_varW (pv 1)) (weak me_int) (fun _ _ => rfl))) (weak (me_ix ix_seq o_ix (me_varW (pv 0)) (weak me_int) (fun _ _ => rfl))))) (weak (me_op2 op_sub o_sub (weak (me_ix ix_seq o_ix (me_varW (pv 2)) (weak me_int) (fun _ _ => rfl))) (weak (me_ix ix_seq o_ix (me_varW (pv 0)) (weak me_int) (fun _ _ => rfl))))))) (weak (me_op2 op_mulW o_mul (weak (me_op2 op_sub o_sub (weak (me_ix ix_seq o_ix (me_varW (pv 1)) (weak me_int) (fun _ _ => rfl))) (weak (me_ix ix_seq o_ix (me_varW (pv 0)) (weak me_int) (fun _ _ => rfl))))) (weak (me_op2 op_sub o_sub (weak (me_ix ix_seq o_ix (me_varW (pv 2)) (weak me_int) (fun _ _ => rfl))) (weak (me_ix ix_seq o_ix (me_varW (pv 0)) (weak me_int) (fun _ _ => rfl))))))))))
theorem d__law_left (T : Fx K mg) : Def P w K mg base 1 "_law_left" 3 [] m__law_left := by
  obtain ⟨fd, F⟩ := T.f__law_left
  exact Def.mk' (ps := ["_law_a", "_law_b", "_law_c"]) (N := N__law_left) (k := 0) F T.g__law_left sc__law_left b__law_left ⟨[], [], .nil, F.bindsN (fun _ _ _ _ _ _ us hl => match us, hl with | [_, _, _], _ => rfl), fun _ _ => .nil⟩ (fun cdv A outer s H E hr => w__law_left T fd cdv A outer s H E hr)
abbrev N__law_half : List Str := ["_law_points", "_law_found", "_law_c"]
theorem sc__law_half : FnScope N__law_half ["_law_points"] (defScope (top 32)) := ⟨rfl, rfl, rfl, by decide +kernel, rfl, by decide +kernel, by decide +kernel⟩
theorem w__law_half (T : Fx K mg) (fd : FuncData) (cdv : Value) (A : Around) (outer : List Env) (s : Shared) (H : Hp) (E : XK) (hr : Room 1 (A.deeper (envOfC "_law_half" (defScope (top 32)) s.heap.objs.size (He.ga K "_law_half") cdv))) :
    PSs (cxOf (L2.CX P w) P w K mg base N__law_half "_law_half" (defScope (top 32)) (He.ga K "_law_half") cdv A outer s H E) (defBody (top 32)) (tS K (fun cls d _ H => E cls d H) b__law_half) := by
  have tk := tk_cx (P := P) (w := w) (K := K) (mg := mg) (base := base) (N := N__law_half) (qual := "_law_half") (scope := defScope (top 32)) (f := He.ga K "_law_half") (cd := cdv) (A := A) (outer := outer) (s := s) (H := H) (E := E)
  exact (mss_cons (ms_set (ps_set (i := 1) sc__law_half.nd rfl (Or.inl rfl) (me_new (mf_lst ma_nil))))
  (mss_cons (ms_for po_cx rfl (mi_seq (me_var (pv 0))) (mg_name (pg_name (i := 2) sc__law_half.nd rfl (Or.inl rfl))) (mss_cons (ms_while po_cx (PW.pt (mw_and (mt_cmp2 op_gt o_gt (weak (me_callB call_len3 c_len (by rfl) T.z_len (by decide +kernel) (maw_cons (me_varW (pv 1)) maw_nil))) (weak me_int) (nomark _)) (mw_and1 (mt_cmp2 op_le o_le (weak (me_call ((d__law_left T).mono (by decide)) hr tk (by rfl) (alen_cons (alen_cons (alen_cons alen_nil))) (ma_cons (me_ix ix_seq o_ix (me_varW (pv 1)) (weak (me_un un_neg o_neg (weak me_int))) (fun _ _ => rfl)) (ma_cons (me_ix ix_seq o_ix (me_varW (pv 1)) (weak (me_un un_neg o_neg (weak me_int))) (fun _ _ => rfl)) (ma_cons (me_var (pv 2)) ma_nil))))) (weak me_int) (nomark _))))) (mss_one (ms_set (ps_set (i := 1) sc__law_half.nd rfl (Or.inl rfl) (me_cutA (me_varW (pv 1)) mo_none (mo_some (me_un un_neg o_neg (weak me_int))))))))
  (mss_one (ms_set (ps_set (i := 1) sc__law_half.nd rfl (Or.inl rfl) (me_op2 op_add4 o_add (me_varW (pv 1)) (weak (me_new (mf_lst (ma_cons (me_var (pv 2)) ma_nil))))))))))
  (mss_one (ms_ret (me_cutA (me_varW (pv 1)) mo_none (mo_some (me_un un_neg o_neg (weak me_int))))))))
theorem d__law_half (T : Fx K mg) : Def P w K mg base 2 "_law_half" 1 [] m__law_half := by
  obtain ⟨fd, F⟩ := T.f__law_half
  exact Def.mk' (ps := ["_law_points"]) (N := N__law_half) (k := 1) F T.g__law_half sc__law_half b__law_half ⟨[], [], .nil, F.bindsN (fun _ _ _ _ _ _ us hl => match us, hl with | [_], _ => rfl), fun _ _ => .nil⟩ (fun cdv A outer s H E hr => w__law_half T fd cdv A outer s H E hr)
abbrev N__law_signed : List Str := ["_law_deck", "_law_span"]
theorem sc__law_signed : FnScope N__law_signed ["_law_deck", "_law_span"] (defScope (top 34)) := ⟨rfl, rfl, rfl, by decide +kernel, rfl, by decide +kernel, by decide +kernel⟩
theorem w__law_signed (T : Fx K mg) (fd : FuncData) (cdv : Value) (A : Around) (outer : List Env) (s : Shared) (H : Hp) (E : XK) (hr : Room 3 (A.deeper (envOfC "_law_signed" (defScope (top 34)) s.heap.objs.size (He.ga K "_law_signed") cdv))) :
    PSs (cxOf (L2.CX P w) P w K mg base N__law_signed "_law_signed" (defScope (top 34)) (He.ga K "_law_signed") cdv A outer s H E) (defBody (top 34)) (tS K (fun cls d _ H => E cls d H) b__law_signed) := by
  have tk := tk_cx (P := P) (w := w) (K := K) (mg := mg) (base := base) (N := N__law_signed) (qual := "_law_signed") (scope := defScope (top 34)) (f := He.ga K "_law_signed") (cd := cdv) (A := A) (outer := outer) (s := s) (H := H) (E := E)
  exact (mss_one (ms_ret (me_op2 op_sub o_sub (weak (me_callS ((d__law_take T).mono (by decide)) hr tk (by rfl) (alen_cons (alen_cons alen_nil)) (ma_cons (me_var (pv 0)) (ma_cons (me_op2 op_add4 o_add (weak (me_op2 op_mulW o_mul (weak me_int) (me_varW (pv 1)))) (weak me_int)) ma_nil)))) (me_varW (pv 1)))))
theorem d__law_signed (T : Fx K mg) : Def P w K mg base 4 "_law_signed" 2 [] m__law_signed := by
  obtain ⟨fd, F⟩ := T.f__law_signed
  exact Def.mk' (ps := ["_law_deck", "_law_span"]) (N := N__law_signed) (k := 3) F T.g__law_signed sc__law_signed b__law_signed ⟨[], [], .nil, F.bindsN (fun _ _ _ _ _ _ us hl => match us, hl with | [_, _], _ => rfl), fun _ _ => .nil⟩ (fun cdv A outer s H E hr => w__law_signed T fd cdv A outer s H E hr)
abbrev N__law_drawn_shape : List Str := ["_law_deck", "_law_span", "_law_wide", "_law_high", "_law_points", "_law_found", "_law_turn"]
theorem sc__law_drawn_shape : FnScope N__law_drawn_shape ["_law_deck", "_law_span"] (defScope (top 35)) := ⟨rfl, rfl, rfl, by decide +kernel, rfl, by decide +kernel, by decide +kernel⟩
theorem w__law_drawn_shape (T : Fx K mg) (fd : FuncData) (cdv : Value) (A : Around) (outer : List Env) (s : Shared) (H : Hp) (E : XK) (hr : Room 4 (A.deeper (envOfC "_law_drawn_shape" (defScope (top 35)) s.heap.objs.size (He.ga K "_law_drawn_shape") cdv))) :
    PSs (cxOf (L2.CX P w) P w K mg base N__law_drawn_shape "_law_drawn_shape" (defScope (top 35)) (He.ga K "_law_drawn_shape") cdv A outer s H E) (defBody (top 35)) (tS K (fun cls d _ H => E cls d H) b__law_drawn_shape) := by
  have tk := tk_cx (P := P) (w := w) (K := K) (mg := mg) (base := base) (N := N__law_drawn_shape) (qual := "_law_drawn_shape") (scope := defScope (top 35)) (f := He.ga K "_law_drawn_shape") (cd := cdv) (A := A) (outer := outer) (s := s) (H := H) (E := E)
  exact (mss_cons (ms_set (ps_set (i := 2) sc__law_drawn_shape.nd rfl (Or.inl rfl) (me_op2 op_add4 o_add (weak me_int) (weak (me_callS ((d__law_take T).mono (by decide)) hr tk (by rfl) (alen_cons (alen_cons alen_nil)) (ma_cons (me_var (pv 0)) (ma_cons (me_var (pv 1)) ma_nil)))))))
  (mss_cons (ms_if (mt_cmp2 op_gt o_gt (weak (me_callS ((d__law_take T).mono (by decide)) hr tk (by rfl) (alen_cons (alen_cons alen_nil)) (ma_cons (me_var (pv 0)) (ma_cons me_int ma_nil)))) (weak me_int) (nomark _)) (mss_cons (ms_set (ps_set (i := 3) sc__law_drawn_shape.nd rfl (Or.inl rfl) (me_op2 op_add4 o_add (weak me_int) (weak (me_callS ((d__law_take T).mono (by decide)) hr tk (by rfl) (alen_cons (alen_cons alen_nil)) (ma_cons (me_var (pv 0)) (ma_cons (me_var (pv 1)) ma_nil)))))))
  (mss_one (ms_ret (me_tup (ma_cons (me_tup (ma_cons me_int (ma_cons me_int ma_nil))) (ma_cons (me_tup (ma_cons (me_var (pv 2)) (ma_cons me_int ma_nil))) (ma_cons (me_tup (ma_cons (me_var (pv 2)) (ma_cons (me_var (pv 3)) ma_nil))) (ma_cons (me_tup (ma_cons me_int (ma_cons (me_var (pv 3)) ma_nil))) ma_nil)))))))) mss_nil)
  (mss_cons (ms_set (ps_set (i := 4) sc__law_drawn_shape.nd rfl (Or.inl rfl) (me_new (mf_sortD hr.units (by rfl) T.z_sorted (maw_cons (weak (me_new (mf_lc (own := [("_law_turn", 6)]) (ws := [6]) rfl sc__law_drawn_shape.nd (toO (mi_range1 (by rfl) T.z_range (maw_cons (weak (me_op2 op_add4 o_add (weak me_int) (weak (me_callS ((d__law_take T).mono (by decide)) hr tk (by rfl) (alen_cons (alen_cons alen_nil)) (ma_cons (me_var (pv 0)) (ma_cons me_int ma_nil)))))) maw_nil))) (blkOk_by (N := N__law_drawn_shape) (sc := defScope (top 35)) (by decide +kernel)) (by decide) (fun _ _ _ _ _ => (mg_name (pg_name (i := 6) sc__law_drawn_shape.nd rfl (Or.inl rfl)))) (fun _ _ _ _ _ => mts_nil) (fun _ _ _ _ _ => (me_tup (ma_cons (me_callS ((d__law_signed T).mono (by decide)) hr takes0 (by rfl) (alen_cons (alen_cons alen_nil)) (ma_cons (me_var (pv 0)) (ma_cons (me_var (pv 1)) ma_nil))) (ma_cons (me_callS ((d__law_signed T).mono (by decide)) hr takes0 (by rfl) (alen_cons (alen_cons alen_nil)) (ma_cons (me_var (pv 0)) (ma_cons (me_var (pv 1)) ma_nil))) ma_nil))))))) maw_nil)))))
  (mss_cons (ms_set (ps_set (i := 5) sc__law_drawn_shape.nd rfl (Or.inl rfl) (me_callTy call_tuple_of c_tup (by rfl) T.z_tuple (by decide +kernel) (maw_cons (weak (me_op2 op_add4 o_add (weak (me_call ((d__law_half T).mono (by decide)) hr tk (by rfl) (alen_cons alen_nil) (ma_cons (me_var (pv 4)) ma_nil))) (weak (me_call ((d__law_half T).mono (by decide)) hr tk (by rfl) (alen_cons alen_nil) (ma_cons (me_new (mf_rev (me_varW (pv 4)))) ma_nil))))) maw_nil))))
  (mss_cons (ms_if (mt_cmp2 op_lt o_lt (weak (me_callB call_len3 c_len (by rfl) T.z_len (by decide +kernel) (maw_cons (me_varW (pv 5)) maw_nil))) (weak me_int) (nomark _)) (mss_one (ms_ret (me_tup (ma_cons (me_tup (ma_cons me_int (ma_cons me_int ma_nil))) (ma_cons (me_tup (ma_cons (me_var (pv 2)) (ma_cons me_int ma_nil))) (ma_cons (me_tup (ma_cons me_int (ma_cons me_int ma_nil))) ma_nil)))))) mss_nil)
  (mss_one (ms_ret (me_var (pv 5)))))))))
theorem d__law_drawn_shape (T : Fx K mg) : Def P w K mg base 5 "_law_drawn_shape" 2 [] m__law_drawn_shape := by
  obtain ⟨fd, F⟩ := T.f__law_drawn_shape
  exact Def.mk' (ps := ["_law_deck", "_law_span"]) (N := N__law_drawn_shape) (k := 4) F T.g__law_drawn_shape sc__law_drawn_shape b__law_drawn_shape ⟨[], [], .nil, F.bindsN (fun _ _ _ _ _ _ us hl => match us, hl with | [_, _], _ => rfl), fun _ _ => .nil⟩ (fun cdv A outer s H E hr => w__law_drawn_shape T fd cdv A outer s H E hr)
abbrev N__law_drawn_size : List Str := ["_law_deck", "_law_span"]
theorem sc__law_drawn_size : FnScope N__law_drawn_size ["_law_deck", "_law_span"] (defScope (top 36)) := ⟨rfl, rfl, rfl, by decide +kernel, rfl, by decide +kernel, by decide +kernel⟩
theorem w__law_drawn_size (T : Fx K mg) (fd : FuncData) (cdv : Value) (A : Around) (outer : List Env) (s : Shared) (H : Hp) (E : XK) (hr : Room 4 (A.deeper (envOfC "_law_drawn_size" (defScope (top 36)) s.heap.objs.size (He.ga K "_law_drawn_size") cdv))) :
    PSs (cxOf (L2.CX P w) P w K mg base N__law_drawn_size "_law_drawn_size" (defScope (top 36)) (He.ga K "_law_drawn_size") cdv A outer s H E) (defBody (top 36)) (tS K (fun cls d _ H => E cls d H) b__law_drawn_size) := by
  have tk := tk_cx (P := P) (w := w) (K := K) (mg := mg) (base := base) (N := N__law_drawn_size) (qual := "_law_drawn_size") (scope := defScope (top 36)) (f := He.ga K "_law_drawn_size") (cd := cdv) (A := A) (outer := outer) (s := s) (H := H) (E := E)
  exact (mss_one (ms_ret (me_call ((d__law_lowest T).mono (by decide)) hr tk (by rfl) (alen_cons (alen_cons alen_nil)) (ma_cons (me_callS ((d__law_signed T).mono (by decide)) hr tk (by rfl) (alen_cons (alen_cons alen_nil)) (ma_cons (me_var (pv 0)) (ma_cons (me_var (pv 1)) ma_nil))) (ma_cons (me_op2 op_add4 o_add (weak me_int) (weak (me_op2 op_mulW o_mul (weak (me_callS ((d__law_take T).mono (by decide)) hr tk (by rfl) (alen_cons (alen_cons alen_nil)) (ma_cons (me_var (pv 0)) (ma_cons me_int ma_nil)))) (weak (me_callS ((d__law_take T).mono (by decide)) hr tk (by rfl) (alen_cons (alen_cons alen_nil)) (ma_cons (me_var (pv 0)) (ma_cons me_int ma_nil))))))) ma_nil)))))
theorem d__law_drawn_size (T : Fx K mg) : Def P w K mg base 5 "_law_drawn_size" 2 [] m__law_drawn_size := by
  obtain ⟨fd, F⟩ := T.f__law_drawn_size
  exact Def.mk' (ps := ["_law_deck", "_law_span"]) (N := N__law_drawn_size) (k := 4) F T.g__law_drawn_size sc__law_drawn_size b__law_drawn_size ⟨[], [], .nil, F.bindsN (fun _ _ _ _ _ _ us hl => match us, hl with | [_, _], _ => rfl), fun _ _ => .nil⟩ (fun cdv A outer s H E hr => w__law_drawn_size T fd cdv A outer s H E hr)
abbrev N__law_above : List Str := ["_law_deck", "_law_span"]
theorem sc__law_above : FnScope N__law_above ["_law_deck", "_law_span"] (defScope (top 37)) := ⟨rfl, rfl, rfl, by decide +kernel, rfl, by decide +kernel, by decide +kernel⟩
theorem w__law_above (T : Fx K mg) (fd : FuncData) (cdv : Value) (A : Around) (outer : List Env) (s : Shared) (H : Hp) (E : XK) (hr : Room 3 (A.deeper (envOfC "_law_above" (defScope (top 37)) s.heap.objs.size (He.ga K "_law_above") cdv))) :
    PSs (cxOf (L2.CX P w) P w K mg base N__law_above "_law_above" (defScope (top 37)) (He.ga K "_law_above") cdv A outer s H E) (defBody (top 37)) (tS K (fun cls d _ H => E cls d H) b__law_above) := by
  have tk := tk_cx (P := P) (w := w) (K := K) (mg := mg) (base := base) (N := N__law_above) (qual := "_law_above") (scope := defScope (top 37)) (f := He.ga K "_law_above") (cd := cdv) (A := A) (outer := outer) (s := s) (H := H) (E := E)
  exact (mss_one (ms_ret (me_call ((d__law_lowest T).mono (by decide)) hr tk (by rfl) (alen_cons (alen_cons alen_nil)) (ma_cons (me_op2 op_add4 o_add (weak me_int) (weak (me_callS ((d__law_take T).mono (by decide)) hr tk (by rfl) (alen_cons (alen_cons alen_nil)) (ma_cons (me_var (pv 0)) (ma_cons (me_var (pv 1)) ma_nil))))) (ma_cons (me_op2 op_add4 o_add (weak me_int) (weak (me_op2 op_mulW o_mul (weak (me_callS ((d__law_take T).mono (by decide)) hr tk (by rfl) (alen_cons (alen_cons alen_nil)) (ma_cons (me_var (pv 0)) (ma_cons me_int ma_nil)))) (weak (me_callS ((d__law_take T).mono (by decide)) hr tk (by rfl) (alen_cons (alen_cons alen_nil)) (ma_cons (me_var (pv 0)) (ma_cons me_int ma_nil))))))) ma_nil)))))
theorem d__law_above (T : Fx K mg) : Def P w K mg base 4 "_law_above" 2 [] m__law_above := by
  obtain ⟨fd, F⟩ := T.f__law_above
  exact Def.mk' (ps := ["_law_deck", "_law_span"]) (N := N__law_above) (k := 3) F T.g__law_above sc__law_above b__law_above ⟨[], [], .nil, F.bindsN (fun _ _ _ _ _ _ us hl => match us, hl with | [_, _], _ => rfl), fun _ _ => .nil⟩ (fun cdv A outer s H E hr => w__law_above T fd cdv A outer s H E hr)
abbrev N__law_side_ways : List Str := ["_law_shape", "_law_found", "_law_k", "_law_a", "_law_b", "_law_part"]
theorem sc__law_side_ways : FnScope N__law_side_ways ["_law_shape"] (defScope (top 38)) := ⟨rfl, rfl, rfl, by decide +kernel, rfl, by decide +kernel, by decide +kernel⟩
theorem w__law_side_ways (T : Fx K mg) (fd : FuncData) (cdv : Value) (A : Around) (outer : List Env) (s : Shared) (H : Hp) (E : XK) (hr : Room 1 (A.deeper (envOfC "_law_side_ways" (defScope (top 38)) s.heap.objs.size (He.ga K "_law_side_ways") cdv))) :
    PSs (cxOf (L2.CX P w) P w K mg base N__law_side_ways "_law_side_ways" (defScope (top 38)) (He.ga K "_law_side_ways") cdv A outer s H E) (defBody (top 38)) (tS K (fun cls d _ H => E cls d H) b__law_side_ways) := by
  have tk := tk_cx (P := P) (w := w) (K := K) (mg := mg) (base := base) (N := N__law_side_ways) (qual := "_law_side_ways") (scope := defScope (top 38)) (f := He.ga K "_law_side_ways") (cd := cdv) (A := A) (outer := outer) (s := s) (H := H) (E := E)
  exact (mss_cons (ms_setOwn (ps_set (i := 1) sc__law_side_ways.nd rfl (Or.inl rfl) (mf_lst ma_nil)))
  (mss_cons (ms_for po_cx rfl (mi_enum2 (by rfl) T.z_enumerate (ma_cons (me_var (pv 0)) ma_nil)) (mg_tup rfl (glen_cons (glen_cons glen_nil)) (mgs_cons (mg_name (pg_name (i := 2) sc__law_side_ways.nd rfl (Or.inl rfl))) (mgs_cons (mg_name (pg_name (i := 3) sc__law_side_ways.nd rfl (Or.inl rfl))) mgs_nil))) (mss_cons (ms_set (ps_set (i := 4) sc__law_side_ways.nd rfl (Or.inl rfl) (me_ix ix_seq o_ix (me_varW (pv 0)) (weak (me_op2 op_modN o_mod (weak (me_op2 op_add4 o_add (me_varW (pv 2)) (weak me_int))) (weak (me_callB call_len3 c_len (by rfl) T.z_len (by decide +kernel) (maw_cons (me_varW (pv 0)) maw_nil))))) (fun _ _ => rfl))))
  (mss_cons (ms_set (ps_set (i := 5) sc__law_side_ways.nd rfl (Or.inl rfl) (me_call ((d__law_gcd T).mono (by decide)) hr tk (by rfl) (alen_cons (alen_cons alen_nil)) (ma_cons (me_op2 op_sub o_sub (weak (me_ix ix_seq o_ix (me_varW (pv 4)) (weak me_int) (fun _ _ => rfl))) (weak (me_ix ix_seq o_ix (me_varW (pv 3)) (weak me_int) (fun _ _ => rfl)))) (ma_cons (me_op2 op_sub o_sub (weak (me_ix ix_seq o_ix (me_varW (pv 3)) (weak me_int) (fun _ _ => rfl))) (weak (me_ix ix_seq o_ix (me_varW (pv 4)) (weak me_int) (fun _ _ => rfl)))) ma_nil)))))
  (mss_one (ms_app (ps_expr (pe_bm PySem.F.plainAttrs_list PySem.F.slot_list_append PySem.F.type_list_append mt_append (pv 1) (pa_cons (me_tup (ma_cons (me_op2 op_fdivB o_div (weak (me_op2 op_sub o_sub (weak (me_ix ix_seq o_ix (me_varW (pv 4)) (weak me_int) (fun _ _ => rfl))) (weak (me_ix ix_seq o_ix (me_varW (pv 3)) (weak me_int) (fun _ _ => rfl))))) (me_varW (pv 5))) (ma_cons (me_op2 op_fdivB o_div (weak (me_op2 op_sub o_sub (weak (me_ix ix_seq o_ix (me_varW (pv 3)) (weak me_int) (fun _ _ => rfl))) (weak (me_ix ix_seq o_ix (me_varW (pv 4)) (weak me_int) (fun _ _ => rfl))))) (me_varW (pv 5))) ma_nil))) pa_nil))))))))
  (mss_frz (mss_one (ms_ret (me_var (pv 1)))))))
theorem d__law_side_ways (T : Fx K mg) : Def P w K mg base 2 "_law_side_ways" 1 [] m__law_side_ways := by
  obtain ⟨fd, F⟩ := T.f__law_side_ways
  exact Def.mk' (ps := ["_law_shape"]) (N := N__law_side_ways) (k := 1) F T.g__law_side_ways sc__law_side_ways b__law_side_ways ⟨[], [], .nil, F.bindsN (fun _ _ _ _ _ _ us hl => match us, hl with | [_], _ => rfl), fun _ _ => .nil⟩ (fun cdv A outer s H E hr => w__law_side_ways T fd cdv A outer s H E hr)
abbrev N__law_pair_ways : List Str := ["_law_one", "_law_other", "_law_found", "_law_turned", "_law_p", "_law_q", "_law_way"]
theorem sc__law_pair_ways : FnScope N__law_pair_ways ["_law_one", "_law_other"] (defScope (top 39)) := ⟨rfl, rfl, rfl, by decide +kernel, rfl, by decide +kernel, by decide +kernel⟩
theorem w__law_pair_ways (T : Fx K mg) (fd : FuncData) (cdv : Value) (A : Around) (outer : List Env) (s : Shared) (H : Hp) (E : XK) (hr : Room 2 (A.deeper (envOfC "_law_pair_ways" (defScope (top 39)) s.heap.objs.size (He.ga K "_law_pair_ways") cdv))) :
    PSs (cxOf (L2.CX P w) P w K mg base N__law_pair_ways "_law_pair_ways" (defScope (top 39)) (He.ga K "_law_pair_ways") cdv A outer s H E) (defBody (top 39)) (tS K (fun cls d _ H => E cls d H) b__law_pair_ways) := by
  have tk := tk_cx (P := P) (w := w) (K := K) (mg := mg) (base := base) (N := N__law_pair_ways) (qual := "_law_pair_ways") (scope := defScope (top 39)) (f := He.ga K "_law_pair_ways") (cd := cdv) (A := A) (outer := outer) (s := s) (H := H) (E := E)
  exact (mss_cons (ms_set (ps_set (i := 2) sc__law_pair_ways.nd rfl (Or.inr rfl) (me_call ((d__law_side_ways T).mono (by decide)) hr tk (by rfl) (alen_cons alen_nil) (ma_cons (me_ix ix_seq o_ix (me_varW (pv 0)) (weak me_int) (fun _ _ => rfl)) ma_nil))))
  (mss_cons (ms_lc (by decide) (ps_setLc (i := 3) (own := [("_law_p", 4), ("_law_q", 5)]) rfl sc__law_pair_ways.nd rfl rfl (sw_true rfl rfl rfl (by decide +kernel)) (toO (mi_seq (me_call ((d__law_side_ways T).mono (by decide)) hr tk (by rfl) (alen_cons alen_nil) (ma_cons (me_ix ix_seq o_ix (me_varW (pv 1)) (weak me_int) (fun _ _ => rfl)) ma_nil)))) (blkOk_by (N := N__law_pair_ways) (sc := defScope (top 39)) (by decide +kernel)) (fun _ _ _ _ _ => (mg_tup rfl (glen_cons (glen_cons glen_nil)) (mgs_cons (mg_name (pg_name (i := 4) sc__law_pair_ways.nd rfl (Or.inl rfl))) (mgs_cons (mg_name (pg_name (i := 5) sc__law_pair_ways.nd rfl (Or.inl rfl))) mgs_nil)))) (fun _ _ _ _ _ => mts_nil) (fun _ _ _ _ _ => (me_tup (ma_cons (me_un un_neg o_neg (me_varW (pv 4))) (ma_cons (me_un un_neg o_neg (me_varW (pv 5))) ma_nil))))))
  (mss_one (ms_ret (me_new (mf_sortD hr.units (by rfl) T.z_sorted (maw_cons (weak (me_op2 op_add4 o_add (me_varW (pv 2)) (weak (me_new (mf_lc (own := [("_law_way", 6)]) (ws := [6]) rfl sc__law_pair_ways.nd (toO (mi_seq (me_var (pv 3)))) (blkOk_by (N := N__law_pair_ways) (sc := defScope (top 39)) (by decide +kernel)) (by decide) (fun _ _ _ _ _ => (mg_name (pg_name (i := 6) sc__law_pair_ways.nd rfl (Or.inl rfl)))) (fun _ _ _ _ _ => (mts_one (mt_cmp2 (op_notInD (room65 hr)) o_notin (me_varW (pv 6)) (me_varW (pv 2)) (by rfl)))) (fun _ _ _ _ _ => (me_var (pv 6)))))))) maw_nil)))))))
theorem d__law_pair_ways (T : Fx K mg) : Def P w K mg base 3 "_law_pair_ways" 2 [] m__law_pair_ways := by
  obtain ⟨fd, F⟩ := T.f__law_pair_ways
  exact Def.mk' (ps := ["_law_one", "_law_other"]) (N := N__law_pair_ways) (k := 2) F T.g__law_pair_ways sc__law_pair_ways b__law_pair_ways ⟨[], [], .nil, F.bindsN (fun _ _ _ _ _ _ us hl => match us, hl with | [_, _], _ => rfl), fun _ _ => .nil⟩ (fun cdv A outer s H E hr => w__law_pair_ways T fd cdv A outer s H E hr)
abbrev N__law_far : List Str := ["_law_shape", "_law_way", "_law_corner"]
theorem sc__law_far : FnScope N__law_far ["_law_shape", "_law_way"] (defScope (top 40)) := ⟨rfl, rfl, rfl, by decide +kernel, rfl, by decide +kernel, by decide +kernel⟩
theorem w__law_far (T : Fx K mg) (fd : FuncData) (cdv : Value) (A : Around) (outer : List Env) (s : Shared) (H : Hp) (E : XK) (hr : Room 0 (A.deeper (envOfC "_law_far" (defScope (top 40)) s.heap.objs.size (He.ga K "_law_far") cdv))) :
    PSs (cxOf (L2.CX P w) P w K mg base N__law_far "_law_far" (defScope (top 40)) (He.ga K "_law_far") cdv A outer s H E) (defBody (top 40)) (tS K (fun cls d _ H => E cls d H) b__law_far) := by
  have tk := tk_cx (P := P) (w := w) (K := K) (mg := mg) (base := base) (N := N__law_far) (qual := "_law_far") (scope := defScope (top 40)) (f := He.ga K "_law_far") (cd := cdv) (A := A) (outer := outer) (s := s) (H := H) (E := E)
  exact (mss_one (ms_ret (me_callB (cr_max rfl) c_maxL (by rfl) T.z_max (by decide +kernel) (maw_cons (weak (me_new (mf_lc (own := [("_law_corner", 2)]) (ws := [2]) rfl sc__law_far.nd (toO (mi_seq (me_var (pv 0)))) (blkOk_by (N := N__law_far) (sc := defScope (top 40)) (by decide +kernel)) (by decide) (fun _ _ _ _ _ => (mg_name (pg_name (i := 2) sc__law_far.nd rfl (Or.inl rfl)))) (fun _ _ _ _ _ => mts_nil) (fun _ _ _ _ _ => (me_op2 op_add4 o_add (weak (me_op2 op_mulW o_mul (weak (me_ix ix_seq o_ix (me_varW (pv 1)) (weak me_int) (fun _ _ => rfl))) (weak (me_ix ix_seq o_ix (me_varW (pv 2)) (weak me_int) (fun _ _ => rfl))))) (weak (me_op2 op_mulW o_mul (weak (me_ix ix_seq o_ix (me_varW (pv 1)) (weak me_int) (fun _ _ => rfl))) (weak (me_ix ix_seq o_ix (me_varW (pv 2)) (weak me_int) (fun _ _ => rfl)))))))))) maw_nil))))
theorem d__law_far (T : Fx K mg) : Def P w K mg base 1 "_law_far" 2 [] m__law_far := by
  obtain ⟨fd, F⟩ := T.f__law_far
  exact Def.mk' (ps := ["_law_shape", "_law_way"]) (N := N__law_far) (k := 0) F T.g__law_far sc__law_far b__law_far ⟨[], [], .nil, F.bindsN (fun _ _ _ _ _ _ us hl => match us, hl with | [_, _], _ => rfl), fun _ _ => .nil⟩ (fun cdv A outer s H E hr => w__law_far T fd cdv A outer s H E hr)
abbrev N__law_speed : List Str := ["_law_one", "_law_other", "_law_way"]
theorem sc__law_speed : FnScope N__law_speed ["_law_one", "_law_other", "_law_way"] (defScope (top 41)) := ⟨rfl, rfl, rfl, by decide +kernel, rfl, by decide +kernel, by decide +kernel⟩
theorem w__law_speed (T : Fx K mg) (fd : FuncData) (cdv : Value) (A : Around) (outer : List Env) (s : Shared) (H : Hp) (E : XK) (hr : Room 5 (A.deeper (envOfC "_law_speed" (defScope (top 41)) s.heap.objs.size (He.ga K "_law_speed") cdv))) :
    PSs (cxOf (L2.CX P w) P w K mg base N__law_speed "_law_speed" (defScope (top 41)) (He.ga K "_law_speed") cdv A outer s H E) (defBody (top 41)) (tS K (fun cls d _ H => E cls d H) b__law_speed) := by
  have tk := tk_cx (P := P) (w := w) (K := K) (mg := mg) (base := base) (N := N__law_speed) (qual := "_law_speed") (scope := defScope (top 41)) (f := He.ga K "_law_speed") (cd := cdv) (A := A) (outer := outer) (s := s) (H := H) (E := E)
  exact (mss_one (ms_ret (me_call ((d__law_dot T).mono (by decide)) hr tk (by rfl) (alen_cons (alen_cons alen_nil)) (ma_cons (me_var (pv 2)) (ma_cons (me_call ((d__law_spot_less T).mono (by decide)) hr tk (by rfl) (alen_cons (alen_cons alen_nil)) (ma_cons (me_ix ix_seq o_ix (me_varW (pv 1)) (weak me_int) (fun _ _ => rfl)) (ma_cons (me_ix ix_seq o_ix (me_varW (pv 0)) (weak me_int) (fun _ _ => rfl)) ma_nil))) ma_nil)))))
theorem d__law_speed (T : Fx K mg) : Def P w K mg base 6 "_law_speed" 3 [] m__law_speed := by
  obtain ⟨fd, F⟩ := T.f__law_speed
  exact Def.mk' (ps := ["_law_one", "_law_other", "_law_way"]) (N := N__law_speed) (k := 5) F T.g__law_speed sc__law_speed b__law_speed ⟨[], [], .nil, F.bindsN (fun _ _ _ _ _ _ us hl => match us, hl with | [_, _, _], _ => rfl), fun _ _ => .nil⟩ (fun cdv A outer s H E hr => w__law_speed T fd cdv A outer s H E hr)
abbrev N__law_between : List Str := ["_law_one", "_law_other", "_law_after", "_law_gone"]
theorem sc__law_between : FnScope N__law_between ["_law_one", "_law_other", "_law_after"] (defScope (top 42)) := ⟨rfl, rfl, rfl, by decide +kernel, rfl, by decide +kernel, by decide +kernel⟩
theorem w__law_between (T : Fx K mg) (fd : FuncData) (cdv : Value) (A : Around) (outer : List Env) (s : Shared) (H : Hp) (E : XK) (hr : Room 5 (A.deeper (envOfC "_law_between" (defScope (top 42)) s.heap.objs.size (He.ga K "_law_between") cdv))) :
    PSs (cxOf (L2.CX P w) P w K mg base N__law_between "_law_between" (defScope (top 42)) (He.ga K "_law_between") cdv A outer s H E) (defBody (top 42)) (tS K (fun cls d _ H => E cls d H) b__law_between) := by
  have tk := tk_cx (P := P) (w := w) (K := K) (mg := mg) (base := base) (N := N__law_between) (qual := "_law_between") (scope := defScope (top 42)) (f := He.ga K "_law_between") (cd := cdv) (A := A) (outer := outer) (s := s) (H := H) (E := E)
  exact (mss_cons (ms_set (ps_set (i := 3) sc__law_between.nd rfl (Or.inl rfl) (me_call ((d__law_spot_less T).mono (by decide)) hr tk (by rfl) (alen_cons (alen_cons alen_nil)) (ma_cons (me_ix ix_seq o_ix (me_varW (pv 1)) (weak me_int) (fun _ _ => rfl)) (ma_cons (me_ix ix_seq o_ix (me_varW (pv 0)) (weak me_int) (fun _ _ => rfl)) ma_nil)))))
  (mss_cons (ms_set (ps_set (i := 3) sc__law_between.nd rfl (Or.inl rfl) (me_call ((d__law_spot_plus T).mono (by decide)) hr tk (by rfl) (alen_cons (alen_cons alen_nil)) (ma_cons (me_var (pv 3)) (ma_cons (me_call ((d__law_spot_times T).mono (by decide)) hr tk (by rfl) (alen_cons (alen_cons alen_nil)) (ma_cons (me_call ((d__law_spot_less T).mono (by decide)) hr tk (by rfl) (alen_cons (alen_cons alen_nil)) (ma_cons (me_ix ix_seq o_ix (me_varW (pv 1)) (weak me_int) (fun _ _ => rfl)) (ma_cons (me_ix ix_seq o_ix (me_varW (pv 0)) (weak me_int) (fun _ _ => rfl)) ma_nil))) (ma_cons (me_var (pv 2)) ma_nil))) ma_nil)))))
  (mss_one (ms_ret (me_tup (ma_cons (me_op2 op_mulW o_mul (weak (me_ix ix_seq o_ix (weak (me_ix ix_seq o_ix (me_varW (pv 3)) (weak me_int) (fun _ _ => rfl))) (weak me_int) (fun _ _ => rfl))) (weak (me_ix ix_seq o_ix (weak (me_ix ix_seq o_ix (me_varW (pv 3)) (weak me_int) (fun _ _ => rfl))) (weak me_int) (fun _ _ => rfl)))) (ma_cons (me_op2 op_mulW o_mul (weak (me_ix ix_seq o_ix (weak (me_ix ix_seq o_ix (me_varW (pv 3)) (weak me_int) (fun _ _ => rfl))) (weak me_int) (fun _ _ => rfl))) (weak (me_ix ix_seq o_ix (weak (me_ix ix_seq o_ix (me_varW (pv 3)) (weak me_int) (fun _ _ => rfl))) (weak me_int) (fun _ _ => rfl)))) (ma_cons (me_op2 op_mulW o_mul (weak (me_ix ix_seq o_ix (weak (me_ix ix_seq o_ix (me_varW (pv 3)) (weak me_int) (fun _ _ => rfl))) (weak me_int) (fun _ _ => rfl))) (weak (me_ix ix_seq o_ix (weak (me_ix ix_seq o_ix (me_varW (pv 3)) (weak me_int) (fun _ _ => rfl))) (weak me_int) (fun _ _ => rfl)))) ma_nil))))))))
theorem d__law_between (T : Fx K mg) : Def P w K mg base 6 "_law_between" 3 [] m__law_between := by
  obtain ⟨fd, F⟩ := T.f__law_between
  exact Def.mk' (ps := ["_law_one", "_law_other", "_law_after"]) (N := N__law_between) (k := 5) F T.g__law_between sc__law_between b__law_between ⟨[], [], .nil, F.bindsN (fun _ _ _ _ _ _ us hl => match us, hl with | [_, _, _], _ => rfl), fun _ _ => .nil⟩ (fun cdv A outer s H E hr => w__law_between T fd cdv A outer s H E hr)
abbrev N__law_room_by : List Str := ["_law_one", "_law_other", "_law_way", "_law_gone", "_law_wide"]
theorem sc__law_room_by : FnScope N__law_room_by ["_law_one", "_law_other", "_law_way", "_law_gone"] (defScope (top 43)) := ⟨rfl, rfl, rfl, by decide +kernel, rfl, by decide +kernel, by decide +kernel⟩
theorem w__law_room_by (T : Fx K mg) (fd : FuncData) (cdv : Value) (A : Around) (outer : List Env) (s : Shared) (H : Hp) (E : XK) (hr : Room 1 (A.deeper (envOfC "_law_room_by" (defScope (top 43)) s.heap.objs.size (He.ga K "_law_room_by") cdv))) :
    PSs (cxOf (L2.CX P w) P w K mg base N__law_room_by "_law_room_by" (defScope (top 43)) (He.ga K "_law_room_by") cdv A outer s H E) (defBody (top 43)) (tS K (fun cls d _ H => E cls d H) b__law_room_by) := by
  have tk := tk_cx (P := P) (w := w) (K := K) (mg := mg) (base := base) (N := N__law_room_by) (qual := "_law_room_by") (scope := defScope (top 43)) (f := He.ga K "_law_room_by") (cd := cdv) (A := A) (outer := outer) (s := s) (H := H) (E := E)
  exact (mss_cons (ms_set (ps_set (i := 4) sc__law_room_by.nd rfl (Or.inl rfl) (me_op2 op_add4 o_add (weak (me_call ((d__law_far T).mono (by decide)) hr tk (by rfl) (alen_cons (alen_cons alen_nil)) (ma_cons (me_ix ix_seq o_ix (me_varW (pv 0)) (weak me_int) (fun _ _ => rfl)) (ma_cons (me_var (pv 2)) ma_nil)))) (weak (me_call ((d__law_far T).mono (by decide)) hr tk (by rfl) (alen_cons (alen_cons alen_nil)) (ma_cons (me_ix ix_seq o_ix (me_varW (pv 1)) (weak me_int) (fun _ _ => rfl)) (ma_cons (me_tup (ma_cons (me_un un_neg o_neg (weak (me_ix ix_seq o_ix (me_varW (pv 2)) (weak me_int) (fun _ _ => rfl)))) (ma_cons (me_un un_neg o_neg (weak (me_ix ix_seq o_ix (me_varW (pv 2)) (weak me_int) (fun _ _ => rfl)))) ma_nil))) ma_nil)))))))
  (mss_one (ms_ret (me_op2 op_sub o_sub (weak (me_op2 op_add4 o_add (weak (me_op2 op_mulW o_mul (weak (me_ix ix_seq o_ix (me_varW (pv 2)) (weak me_int) (fun _ _ => rfl))) (weak (me_ix ix_seq o_ix (me_varW (pv 3)) (weak me_int) (fun _ _ => rfl))))) (weak (me_op2 op_mulW o_mul (weak (me_ix ix_seq o_ix (me_varW (pv 2)) (weak me_int) (fun _ _ => rfl))) (weak (me_ix ix_seq o_ix (me_varW (pv 3)) (weak me_int) (fun _ _ => rfl))))))) (weak (me_op2 op_mulW o_mul (me_varW (pv 4)) (weak (me_ix ix_seq o_ix (me_varW (pv 3)) (weak me_int) (fun _ _ => rfl)))))))))
theorem d__law_room_by (T : Fx K mg) : Def P w K mg base 2 "_law_room_by" 4 [] m__law_room_by := by
  obtain ⟨fd, F⟩ := T.f__law_room_by
  exact Def.mk' (ps := ["_law_one", "_law_other", "_law_way", "_law_gone"]) (N := N__law_room_by) (k := 1) F T.g__law_room_by sc__law_room_by b__law_room_by ⟨[], [], .nil, F.bindsN (fun _ _ _ _ _ _ us hl => match us, hl with | [_, _, _, _], _ => rfl), fun _ _ => .nil⟩ (fun cdv A outer s H E hr => w__law_room_by T fd cdv A outer s H E hr)
abbrev N__law_rooms : List Str := ["_law_a", "_law_b", "_law_after", "_law_gone", "_law_way"]
theorem sc__law_rooms : FnScope N__law_rooms ["_law_a", "_law_b", "_law_after"] (defScope (top 44)) := ⟨rfl, rfl, rfl, by decide +kernel, rfl, by decide +kernel, by decide +kernel⟩
theorem w__law_rooms (T : Fx K mg) (fd : FuncData) (cdv : Value) (A : Around) (outer : List Env) (s : Shared) (H : Hp) (E : XK) (hr : Room 6 (A.deeper (envOfC "_law_rooms" (defScope (top 44)) s.heap.objs.size (He.ga K "_law_rooms") cdv))) :
    PSs (cxOf (L2.CX P w) P w K mg base N__law_rooms "_law_rooms" (defScope (top 44)) (He.ga K "_law_rooms") cdv A outer s H E) (defBody (top 44)) (tS K (fun cls d _ H => E cls d H) b__law_rooms) := by
  have tk := tk_cx (P := P) (w := w) (K := K) (mg := mg) (base := base) (N := N__law_rooms) (qual := "_law_rooms") (scope := defScope (top 44)) (f := He.ga K "_law_rooms") (cd := cdv) (A := A) (outer := outer) (s := s) (H := H) (E := E)
  exact (mss_cons (ms_set (ps_set (i := 3) sc__law_rooms.nd rfl (Or.inr rfl) (me_call ((d__law_between T).mono (by decide)) hr tk (by rfl) (alen_cons (alen_cons (alen_cons alen_nil))) (ma_cons (me_var (pv 0)) (ma_cons (me_var (pv 1)) (ma_cons (me_var (pv 2)) ma_nil))))))
  (mss_one (ms_ret (me_new (mf_lc (own := [("_law_way", 4)]) (ws := [4]) rfl sc__law_rooms.nd (toO (mi_seq (me_call ((d__law_pair_ways T).mono (by decide)) hr tk (by rfl) (alen_cons (alen_cons alen_nil)) (ma_cons (me_var (pv 0)) (ma_cons (me_var (pv 1)) ma_nil))))) (blkOk_by (N := N__law_rooms) (sc := defScope (top 44)) (by decide +kernel)) (by decide) (fun _ _ _ _ _ => (mg_name (pg_name (i := 4) sc__law_rooms.nd rfl (Or.inl rfl)))) (fun _ _ _ _ _ => mts_nil) (fun _ _ _ _ _ => (me_tup (ma_cons (me_call ((d__law_room_by T).mono (by decide)) hr takes0 (by rfl) (alen_cons (alen_cons (alen_cons (alen_cons alen_nil)))) (ma_cons (me_var (pv 0)) (ma_cons (me_var (pv 1)) (ma_cons (me_var (pv 4)) (ma_cons (me_var (pv 3)) ma_nil))))) (ma_cons (me_var (pv 4)) ma_nil)))))))))
theorem d__law_rooms (T : Fx K mg) : Def P w K mg base 7 "_law_rooms" 3 [] m__law_rooms := by
  obtain ⟨fd, F⟩ := T.f__law_rooms
  exact Def.mk' (ps := ["_law_a", "_law_b", "_law_after"]) (N := N__law_rooms) (k := 6) F T.g__law_rooms sc__law_rooms b__law_rooms ⟨[], [], .nil, F.bindsN (fun _ _ _ _ _ _ us hl => match us, hl with | [_, _, _], _ => rfl), fun _ _ => .nil⟩ (fun cdv A outer s H E hr => w__law_rooms T fd cdv A outer s H E hr)
abbrev N__law_over : List Str := ["_law_one", "_law_other", "_law_after"]
theorem sc__law_over : FnScope N__law_over ["_law_one", "_law_other", "_law_after"] (defScope (top 45)) := ⟨rfl, rfl, rfl, by decide +kernel, rfl, by decide +kernel, by decide +kernel⟩
theorem w__law_over (T : Fx K mg) (fd : FuncData) (cdv : Value) (A : Around) (outer : List Env) (s : Shared) (H : Hp) (E : XK) (hr : Room 7 (A.deeper (envOfC "_law_over" (defScope (top 45)) s.heap.objs.size (He.ga K "_law_over") cdv))) :
    PSs (cxOf (L2.CX P w) P w K mg base N__law_over "_law_over" (defScope (top 45)) (He.ga K "_law_over") cdv A outer s H E) (defBody (top 45)) (tS K (fun cls d _ H => E cls d H) b__law_over) := by
  have tk := tk_cx (P := P) (w := w) (K := K) (mg := mg) (base := base) (N := N__law_over) (qual := "_law_over") (scope := defScope (top 45)) (f := He.ga K "_law_over") (cd := cdv) (A := A) (outer := outer) (s := s) (H := H) (E := E)
  exact (mss_one (ms_ret (me_cmp2 op_lt o_lt (weak (me_ix ix_seq o_ix (weak (me_callB (cr_maxD rfl hr.units) c_maxD (by rfl) T.z_max (by decide +kernel) (maw_cons (weak (me_call ((d__law_rooms T).mono (by decide)) hr tk (by rfl) (alen_cons (alen_cons (alen_cons alen_nil))) (ma_cons (me_var (pv 0)) (ma_cons (me_var (pv 1)) (ma_cons (me_var (pv 2)) ma_nil))))) maw_nil))) (weak me_int) (fun _ _ => rfl))) (weak me_int) (nomark _))))
theorem d__law_over (T : Fx K mg) : Def P w K mg base 8 "_law_over" 3 [] m__law_over := by
  obtain ⟨fd, F⟩ := T.f__law_over
  exact Def.mk' (ps := ["_law_one", "_law_other", "_law_after"]) (N := N__law_over) (k := 7) F T.g__law_over sc__law_over b__law_over ⟨[], [], .nil, F.bindsN (fun _ _ _ _ _ _ us hl => match us, hl with | [_, _, _], _ => rfl), fun _ _ => .nil⟩ (fun cdv A outer s H E hr => w__law_over T fd cdv A outer s H E hr)
abbrev N__law_drawn_name : List Str := ["_law_deck", "_law_size", "_law_k"]
theorem sc__law_drawn_name : FnScope N__law_drawn_name ["_law_deck"] (defScope (top 46)) := ⟨rfl, rfl, rfl, by decide +kernel, rfl, by decide +kernel, by decide +kernel⟩
theorem w__law_drawn_name (T : Fx K mg) (fd : FuncData) (cdv : Value) (A : Around) (outer : List Env) (s : Shared) (H : Hp) (E : XK) (hr : Room 3 (A.deeper (envOfC "_law_drawn_name" (defScope (top 46)) s.heap.objs.size (He.ga K "_law_drawn_name") cdv))) :
    PSs (cxOf (L2.CX P w) P w K mg base N__law_drawn_name "_law_drawn_name" (defScope (top 46)) (He.ga K "_law_drawn_name") cdv A outer s H E) (defBody (top 46)) (tS K (fun cls d _ H => E cls d H) b__law_drawn_name) := by
  have tk := tk_cx (P := P) (w := w) (K := K) (mg := mg) (base := base) (N := N__law_drawn_name) (qual := "_law_drawn_name") (scope := defScope (top 46)) (f := He.ga K "_law_drawn_name") (cd := cdv) (A := A) (outer := outer) (s := s) (H := H) (E := E)
  exact (mss_cons (ms_set (ps_set (i := 1) sc__law_drawn_name.nd rfl (Or.inl rfl) (me_op2 op_add4 o_add (weak (me_op2 op_add4 o_add (weak me_int) (weak (me_callS ((d__law_take T).mono (by decide)) hr tk (by rfl) (alen_cons (alen_cons alen_nil)) (ma_cons (me_var (pv 0)) (ma_cons me_int ma_nil)))))) (weak (me_op2 op_mulW o_mul (weak me_int) (weak (me_callTy (call_intA T.lim) c_intA (by rfl) T.z_int (by decide +kernel) (maw_cons (weak (me_cmp2 (op_eqD hr.units) o_eq (weak (me_callS ((d__law_take T).mono (by decide)) hr tk (by rfl) (alen_cons (alen_cons alen_nil)) (ma_cons (me_var (pv 0)) (ma_cons me_int ma_nil)))) (weak me_int) (nomark _))) maw_nil))))))))
  (mss_one (ms_ret (me_join (weak (me_new (mf_lc (own := [("_law_k", 2)]) (ws := [2]) rfl sc__law_drawn_name.nd (toO (mi_range1 (by rfl) T.z_range (maw_cons (me_varW (pv 1)) maw_nil))) (blkOk_by (N := N__law_drawn_name) (sc := defScope (top 46)) (by decide +kernel)) (by decide) (fun _ _ _ _ _ => (mg_name (pg_name (i := 2) sc__law_drawn_name.nd rfl (Or.inl rfl)))) (fun _ _ _ _ _ => mts_nil) (fun _ _ _ _ _ => (me_ix ix_seq o_ix (weak me_str) (weak (me_callS ((d__law_take T).mono (by decide)) hr takes0 (by rfl) (alen_cons (alen_cons alen_nil)) (ma_cons (me_var (pv 0)) (ma_cons me_int ma_nil)))) (fun _ _ => rfl))))))))))
theorem d__law_drawn_name (T : Fx K mg) : Def P w K mg base 4 "_law_drawn_name" 1 [] m__law_drawn_name := by
  obtain ⟨fd, F⟩ := T.f__law_drawn_name
  exact Def.mk' (ps := ["_law_deck"]) (N := N__law_drawn_name) (k := 3) F T.g__law_drawn_name sc__law_drawn_name b__law_drawn_name ⟨[], [], .nil, F.bindsN (fun _ _ _ _ _ _ us hl => match us, hl with | [_], _ => rfl), fun _ _ => .nil⟩ (fun cdv A outer s H E hr => w__law_drawn_name T fd cdv A outer s H E hr)
abbrev N__law_drawn_way : List Str := ["_law_deck", "_law_span", "_law_p", "_law_q", "_law_part"]
theorem sc__law_drawn_way : FnScope N__law_drawn_way ["_law_deck", "_law_span"] (defScope (top 47)) := ⟨rfl, rfl, rfl, by decide +kernel, rfl, by decide +kernel, by decide +kernel⟩
theorem w__law_drawn_way (T : Fx K mg) (fd : FuncData) (cdv : Value) (A : Around) (outer : List Env) (s : Shared) (H : Hp) (E : XK) (hr : Room 4 (A.deeper (envOfC "_law_drawn_way" (defScope (top 47)) s.heap.objs.size (He.ga K "_law_drawn_way") cdv))) :
    PSs (cxOf (L2.CX P w) P w K mg base N__law_drawn_way "_law_drawn_way" (defScope (top 47)) (He.ga K "_law_drawn_way") cdv A outer s H E) (defBody (top 47)) (tS K (fun cls d _ H => E cls d H) b__law_drawn_way) := by
  have tk := tk_cx (P := P) (w := w) (K := K) (mg := mg) (base := base) (N := N__law_drawn_way) (qual := "_law_drawn_way") (scope := defScope (top 47)) (f := He.ga K "_law_drawn_way") (cd := cdv) (A := A) (outer := outer) (s := s) (H := H) (E := E)
  exact (mss_cons (ms_set (ps_set (i := 2) sc__law_drawn_way.nd rfl (Or.inl rfl) (me_callS ((d__law_signed T).mono (by decide)) hr tk (by rfl) (alen_cons (alen_cons alen_nil)) (ma_cons (me_var (pv 0)) (ma_cons (me_var (pv 1)) ma_nil)))))
  (mss_cons (ms_set (ps_set (i := 3) sc__law_drawn_way.nd rfl (Or.inl rfl) (me_callS ((d__law_signed T).mono (by decide)) hr tk (by rfl) (alen_cons (alen_cons alen_nil)) (ma_cons (me_var (pv 0)) (ma_cons (me_var (pv 1)) ma_nil)))))
  (mss_cons (ms_set (ps_set (i := 4) sc__law_drawn_way.nd rfl (Or.inl rfl) (me_callB (call_max2 rfl) c_max2 (by rfl) T.z_max (by decide +kernel) (maw_cons (weak me_int) (maw_cons (weak (me_call ((d__law_gcd T).mono (by decide)) hr tk (by rfl) (alen_cons (alen_cons alen_nil)) (ma_cons (me_var (pv 2)) (ma_cons (me_var (pv 3)) ma_nil)))) maw_nil)))))
  (mss_one (ms_ret (me_ix ix_seq o_ix (weak (me_new (mf_lst (ma_cons (me_tup (ma_cons (me_op2 op_fdivB o_div (me_varW (pv 2)) (me_varW (pv 4))) (ma_cons (me_op2 op_fdivB o_div (me_varW (pv 3)) (me_varW (pv 4))) ma_nil))) (ma_cons (me_tup (ma_cons me_int (ma_cons me_int ma_nil))) ma_nil))))) (weak (me_callTy (call_intA T.lim) c_intA (by rfl) T.z_int (by decide +kernel) (maw_cons (weak (me_and (me_cmp2 (op_eqD hr.units) o_eq (me_varW (pv 2)) (weak me_int) (nomark _)) (me_one (me_cmp2 (op_eqD hr.units) o_eq (me_varW (pv 3)) (weak me_int) (nomark _))))) maw_nil))) (fun _ _ => rfl)))))))
theorem d__law_drawn_way (T : Fx K mg) : Def P w K mg base 5 "_law_drawn_way" 2 [] m__law_drawn_way := by
  obtain ⟨fd, F⟩ := T.f__law_drawn_way
  exact Def.mk' (ps := ["_law_deck", "_law_span"]) (N := N__law_drawn_way) (k := 4) F T.g__law_drawn_way sc__law_drawn_way b__law_drawn_way ⟨[], [], .nil, F.bindsN (fun _ _ _ _ _ _ us hl => match us, hl with | [_, _], _ => rfl), fun _ _ => .nil⟩ (fun cdv A outer s H E hr => w__law_drawn_way T fd cdv A outer s H E hr)
abbrev N__law_drawn_row : List Str := ["_law_deck", "_law_shape", "_law_spot", "_law_name", "_law_kind", "_law_mass", "_law_fast_here", "_law_way"]
theorem sc__law_drawn_row : FnScope N__law_drawn_row ["_law_deck", "_law_shape", "_law_spot"] (defScope (top 48)) := ⟨rfl, rfl, rfl, by decide +kernel, rfl, by decide +kernel, by decide +kernel⟩
theorem w__law_drawn_row (T : Fx K mg) (fd : FuncData) (cdv : Value) (A : Around) (outer : List Env) (s : Shared) (H : Hp) (E : XK) (hr : Room 5 (A.deeper (envOfC "_law_drawn_row" (defScope (top 48)) s.heap.objs.size (He.ga K "_law_drawn_row") cdv))) :
    PSs (cxOf (L2.CX P w) P w K mg base N__law_drawn_row "_law_drawn_row" (defScope (top 48)) (He.ga K "_law_drawn_row") cdv A outer s H E) (defBody (top 48)) (tS K (fun cls d _ H => E cls d H) b__law_drawn_row) := by
  have tk := tk_cx (P := P) (w := w) (K := K) (mg := mg) (base := base) (N := N__law_drawn_row) (qual := "_law_drawn_row") (scope := defScope (top 48)) (f := He.ga K "_law_drawn_row") (cd := cdv) (A := A) (outer := outer) (s := s) (H := H) (E := E)
  exact (mss_cons (ms_set (ps_set (i := 3) sc__law_drawn_row.nd rfl (Or.inl rfl) (me_callS ((d__law_drawn_name T).mono (by decide)) hr tk (by rfl) (alen_cons alen_nil) (ma_cons (me_var (pv 0)) ma_nil))))
  (mss_cons (ms_set (ps_set (i := 4) sc__law_drawn_row.nd rfl (Or.inl rfl) (me_callS ((d__law_take T).mono (by decide)) hr tk (by rfl) (alen_cons (alen_cons alen_nil)) (ma_cons (me_var (pv 0)) (ma_cons me_int ma_nil)))))
  (mss_cons (ms_if (mt_cmp2 (op_eqD hr.units) o_eq (me_varW (pv 4)) (weak me_int) (nomark _)) (mss_one (ms_ret (me_tup (ma_cons (me_var (pv 3)) (ma_cons (me_var (pv 1)) (ma_cons me_int (ma_cons me_non (ma_cons (me_var (pv 2)) (ma_cons (me_tup (ma_cons (me_tup (ma_cons me_int (ma_cons me_int ma_nil))) (ma_cons (me_tup (ma_cons me_int (ma_cons me_int ma_nil))) ma_nil))) ma_nil))))))))) mss_nil)
  (mss_cons (ms_set (ps_set (i := 5) sc__law_drawn_row.nd rfl (Or.inl rfl) (me_op2 op_add4 o_add (weak me_int) (weak (me_callS ((d__law_take T).mono (by decide)) hr tk (by rfl) (alen_cons (alen_cons alen_nil)) (ma_cons (me_var (pv 0)) (ma_cons me_int ma_nil)))))))
  (mss_cons (ms_set (ps_set (i := 6) sc__law_drawn_row.nd rfl (Or.inl rfl) (me_tup (ma_cons (me_callS ((d__law_drawn_size T).mono (by decide)) hr tk (by rfl) (alen_cons (alen_cons alen_nil)) (ma_cons (me_var (pv 0)) (ma_cons me_int ma_nil))) (ma_cons (me_callS ((d__law_drawn_size T).mono (by decide)) hr tk (by rfl) (alen_cons (alen_cons alen_nil)) (ma_cons (me_var (pv 0)) (ma_cons me_int ma_nil))) ma_nil)))))
  (mss_cons (ms_if (mt_cmp2 op_gt o_gt (me_varW (pv 4)) (weak me_int) (nomark _)) (mss_one (ms_ret (me_tup (ma_cons (me_var (pv 3)) (ma_cons (me_var (pv 1)) (ma_cons (me_var (pv 5)) (ma_cons me_non (ma_cons (me_var (pv 2)) (ma_cons (me_var (pv 6)) ma_nil))))))))) mss_nil)
  (mss_cons (ms_set (ps_set (i := 7) sc__law_drawn_row.nd rfl (Or.inl rfl) (me_callS ((d__law_drawn_way T).mono (by decide)) hr tk (by rfl) (alen_cons (alen_cons alen_nil)) (ma_cons (me_var (pv 0)) (ma_cons me_int ma_nil)))))
  (mss_one (ms_ret (me_tup (ma_cons (me_var (pv 3)) (ma_cons (me_var (pv 1)) (ma_cons (me_var (pv 5)) (ma_cons (me_var (pv 7)) (ma_cons (me_var (pv 2)) (ma_cons (me_call ((d__law_spot_times T).mono (by decide)) hr tk (by rfl) (alen_cons (alen_cons alen_nil)) (ma_cons (me_call ((d__law_spot_of T).mono (by decide)) hr tk (by rfl) (alen_cons alen_nil) (ma_cons (me_var (pv 7)) ma_nil)) (ma_cons (me_ix ix_seq o_ix (me_varW (pv 6)) (weak me_int) (fun _ _ => rfl)) ma_nil))) ma_nil))))))))))))))))
theorem d__law_drawn_row (T : Fx K mg) : Def P w K mg base 6 "_law_drawn_row" 3 [] m__law_drawn_row := by
  obtain ⟨fd, F⟩ := T.f__law_drawn_row
  exact Def.mk' (ps := ["_law_deck", "_law_shape", "_law_spot"]) (N := N__law_drawn_row) (k := 5) F T.g__law_drawn_row sc__law_drawn_row b__law_drawn_row ⟨[], [], .nil, F.bindsN (fun _ _ _ _ _ _ us hl => match us, hl with | [_, _, _], _ => rfl), fun _ _ => .nil⟩ (fun cdv A outer s H E hr => w__law_drawn_row T fd cdv A outer s H E hr)
abbrev N__law_beside : List Str := ["_law_deck", "_law_one", "_law_row", "_law_ways", "_law_way", "_law_slid", "_law_off", "_law_sign", "_law_mine", "_law_yours", "_law_spot", "_law_c"]
theorem sc__law_beside : FnScope N__law_beside ["_law_deck", "_law_one", "_law_row"] (defScope (top 49)) := ⟨rfl, rfl, rfl, by decide +kernel, rfl, by decide +kernel, by decide +kernel⟩
theorem w__law_beside (T : Fx K mg) (fd : FuncData) (cdv : Value) (A : Around) (outer : List Env) (s : Shared) (H : Hp) (E : XK) (hr : Room 5 (A.deeper (envOfC "_law_beside" (defScope (top 49)) s.heap.objs.size (He.ga K "_law_beside") cdv))) :
    PSs (cxOf (L2.CX P w) P w K mg base N__law_beside "_law_beside" (defScope (top 49)) (He.ga K "_law_beside") cdv A outer s H E) (defBody (top 49)) (tS K (fun cls d _ H => E cls d H) b__law_beside) := by
  have tk := tk_cx (P := P) (w := w) (K := K) (mg := mg) (base := base) (N := N__law_beside) (qual := "_law_beside") (scope := defScope (top 49)) (f := He.ga K "_law_beside") (cd := cdv) (A := A) (outer := outer) (s := s) (H := H) (E := E)
  exact (mss_cons (ms_set (ps_set (i := 3) sc__law_beside.nd rfl (Or.inl rfl) (me_op2 op_add4 o_add (weak (me_call ((d__law_pair_ways T).mono (by decide)) hr tk (by rfl) (alen_cons (alen_cons alen_nil)) (ma_cons (me_var (pv 1)) (ma_cons (me_var (pv 2)) ma_nil)))) (weak (me_new (mf_lst (ma_cons (me_callS ((d__law_drawn_way T).mono (by decide)) hr tk (by rfl) (alen_cons (alen_cons alen_nil)) (ma_cons (me_var (pv 0)) (ma_cons me_int ma_nil))) ma_nil)))))))
  (mss_cons (ms_set (ps_set (i := 4) sc__law_beside.nd rfl (Or.inr rfl) (me_ix ix_seq o_ix (me_varW (pv 3)) (weak (me_callS ((d__law_take T).mono (by decide)) hr tk (by rfl) (alen_cons (alen_cons alen_nil)) (ma_cons (me_var (pv 0)) (ma_cons (me_callB call_len3 c_len (by rfl) T.z_len (by decide +kernel) (maw_cons (me_varW (pv 3)) maw_nil)) ma_nil)))) (fun _ _ => rfl))))
  (mss_cons (ms_set (ps_set (i := 5) sc__law_beside.nd rfl (Or.inl rfl) (me_ix ix_seq o_ix (weak (me_new (mf_lst (ma_cons (me_tup (ma_cons me_int (ma_cons me_int ma_nil))) (ma_cons (me_callS ((d__law_drawn_size T).mono (by decide)) hr tk (by rfl) (alen_cons (alen_cons alen_nil)) (ma_cons (me_var (pv 0)) (ma_cons me_int ma_nil))) ma_nil))))) (weak (me_callS ((d__law_take T).mono (by decide)) hr tk (by rfl) (alen_cons (alen_cons alen_nil)) (ma_cons (me_var (pv 0)) (ma_cons me_int ma_nil)))) (fun _ _ => rfl))))
  (mss_cons (ms_set (ps_set (i := 6) sc__law_beside.nd rfl (Or.inl rfl) (me_ix ix_seq o_ix (weak (me_new (mf_lst (ma_cons (me_tup (ma_cons me_int (ma_cons me_int ma_nil))) (ma_cons (me_tup (ma_cons me_int (ma_cons me_int ma_nil))) (ma_cons (me_callS ((d__law_above T).mono (by decide)) hr tk (by rfl) (alen_cons (alen_cons alen_nil)) (ma_cons (me_var (pv 0)) (ma_cons me_int ma_nil))) ma_nil)))))) (weak (me_callS ((d__law_take T).mono (by decide)) hr tk (by rfl) (alen_cons (alen_cons alen_nil)) (ma_cons (me_var (pv 0)) (ma_cons me_int ma_nil)))) (fun _ _ => rfl))))
  (mss_cons (ms_set (ps_set (i := 7) sc__law_beside.nd rfl (Or.inr rfl) (me_op2 op_sub o_sub (weak me_int) (weak (me_op2 op_mulW o_mul (weak me_int) (weak (me_callS ((d__law_take T).mono (by decide)) hr tk (by rfl) (alen_cons (alen_cons alen_nil)) (ma_cons (me_var (pv 0)) (ma_cons me_int ma_nil)))))))))
  (mss_cons (ms_set (ps_set (i := 8) sc__law_beside.nd rfl (Or.inl rfl) (me_ix ix_seq o_ix (weak (me_callB (cr_maxD rfl hr.units) c_maxD (by rfl) T.z_max (by decide +kernel) (maw_cons (weak (me_new (mf_lc (own := [("_law_c", 11)]) (ws := [11]) rfl sc__law_beside.nd (toO (mi_seq (me_ix ix_seq o_ix (me_varW (pv 1)) (weak me_int) (fun _ _ => rfl)))) (blkOk_by (N := N__law_beside) (sc := defScope (top 49)) (by decide +kernel)) (by decide) (fun _ _ _ _ _ => (mg_name (pg_name (i := 11) sc__law_beside.nd rfl (Or.inl rfl)))) (fun _ _ _ _ _ => mts_nil) (fun _ _ _ _ _ => (me_tup (ma_cons (me_op2 op_add4 o_add (weak (me_op2 op_mulW o_mul (weak (me_ix ix_seq o_ix (me_varW (pv 4)) (weak me_int) (fun _ _ => rfl))) (weak (me_ix ix_seq o_ix (me_varW (pv 11)) (weak me_int) (fun _ _ => rfl))))) (weak (me_op2 op_mulW o_mul (weak (me_ix ix_seq o_ix (me_varW (pv 4)) (weak me_int) (fun _ _ => rfl))) (weak (me_ix ix_seq o_ix (me_varW (pv 11)) (weak me_int) (fun _ _ => rfl)))))) (ma_cons (me_var (pv 11)) ma_nil))))))) maw_nil))) (weak me_int) (fun _ _ => rfl))))
  (mss_cons (ms_set (ps_set (i := 9) sc__law_beside.nd rfl (Or.inl rfl) (me_ix ix_seq o_ix (weak (me_callB (cr_minD rfl hr.units) c_minD (by rfl) T.z_min (by decide +kernel) (maw_cons (weak (me_new (mf_lc (own := [("_law_c", 11)]) (ws := [11]) rfl sc__law_beside.nd (toO (mi_seq (me_ix ix_seq o_ix (me_varW (pv 2)) (weak me_int) (fun _ _ => rfl)))) (blkOk_by (N := N__law_beside) (sc := defScope (top 49)) (by decide +kernel)) (by decide) (fun _ _ _ _ _ => (mg_name (pg_name (i := 11) sc__law_beside.nd rfl (Or.inl rfl)))) (fun _ _ _ _ _ => mts_nil) (fun _ _ _ _ _ => (me_tup (ma_cons (me_op2 op_add4 o_add (weak (me_op2 op_mulW o_mul (weak (me_ix ix_seq o_ix (me_varW (pv 4)) (weak me_int) (fun _ _ => rfl))) (weak (me_ix ix_seq o_ix (me_varW (pv 11)) (weak me_int) (fun _ _ => rfl))))) (weak (me_op2 op_mulW o_mul (weak (me_ix ix_seq o_ix (me_varW (pv 4)) (weak me_int) (fun _ _ => rfl))) (weak (me_ix ix_seq o_ix (me_varW (pv 11)) (weak me_int) (fun _ _ => rfl)))))) (ma_cons (me_op2 op_mulW o_mul (me_varW (pv 7)) (weak (me_ix ix_seq o_ix (me_varW (pv 11)) (weak me_int) (fun _ _ => rfl)))) (ma_cons (me_op2 op_mulW o_mul (me_varW (pv 7)) (weak (me_ix ix_seq o_ix (me_varW (pv 11)) (weak me_int) (fun _ _ => rfl)))) (ma_cons (me_var (pv 11)) ma_nil))))))))) maw_nil))) (weak me_int) (fun _ _ => rfl))))
  (mss_cons (ms_set (ps_set (i := 10) sc__law_beside.nd rfl (Or.inl rfl) (me_call ((d__law_spot_plus T).mono (by decide)) hr tk (by rfl) (alen_cons (alen_cons alen_nil)) (ma_cons (me_ix ix_seq o_ix (me_varW (pv 1)) (weak me_int) (fun _ _ => rfl)) (ma_cons (me_call ((d__law_spot_of T).mono (by decide)) hr tk (by rfl) (alen_cons alen_nil) (ma_cons (me_tup (ma_cons (me_op2 op_sub o_sub (weak (me_ix ix_seq o_ix (me_varW (pv 8)) (weak me_int) (fun _ _ => rfl))) (weak (me_ix ix_seq o_ix (me_varW (pv 9)) (weak me_int) (fun _ _ => rfl)))) (ma_cons (me_op2 op_sub o_sub (weak (me_ix ix_seq o_ix (me_varW (pv 8)) (weak me_int) (fun _ _ => rfl))) (weak (me_ix ix_seq o_ix (me_varW (pv 9)) (weak me_int) (fun _ _ => rfl)))) ma_nil))) ma_nil)) ma_nil)))))
  (mss_cons (ms_set (ps_set (i := 10) sc__law_beside.nd rfl (Or.inl rfl) (me_call ((d__law_spot_plus T).mono (by decide)) hr tk (by rfl) (alen_cons (alen_cons alen_nil)) (ma_cons (me_var (pv 10)) (ma_cons (me_call ((d__law_spot_times T).mono (by decide)) hr tk (by rfl) (alen_cons (alen_cons alen_nil)) (ma_cons (me_call ((d__law_spot_of T).mono (by decide)) hr tk (by rfl) (alen_cons alen_nil) (ma_cons (me_tup (ma_cons (me_un un_neg o_neg (weak (me_ix ix_seq o_ix (me_varW (pv 4)) (weak me_int) (fun _ _ => rfl)))) (ma_cons (me_ix ix_seq o_ix (me_varW (pv 4)) (weak me_int) (fun _ _ => rfl)) ma_nil))) ma_nil)) (ma_cons (me_var (pv 5)) ma_nil))) ma_nil)))))
  (mss_one (ms_ret (me_op2 op_add4 o_add (weak (me_op2 op_add4 o_add (weak (me_cutA (me_varW (pv 2)) mo_none (mo_some me_int))) (weak (me_tup (ma_cons (me_call ((d__law_spot_plus T).mono (by decide)) hr tk (by rfl) (alen_cons (alen_cons alen_nil)) (ma_cons (me_var (pv 10)) (ma_cons (me_call ((d__law_spot_times T).mono (by decide)) hr tk (by rfl) (alen_cons (alen_cons alen_nil)) (ma_cons (me_call ((d__law_spot_of T).mono (by decide)) hr tk (by rfl) (alen_cons alen_nil) (ma_cons (me_var (pv 4)) ma_nil)) (ma_cons (me_var (pv 6)) ma_nil))) ma_nil))) ma_nil))))) (weak (me_cutA (me_varW (pv 2)) (mo_some me_int) mo_none))))))))))))))
theorem d__law_beside (T : Fx K mg) : Def P w K mg base 6 "_law_beside" 3 [] m__law_beside := by
  obtain ⟨fd, F⟩ := T.f__law_beside
  exact Def.mk' (ps := ["_law_deck", "_law_one", "_law_row"]) (N := N__law_beside) (k := 5) F T.g__law_beside sc__law_beside b__law_beside ⟨[], [], .nil, F.bindsN (fun _ _ _ _ _ _ us hl => match us, hl with | [_, _, _], _ => rfl), fun _ _ => .nil⟩ (fun cdv A outer s H E hr => w__law_beside T fd cdv A outer s H E hr)
abbrev N__law_scene : List Str := ["_law_deck", "_law_many", "_law_rows", "_law_turn", "_law_row", "_law_still", "_law_a"]
theorem sc__law_scene : FnScope N__law_scene ["_law_deck", "_law_many"] (defScope (top 50)) := ⟨rfl, rfl, rfl, by decide +kernel, rfl, by decide +kernel, by decide +kernel⟩
theorem w__law_scene (T : Fx K mg) (fd : FuncData) (cdv : Value) (A : Around) (outer : List Env) (s : Shared) (H : Hp) (E : XK) (hr : Room 8 (A.deeper (envOfC "_law_scene" (defScope (top 50)) s.heap.objs.size (He.ga K "_law_scene") cdv))) :
    PSs (cxOf (L2.CX P w) P w K mg base N__law_scene "_law_scene" (defScope (top 50)) (He.ga K "_law_scene") cdv A outer s H E) (defBody (top 50)) (tS K (fun cls d _ H => E cls d H) b__law_scene) := by
  have tk := tk_cx (P := P) (w := w) (K := K) (mg := mg) (base := base) (N := N__law_scene) (qual := "_law_scene") (scope := defScope (top 50)) (f := He.ga K "_law_scene") (cd := cdv) (A := A) (outer := outer) (s := s) (H := H) (E := E)
  exact (mss_cons (ms_setOwn (ps_set (i := 2) sc__law_scene.nd rfl (Or.inl rfl) (mf_lst ma_nil)))
  (mss_cons (ms_for po_cx rfl (mi_range1 (by rfl) T.z_range (maw_cons (weak (me_op2 op_add4 o_add (weak me_int) (weak (me_callS ((d__law_take T).mono (by decide)) hr tk (by rfl) (alen_cons (alen_cons alen_nil)) (ma_cons (me_var (pv 0)) (ma_cons (me_var (pv 1)) ma_nil)))))) maw_nil)) (mg_name (pg_name (i := 3) sc__law_scene.nd rfl (Or.inl rfl))) (mss_cons (ms_set (ps_set (i := 4) sc__law_scene.nd rfl (Or.inr rfl) (me_callS ((d__law_drawn_row T).mono (by decide)) hr tk (by rfl) (alen_cons (alen_cons (alen_cons alen_nil))) (ma_cons (me_var (pv 0)) (ma_cons (me_callS ((d__law_drawn_shape T).mono (by decide)) hr tk (by rfl) (alen_cons (alen_cons alen_nil)) (ma_cons (me_var (pv 0)) (ma_cons me_int ma_nil))) (ma_cons (me_tup (ma_cons (me_callS ((d__law_drawn_size T).mono (by decide)) hr tk (by rfl) (alen_cons (alen_cons alen_nil)) (ma_cons (me_var (pv 0)) (ma_cons me_int ma_nil))) (ma_cons (me_callS ((d__law_drawn_size T).mono (by decide)) hr tk (by rfl) (alen_cons (alen_cons alen_nil)) (ma_cons (me_var (pv 0)) (ma_cons me_int ma_nil))) ma_nil))) ma_nil))))))
  (mss_cons (ms_if (mt_cmp2 (op_neD hr.units) o_ne (me_varW (pv 2)) (weak (me_new (mf_lst ma_nil))) (nomark _)) (mss_one (ms_set (ps_set (i := 4) sc__law_scene.nd rfl (Or.inr rfl) (me_callS ((d__law_beside T).mono (by decide)) hr tk (by rfl) (alen_cons (alen_cons (alen_cons alen_nil))) (ma_cons (me_var (pv 0)) (ma_cons (me_ix ix_seq o_ix (me_varW (pv 2)) (weak (me_callS ((d__law_take T).mono (by decide)) hr tk (by rfl) (alen_cons (alen_cons alen_nil)) (ma_cons (me_var (pv 0)) (ma_cons (me_callB call_len3 c_len (by rfl) T.z_len (by decide +kernel) (maw_cons (me_varW (pv 2)) maw_nil)) ma_nil)))) (fun _ _ => rfl)) (ma_cons (me_var (pv 4)) ma_nil))))))) mss_nil)
  (mss_one (ms_if (mt_cmp2 (op_eqD hr.units) o_eq (weak (me_new (mf_lc (own := [("_law_a", 6)]) (ws := [6]) rfl sc__law_scene.nd (mi_own (pv 2)) (blkOk_by (N := N__law_scene) (sc := defScope (top 50)) (by decide +kernel)) (by decide) (fun _ _ _ _ _ => (mg_name (pg_name (i := 6) sc__law_scene.nd rfl (Or.inl rfl)))) (fun _ _ _ _ _ => (mts_one (PW.pt (mw_or (mt_cmp2 (op_eqD hr.units) o_eq (weak (me_ix ix_seq o_ix (me_varW (pv 6)) (weak me_int) (fun _ _ => rfl))) (weak (me_ix ix_seq o_ix (me_varW (pv 4)) (weak me_int) (fun _ _ => rfl))) (nomark _)) (mw_or1 (mt_truth (weak (me_call ((d__law_over T).mono (by decide)) hr takes0 (by rfl) (alen_cons (alen_cons (alen_cons alen_nil))) (ma_cons (me_var (pv 6)) (ma_cons (me_var (pv 4)) (ma_cons (me_tup (ma_cons me_int (ma_cons me_int ma_nil))) ma_nil))))))))))) (fun _ _ _ _ _ => (me_var (pv 6)))))) (weak (me_new (mf_lst ma_nil))) (nomark _)) (mss_one (ms_app (ps_expr (pe_bm PySem.F.plainAttrs_list PySem.F.slot_list_append PySem.F.type_list_append mt_append (pv 2) (pa_cons (me_var (pv 4)) pa_nil))))) mss_nil)))))
  (mss_cons (ms_lc (by decide) (ps_setLc (i := 5) (own := [("_law_row", 4)]) rfl sc__law_scene.nd rfl rfl (sw_true rfl rfl rfl (by decide +kernel)) (mi_own (pv 2)) (blkOk_by (N := N__law_scene) (sc := defScope (top 50)) (by decide +kernel)) (fun _ _ _ _ _ => (mg_name (pg_name (i := 4) sc__law_scene.nd rfl (Or.inl rfl)))) (fun _ _ _ _ _ => (mts_one (mt_cmp2 (op_eqD hr.units) o_eq (weak (me_ix ix_seq o_ix (me_varW (pv 4)) (weak me_int) (fun _ _ => rfl))) (weak me_int) (nomark _)))) (fun _ _ _ _ _ => (me_var (pv 4)))))
  (mss_cons (ms_if (PW.pt (mw_and (mt_cmp2 op_gt o_gt (weak (me_callB call_len3 c_len (by rfl) T.z_len (by decide +kernel) (maw_cons (me_varW (pv 5)) maw_nil))) (weak me_int) (nomark _)) (mw_and1 (mt_cmp2 (op_eqD hr.units) o_eq (weak (me_callS ((d__law_take T).mono (by decide)) hr tk (by rfl) (alen_cons (alen_cons alen_nil)) (ma_cons (me_var (pv 0)) (ma_cons me_int ma_nil)))) (weak me_int) (nomark _))))) (mss_one (ms_app (ps_expr (pe_bm PySem.F.plainAttrs_list PySem.F.slot_list_append PySem.F.type_list_append mt_append (pv 2) (pa_cons (me_op2 op_add4 o_add (weak (me_tup (ma_cons me_str ma_nil))) (weak (me_cutA (weak (me_ix ix_seq o_ix (me_varW (pv 5)) (weak me_int) (fun _ _ => rfl))) (mo_some me_int) mo_none))) pa_nil))))) mss_nil)
  (mss_frz (mss_one (ms_ret (me_callTy call_tuple_of c_tup (by rfl) T.z_tuple (by decide +kernel) (maw_cons (weak (me_new (mf_sortD hr.units (by rfl) T.z_sorted (maw_cons (me_varW (pv 2)) maw_nil)))) maw_nil)))))))))
theorem d__law_scene (T : Fx K mg) : Def P w K mg base 9 "_law_scene" 2 [] m__law_scene := by
  obtain ⟨fd, F⟩ := T.f__law_scene
  exact Def.mk' (ps := ["_law_deck", "_law_many"]) (N := N__law_scene) (k := 8) F T.g__law_scene sc__law_scene b__law_scene ⟨[], [], .nil, F.bindsN (fun _ _ _ _ _ _ us hl => match us, hl with | [_, _], _ => rfl), fun _ _ => .nil⟩ (fun cdv A outer s H E hr => w__law_scene T fd cdv A outer s H E hr)
abbrev N__law_whole : List Str := ["_law_found"]
theorem sc__law_whole : FnScope N__law_whole ["_law_found"] (defScope (top 51)) := ⟨rfl, rfl, rfl, by decide +kernel, rfl, by decide +kernel, by decide +kernel⟩
theorem w__law_whole (T : Fx K mg) (fd : FuncData) (cdv : Value) (A : Around) (outer : List Env) (s : Shared) (H : Hp) (E : XK) (hr : Room 0 (A.deeper (envOfC "_law_whole" (defScope (top 51)) s.heap.objs.size (He.ga K "_law_whole") cdv))) :
    PSs (cxOf (L2.CX P w) P w K mg base N__law_whole "_law_whole" (defScope (top 51)) (He.ga K "_law_whole") cdv A outer s H E) (defBody (top 51)) (tS K (fun cls d _ H => E cls d H) b__law_whole) := by
  have tk := tk_cx (P := P) (w := w) (K := K) (mg := mg) (base := base) (N := N__law_whole) (qual := "_law_whole") (scope := defScope (top 51)) (f := He.ga K "_law_whole") (cd := cdv) (A := A) (outer := outer) (s := s) (H := H) (E := E)
  exact (mss_one (ms_ret (me_and (me_callB call_isi c_isi (by rfl) T.z_isinstance (by decide +kernel) (maw_cons (me_varW (pv 0)) (maw_cons (weak (me_type (by rfl) T.z_int (by decide +kernel))) maw_nil))) (me_one (me_not (me_callB call_isi c_isi (by rfl) T.z_isinstance (by decide +kernel) (maw_cons (me_varW (pv 0)) (maw_cons (weak (me_type (by rfl) T.z_bool (by decide +kernel))) maw_nil))))))))
theorem d__law_whole (T : Fx K mg) : Def P w K mg base 1 "_law_whole" 1 [] m__law_whole := by
  obtain ⟨fd, F⟩ := T.f__law_whole
  exact Def.mk' (ps := ["_law_found"]) (N := N__law_whole) (k := 0) F T.g__law_whole sc__law_whole b__law_whole ⟨[], [], .nil, F.bindsN (fun _ _ _ _ _ _ us hl => match us, hl with | [_], _ => rfl), fun _ _ => .nil⟩ (fun cdv A outer s H E hr => w__law_whole T fd cdv A outer s H E hr)
abbrev N__law_two : List Str := ["_law_x"]
theorem sc__law_two : FnScope N__law_two ["_law_x"] (defScope (top 52)) := ⟨rfl, rfl, rfl, by decide +kernel, rfl, by decide +kernel, by decide +kernel⟩
theorem w__law_two (T : Fx K mg) (fd : FuncData) (cdv : Value) (A : Around) (outer : List Env) (s : Shared) (H : Hp) (E : XK) (hr : Room 1 (A.deeper (envOfC "_law_two" (defScope (top 52)) s.heap.objs.size (He.ga K "_law_two") cdv))) :
    PSs (cxOf (L2.CX P w) P w K mg base N__law_two "_law_two" (defScope (top 52)) (He.ga K "_law_two") cdv A outer s H E) (defBody (top 52)) (tS K (fun cls d _ H => E cls d H) b__law_two) := by
  have tk := tk_cx (P := P) (w := w) (K := K) (mg := mg) (base := base) (N := N__law_two) (qual := "_law_two") (scope := defScope (top 52)) (f := He.ga K "_law_two") (cd := cdv) (A := A) (outer := outer) (s := s) (H := H) (E := E)
  exact (mss_cons (ms_if (PW.pt (mw_or (mt_not (mt_truth (weak (me_callB call_isi c_isi (by rfl) T.z_isinstance (by decide +kernel) (maw_cons (me_varW (pv 0)) (maw_cons (weak (me_type (by rfl) T.z_tuple (by decide +kernel))) maw_nil)))))) (mw_or (mt_cmp2 (op_neD hr.units) o_ne (weak (me_callB call_len3 c_len (by rfl) T.z_len (by decide +kernel) (maw_cons (me_varW (pv 0)) maw_nil))) (weak me_int) (nomark _)) (mw_or (mt_not (mt_truth (weak (me_call ((d__law_whole T).mono (by decide)) hr tk (by rfl) (alen_cons alen_nil) (ma_cons (me_ix ix_seq o_ix (me_varW (pv 0)) (weak me_int) (fun _ _ => rfl)) ma_nil))))) (mw_or1 (mt_not (mt_truth (weak (me_call ((d__law_whole T).mono (by decide)) hr tk (by rfl) (alen_cons alen_nil) (ma_cons (me_ix ix_seq o_ix (me_varW (pv 0)) (weak me_int) (fun _ _ => rfl)) ma_nil)))))))))) (mss_one (ms_ret me_bl)) mss_nil)
  (mss_one (ms_ret (me_cmp2 (op_eqD hr.units) o_eq (weak (me_call ((d__law_gcd T).mono (by decide)) hr tk (by rfl) (alen_cons (alen_cons alen_nil)) (ma_cons (me_ix ix_seq o_ix (me_varW (pv 0)) (weak me_int) (fun _ _ => rfl)) (ma_cons (me_ix ix_seq o_ix (me_varW (pv 0)) (weak me_int) (fun _ _ => rfl)) ma_nil)))) (weak me_int) (nomark _)))))
theorem d__law_two (T : Fx K mg) : Def P w K mg base 2 "_law_two" 1 [] m__law_two := by
  obtain ⟨fd, F⟩ := T.f__law_two
  exact Def.mk' (ps := ["_law_x"]) (N := N__law_two) (k := 1) F T.g__law_two sc__law_two b__law_two ⟨[], [], .nil, F.bindsN (fun _ _ _ _ _ _ us hl => match us, hl with | [_], _ => rfl), fun _ _ => .nil⟩ (fun cdv A outer s H E hr => w__law_two T fd cdv A outer s H E hr)
abbrev N__law_is_size : List Str := ["_law_found"]
theorem sc__law_is_size : FnScope N__law_is_size ["_law_found"] (defScope (top 53)) := ⟨rfl, rfl, rfl, by decide +kernel, rfl, by decide +kernel, by decide +kernel⟩
theorem w__law_is_size (T : Fx K mg) (fd : FuncData) (cdv : Value) (A : Around) (outer : List Env) (s : Shared) (H : Hp) (E : XK) (hr : Room 2 (A.deeper (envOfC "_law_is_size" (defScope (top 53)) s.heap.objs.size (He.ga K "_law_is_size") cdv))) :
    PSs (cxOf (L2.CX P w) P w K mg base N__law_is_size "_law_is_size" (defScope (top 53)) (He.ga K "_law_is_size") cdv A outer s H E) (defBody (top 53)) (tS K (fun cls d _ H => E cls d H) b__law_is_size) := by
  have tk := tk_cx (P := P) (w := w) (K := K) (mg := mg) (base := base) (N := N__law_is_size) (qual := "_law_is_size") (scope := defScope (top 53)) (f := He.ga K "_law_is_size") (cd := cdv) (A := A) (outer := outer) (s := s) (H := H) (E := E)
  exact (mss_one (ms_ret (me_and (me_call ((d__law_two T).mono (by decide)) hr tk (by rfl) (alen_cons alen_nil) (ma_cons (me_var (pv 0)) ma_nil)) (me_one (me_cmp2 op_gt o_gt (weak (me_ix ix_seq o_ix (me_varW (pv 0)) (weak me_int) (fun _ _ => rfl))) (weak me_int) (nomark _))))))
theorem d__law_is_size (T : Fx K mg) : Def P w K mg base 3 "_law_is_size" 1 [] m__law_is_size := by
  obtain ⟨fd, F⟩ := T.f__law_is_size
  exact Def.mk' (ps := ["_law_found"]) (N := N__law_is_size) (k := 2) F T.g__law_is_size sc__law_is_size b__law_is_size ⟨[], [], .nil, F.bindsN (fun _ _ _ _ _ _ us hl => match us, hl with | [_], _ => rfl), fun _ _ => .nil⟩ (fun cdv A outer s H E hr => w__law_is_size T fd cdv A outer s H E hr)
abbrev N__law_fast : List Str := ["_law_rows", "_law_touch", "_law_one", "_law_other", "_law_row"]
theorem sc__law_fast : FnScope N__law_fast ["_law_rows", "_law_touch"] (defScope (top 54)) := ⟨rfl, rfl, rfl, by decide +kernel, rfl, by decide +kernel, by decide +kernel⟩
theorem w__law_fast (T : Fx K mg) (fd : FuncData) (cdv : Value) (A : Around) (outer : List Env) (s : Shared) (H : Hp) (E : XK) (hr : Room 6 (A.deeper (envOfC "_law_fast" (defScope (top 54)) s.heap.objs.size (He.ga K "_law_fast") cdv))) :
    PSs (cxOf (L2.CX P w) P w K mg base N__law_fast "_law_fast" (defScope (top 54)) (He.ga K "_law_fast") cdv A outer s H E) (defBody (top 54)) (tS K (fun cls d _ H => E cls d H) b__law_fast) := by
  have tk := tk_cx (P := P) (w := w) (K := K) (mg := mg) (base := base) (N := N__law_fast) (qual := "_law_fast") (scope := defScope (top 54)) (f := He.ga K "_law_fast") (cd := cdv) (A := A) (outer := outer) (s := s) (H := H) (E := E)
  exact (mss_cons (ms_set (ps_set (i := 2) sc__law_fast.nd rfl (Or.inl rfl) (me_ix ix_seq o_ix (weak (me_new (mf_lc (own := [("_law_row", 4)]) (ws := [4]) rfl sc__law_fast.nd (toO (mi_seq (me_var (pv 0)))) (blkOk_by (N := N__law_fast) (sc := defScope (top 54)) (by decide +kernel)) (by decide) (fun _ _ _ _ _ => (mg_name (pg_name (i := 4) sc__law_fast.nd rfl (Or.inl rfl)))) (fun _ _ _ _ _ => (mts_one (mt_cmp2 (op_eqD hr.units) o_eq (weak (me_ix ix_seq o_ix (me_varW (pv 4)) (weak me_int) (fun _ _ => rfl))) (weak (me_ix ix_seq o_ix (me_varW (pv 1)) (weak me_int) (fun _ _ => rfl))) (nomark _)))) (fun _ _ _ _ _ => (me_var (pv 4)))))) (weak me_int) (fun _ _ => rfl))))
  (mss_cons (ms_set (ps_set (i := 3) sc__law_fast.nd rfl (Or.inl rfl) (me_ix ix_seq o_ix (weak (me_new (mf_lc (own := [("_law_row", 4)]) (ws := [4]) rfl sc__law_fast.nd (toO (mi_seq (me_var (pv 0)))) (blkOk_by (N := N__law_fast) (sc := defScope (top 54)) (by decide +kernel)) (by decide) (fun _ _ _ _ _ => (mg_name (pg_name (i := 4) sc__law_fast.nd rfl (Or.inl rfl)))) (fun _ _ _ _ _ => (mts_one (mt_cmp2 (op_eqD hr.units) o_eq (weak (me_ix ix_seq o_ix (me_varW (pv 4)) (weak me_int) (fun _ _ => rfl))) (weak (me_ix ix_seq o_ix (me_varW (pv 1)) (weak me_int) (fun _ _ => rfl))) (nomark _)))) (fun _ _ _ _ _ => (me_var (pv 4)))))) (weak me_int) (fun _ _ => rfl))))
  (mss_one (ms_ret (me_call ((d__law_speed T).mono (by decide)) hr tk (by rfl) (alen_cons (alen_cons (alen_cons alen_nil))) (ma_cons (me_var (pv 2)) (ma_cons (me_var (pv 3)) (ma_cons (me_ix ix_seq o_ix (me_varW (pv 1)) (weak me_int) (fun _ _ => rfl)) ma_nil))))))))
theorem d__law_fast (T : Fx K mg) : Def P w K mg base 7 "_law_fast" 2 [] m__law_fast := by
  obtain ⟨fd, F⟩ := T.f__law_fast
  exact Def.mk' (ps := ["_law_rows", "_law_touch"]) (N := N__law_fast) (k := 6) F T.g__law_fast sc__law_fast b__law_fast ⟨[], [], .nil, F.bindsN (fun _ _ _ _ _ _ us hl => match us, hl with | [_, _], _ => rfl), fun _ _ => .nil⟩ (fun cdv A outer s H E hr => w__law_fast T fd cdv A outer s H E hr)
abbrev N__law_closes : List Str := ["_law_rows", "_law_touches", "_law_touch"]
theorem sc__law_closes : FnScope N__law_closes ["_law_rows", "_law_touches"] (defScope (top 55)) := ⟨rfl, rfl, rfl, by decide +kernel, rfl, by decide +kernel, by decide +kernel⟩
theorem w__law_closes (T : Fx K mg) (fd : FuncData) (cdv : Value) (A : Around) (outer : List Env) (s : Shared) (H : Hp) (E : XK) (hr : Room 7 (A.deeper (envOfC "_law_closes" (defScope (top 55)) s.heap.objs.size (He.ga K "_law_closes") cdv))) :
    PSs (cxOf (L2.CX P w) P w K mg base N__law_closes "_law_closes" (defScope (top 55)) (He.ga K "_law_closes") cdv A outer s H E) (defBody (top 55)) (tS K (fun cls d _ H => E cls d H) b__law_closes) := by
  have tk := tk_cx (P := P) (w := w) (K := K) (mg := mg) (base := base) (N := N__law_closes) (qual := "_law_closes") (scope := defScope (top 55)) (f := He.ga K "_law_closes") (cd := cdv) (A := A) (outer := outer) (s := s) (H := H) (E := E)
  exact (mss_one (ms_ret (me_cmp2 (op_neD hr.units) o_ne (weak (me_new (mf_lc (own := [("_law_touch", 2)]) (ws := [2]) rfl sc__law_closes.nd (toO (mi_seq (me_var (pv 1)))) (blkOk_by (N := N__law_closes) (sc := defScope (top 55)) (by decide +kernel)) (by decide) (fun _ _ _ _ _ => (mg_name (pg_name (i := 2) sc__law_closes.nd rfl (Or.inl rfl)))) (fun _ _ _ _ _ => (mts_one (mt_cmp2 op_lt o_lt (weak (me_ix ix_seq o_ix (weak (me_call ((d__law_fast T).mono (by decide)) hr takes0 (by rfl) (alen_cons (alen_cons alen_nil)) (ma_cons (me_var (pv 0)) (ma_cons (me_var (pv 2)) ma_nil)))) (weak me_int) (fun _ _ => rfl))) (weak me_int) (nomark _)))) (fun _ _ _ _ _ => (me_var (pv 2)))))) (weak (me_new (mf_lst ma_nil))) (nomark _))))
theorem d__law_closes (T : Fx K mg) : Def P w K mg base 8 "_law_closes" 2 [] m__law_closes := by
  obtain ⟨fd, F⟩ := T.f__law_closes
  exact Def.mk' (ps := ["_law_rows", "_law_touches"]) (N := N__law_closes) (k := 7) F T.g__law_closes sc__law_closes b__law_closes ⟨[], [], .nil, F.bindsN (fun _ _ _ _ _ _ us hl => match us, hl with | [_, _], _ => rfl), fun _ _ => .nil⟩ (fun cdv A outer s H E hr => w__law_closes T fd cdv A outer s H E hr)
abbrev N__law_anew : List Str := ["_law_deck", "_law_rows", "_law_found", "_law_row", "_law_spot"]
theorem sc__law_anew : FnScope N__law_anew ["_law_deck", "_law_rows"] (defScope (top 56)) := ⟨rfl, rfl, rfl, by decide +kernel, rfl, by decide +kernel, by decide +kernel⟩
theorem w__law_anew (T : Fx K mg) (fd : FuncData) (cdv : Value) (A : Around) (outer : List Env) (s : Shared) (H : Hp) (E : XK) (hr : Room 5 (A.deeper (envOfC "_law_anew" (defScope (top 56)) s.heap.objs.size (He.ga K "_law_anew") cdv))) :
    PSs (cxOf (L2.CX P w) P w K mg base N__law_anew "_law_anew" (defScope (top 56)) (He.ga K "_law_anew") cdv A outer s H E) (defBody (top 56)) (tS K (fun cls d _ H => E cls d H) b__law_anew) := by
  have tk := tk_cx (P := P) (w := w) (K := K) (mg := mg) (base := base) (N := N__law_anew) (qual := "_law_anew") (scope := defScope (top 56)) (f := He.ga K "_law_anew") (cd := cdv) (A := A) (outer := outer) (s := s) (H := H) (E := E)
  exact (mss_cons (ms_setOwn (ps_set (i := 2) sc__law_anew.nd rfl (Or.inl rfl) (mf_lst ma_nil)))
  (mss_cons (ms_for po_cx rfl (mi_seq (me_var (pv 1))) (mg_name (pg_name (i := 3) sc__law_anew.nd rfl (Or.inl rfl))) (mss_cons (ms_set (ps_set (i := 4) sc__law_anew.nd rfl (Or.inl rfl) (me_tup (ma_cons (me_callS ((d__law_drawn_size T).mono (by decide)) hr tk (by rfl) (alen_cons (alen_cons alen_nil)) (ma_cons (me_var (pv 0)) (ma_cons me_int ma_nil))) (ma_cons (me_callS ((d__law_drawn_size T).mono (by decide)) hr tk (by rfl) (alen_cons (alen_cons alen_nil)) (ma_cons (me_var (pv 0)) (ma_cons me_int ma_nil))) ma_nil)))))
  (mss_cons (ms_if (mt_cmp2 (op_eqD hr.units) o_eq (weak (me_ix ix_seq o_ix (me_varW (pv 3)) (weak me_int) (fun _ _ => rfl))) (weak me_int) (nomark _)) (mss_one (ms_set (ps_set (i := 4) sc__law_anew.nd rfl (Or.inl rfl) (me_ix ix_seq o_ix (me_varW (pv 3)) (weak me_int) (fun _ _ => rfl))))) mss_nil)
  (mss_cons (ms_if (mt_cmp2 op_notN o_isnt (weak (me_ix ix_seq o_ix (me_varW (pv 3)) (weak me_int) (fun _ _ => rfl))) (weak me_non) (nomark _)) (mss_one (ms_set (ps_set (i := 4) sc__law_anew.nd rfl (Or.inl rfl) (me_call ((d__law_spot_times T).mono (by decide)) hr tk (by rfl) (alen_cons (alen_cons alen_nil)) (ma_cons (me_call ((d__law_spot_of T).mono (by decide)) hr tk (by rfl) (alen_cons alen_nil) (ma_cons (me_ix ix_seq o_ix (me_varW (pv 3)) (weak me_int) (fun _ _ => rfl)) ma_nil)) (ma_cons (me_ix ix_seq o_ix (me_varW (pv 4)) (weak me_int) (fun _ _ => rfl)) ma_nil)))))) mss_nil)
  (mss_one (ms_app (ps_expr (pe_bm PySem.F.plainAttrs_list PySem.F.slot_list_append PySem.F.type_list_append mt_append (pv 2) (pa_cons (me_op2 op_add4 o_add (weak (me_cutA (me_varW (pv 3)) mo_none (mo_some me_int))) (weak (me_tup (ma_cons (me_var (pv 4)) ma_nil)))) pa_nil)))))))))
  (mss_frz (mss_one (ms_ret (me_callTy call_tuple_of c_tup (by rfl) T.z_tuple (by decide +kernel) (maw_cons (me_varW (pv 2)) maw_nil)))))))
theorem d__law_anew (T : Fx K mg) : Def P w K mg base 6 "_law_anew" 2 [] m__law_anew := by
  obtain ⟨fd, F⟩ := T.f__law_anew
  exact Def.mk' (ps := ["_law_deck", "_law_rows"]) (N := N__law_anew) (k := 5) F T.g__law_anew sc__law_anew b__law_anew ⟨[], [], .nil, F.bindsN (fun _ _ _ _ _ _ us hl => match us, hl with | [_, _], _ => rfl), fun _ _ => .nil⟩ (fun cdv A outer s H E hr => w__law_anew T fd cdv A outer s H E hr)
abbrev N__law_any : List Str := ["_law_deck", "_law_rows", "_law_k", "_law_other", "_law_far_here", "_law_p", "_law_q", "_law_part", "_law_way"]
theorem sc__law_any : FnScope N__law_any ["_law_deck", "_law_rows"] (defScope (top 57)) := ⟨rfl, rfl, rfl, by decide +kernel, rfl, by decide +kernel, by decide +kernel⟩
theorem w__law_any (T : Fx K mg) (fd : FuncData) (cdv : Value) (A : Around) (outer : List Env) (s : Shared) (H : Hp) (E : XK) (hr : Room 4 (A.deeper (envOfC "_law_any" (defScope (top 57)) s.heap.objs.size (He.ga K "_law_any") cdv))) :
    PSs (cxOf (L2.CX P w) P w K mg base N__law_any "_law_any" (defScope (top 57)) (He.ga K "_law_any") cdv A outer s H E) (defBody (top 57)) (tS K (fun cls d _ H => E cls d H) b__law_any) := by
  have tk := tk_cx (P := P) (w := w) (K := K) (mg := mg) (base := base) (N := N__law_any) (qual := "_law_any") (scope := defScope (top 57)) (f := He.ga K "_law_any") (cd := cdv) (A := A) (outer := outer) (s := s) (H := H) (E := E)
  exact (mss_cons (ms_set (ps_set (i := 2) sc__law_any.nd rfl (Or.inl rfl) (me_callS ((d__law_take T).mono (by decide)) hr tk (by rfl) (alen_cons (alen_cons alen_nil)) (ma_cons (me_var (pv 0)) (ma_cons (me_op2 op_sub o_sub (weak (me_callB call_len3 c_len (by rfl) T.z_len (by decide +kernel) (maw_cons (me_varW (pv 1)) maw_nil))) (weak me_int)) ma_nil)))))
  (mss_cons (ms_set (ps_set (i := 3) sc__law_any.nd rfl (Or.inl rfl) (me_ix ix_seq o_ix (me_varW (pv 1)) (weak (me_op2 op_add4 o_add (weak (me_op2 op_add4 o_add (me_varW (pv 2)) (weak me_int))) (weak (me_callS ((d__law_take T).mono (by decide)) hr tk (by rfl) (alen_cons (alen_cons alen_nil)) (ma_cons (me_var (pv 0)) (ma_cons (me_op2 op_sub o_sub (weak (me_op2 op_sub o_sub (weak (me_callB call_len3 c_len (by rfl) T.z_len (by decide +kernel) (maw_cons (me_varW (pv 1)) maw_nil))) (weak me_int))) (me_varW (pv 2))) ma_nil)))))) (fun _ _ => rfl))))
  (mss_cons (ms_set (ps_set (i := 4) sc__law_any.nd rfl (Or.inl rfl) (me_ix ix_seq o_ix (weak (me_new (mf_lst (ma_cons me_int (ma_cons (me_op2 op_pow o_pow (weak me_int) (weak me_int)) ma_nil))))) (weak (me_callTy (call_intA T.lim) c_intA (by rfl) T.z_int (by decide +kernel) (maw_cons (weak (me_cmp2 (op_eqD hr.units) o_eq (weak (me_callS ((d__law_take T).mono (by decide)) hr tk (by rfl) (alen_cons (alen_cons alen_nil)) (ma_cons (me_var (pv 0)) (ma_cons me_int ma_nil)))) (weak me_int) (nomark _))) maw_nil))) (fun _ _ => rfl))))
  (mss_cons (ms_set (ps_set (i := 5) sc__law_any.nd rfl (Or.inl rfl) (me_op2 op_add4 o_add (weak (me_op2 op_mulW o_mul (weak (me_callS ((d__law_signed T).mono (by decide)) hr tk (by rfl) (alen_cons (alen_cons alen_nil)) (ma_cons (me_var (pv 0)) (ma_cons me_int ma_nil)))) (me_varW (pv 4)))) (weak (me_callS ((d__law_signed T).mono (by decide)) hr tk (by rfl) (alen_cons (alen_cons alen_nil)) (ma_cons (me_var (pv 0)) (ma_cons me_int ma_nil)))))))
  (mss_cons (ms_set (ps_set (i := 6) sc__law_any.nd rfl (Or.inl rfl) (me_op2 op_add4 o_add (weak (me_op2 op_mulW o_mul (weak (me_callS ((d__law_signed T).mono (by decide)) hr tk (by rfl) (alen_cons (alen_cons alen_nil)) (ma_cons (me_var (pv 0)) (ma_cons me_int ma_nil)))) (me_varW (pv 4)))) (weak (me_callS ((d__law_signed T).mono (by decide)) hr tk (by rfl) (alen_cons (alen_cons alen_nil)) (ma_cons (me_var (pv 0)) (ma_cons me_int ma_nil)))))))
  (mss_cons (ms_set (ps_set (i := 7) sc__law_any.nd rfl (Or.inl rfl) (me_callB (call_max2 rfl) c_max2 (by rfl) T.z_max (by decide +kernel) (maw_cons (weak me_int) (maw_cons (weak (me_call ((d__law_gcd T).mono (by decide)) hr tk (by rfl) (alen_cons (alen_cons alen_nil)) (ma_cons (me_var (pv 5)) (ma_cons (me_var (pv 6)) ma_nil)))) maw_nil)))))
  (mss_cons (ms_set (ps_set (i := 8) sc__law_any.nd rfl (Or.inl rfl) (me_ix ix_seq o_ix (weak (me_new (mf_lst (ma_cons (me_tup (ma_cons (me_op2 op_fdivB o_div (me_varW (pv 5)) (me_varW (pv 7))) (ma_cons (me_op2 op_fdivB o_div (me_varW (pv 6)) (me_varW (pv 7))) ma_nil))) (ma_cons (me_tup (ma_cons me_int (ma_cons (me_un un_neg o_neg (weak me_int)) ma_nil))) ma_nil))))) (weak (me_callTy (call_intA T.lim) c_intA (by rfl) T.z_int (by decide +kernel) (maw_cons (weak (me_and (me_cmp2 (op_eqD hr.units) o_eq (me_varW (pv 5)) (weak me_int) (nomark _)) (me_one (me_cmp2 (op_eqD hr.units) o_eq (me_varW (pv 6)) (weak me_int) (nomark _))))) maw_nil))) (fun _ _ => rfl))))
  (mss_one (ms_ret (me_tup (ma_cons (me_ix ix_seq o_ix (weak (me_ix ix_seq o_ix (me_varW (pv 1)) (me_varW (pv 2)) (fun _ _ => rfl))) (weak me_int) (fun _ _ => rfl)) (ma_cons (me_ix ix_seq o_ix (me_varW (pv 3)) (weak me_int) (fun _ _ => rfl)) (ma_cons (me_var (pv 8)) ma_nil)))))))))))))
theorem d__law_any (T : Fx K mg) : Def P w K mg base 5 "_law_any" 2 [] m__law_any := by
  obtain ⟨fd, F⟩ := T.f__law_any
  exact Def.mk' (ps := ["_law_deck", "_law_rows"]) (N := N__law_any) (k := 4) F T.g__law_any sc__law_any b__law_any ⟨[], [], .nil, F.bindsN (fun _ _ _ _ _ _ us hl => match us, hl with | [_, _], _ => rfl), fun _ _ => .nil⟩ (fun cdv A outer s H E hr => w__law_any T fd cdv A outer s H E hr)
abbrev N__law_right : List Str := ["_law_rows", "_law_touches", "_law_touch", "_law_found"]
theorem sc__law_right : FnScope N__law_right ["_law_rows", "_law_touches"] (defScope (top 58)) := ⟨rfl, rfl, rfl, by decide +kernel, rfl, by decide +kernel, by decide +kernel⟩
theorem w__law_right (T : Fx K mg) (fd : FuncData) (cdv : Value) (A : Around) (outer : List Env) (s : Shared) (H : Hp) (E : XK) (hr : Room 8 (A.deeper (envOfC "_law_right" (defScope (top 58)) s.heap.objs.size (He.ga K "_law_right") cdv))) :
    PSs (cxOf (L2.CX P w) P w K mg base N__law_right "_law_right" (defScope (top 58)) (He.ga K "_law_right") cdv A outer s H E) (defBody (top 58)) (tS K (fun cls d _ H => E cls d H) b__law_right) := by
  have tk := tk_cx (P := P) (w := w) (K := K) (mg := mg) (base := base) (N := N__law_right) (qual := "_law_right") (scope := defScope (top 58)) (f := He.ga K "_law_right") (cd := cdv) (A := A) (outer := outer) (s := s) (H := H) (E := E)
  exact (mss_cons (ms_for po_cx rfl (mi_seq (me_var (pv 1))) (mg_name (pg_name (i := 2) sc__law_right.nd rfl (Or.inl rfl))) (mss_cons (ms_set (ps_set (i := 3) sc__law_right.nd rfl (Or.inl rfl) (me_call ((d_parting T).mono (by decide)) hr tk (by rfl) (alen_cons (alen_cons alen_nil)) (ma_cons (me_var (pv 0)) (ma_cons (me_var (pv 2)) ma_nil)))))
  (mss_one (ms_if (PW.pt (mw_or (mt_not (mt_truth (weak (me_call ((d__law_is_size T).mono (by decide)) hr tk (by rfl) (alen_cons alen_nil) (ma_cons (me_var (pv 3)) ma_nil))))) (mw_or1 (mt_cmp2 (op_neD hr.units) o_ne (me_varW (pv 3)) (weak (me_call ((d__law_fast T).mono (by decide)) hr tk (by rfl) (alen_cons (alen_cons alen_nil)) (ma_cons (me_var (pv 0)) (ma_cons (me_var (pv 2)) ma_nil)))) (nomark _))))) (mss_one (ms_ret me_bl)) mss_nil))))
  (mss_cons (ms_if (mt_truth (weak (me_call ((d__law_closes T).mono (by decide)) hr tk (by rfl) (alen_cons (alen_cons alen_nil)) (ma_cons (me_var (pv 0)) (ma_cons (me_var (pv 1)) ma_nil))))) (mss_one (ms_ret (me_cmp2 op_isBl o_isB (weak (me_call ((d_closing T).mono (by decide)) hr tk (by rfl) (alen_cons (alen_cons alen_nil)) (ma_cons (me_var (pv 0)) (ma_cons (me_callTy call_tuple_of c_tup (by rfl) T.z_tuple (by decide +kernel) (maw_cons (me_varW (pv 1)) maw_nil)) ma_nil)))) (weak me_bl) (nomark _)))) mss_nil)
  (mss_one (ms_ret (me_cmp2 op_isBl o_isB (weak (me_call ((d_closing T).mono (by decide)) hr tk (by rfl) (alen_cons (alen_cons alen_nil)) (ma_cons (me_var (pv 0)) (ma_cons (me_callTy call_tuple_of c_tup (by rfl) T.z_tuple (by decide +kernel) (maw_cons (me_varW (pv 1)) maw_nil)) ma_nil)))) (weak me_bl) (nomark _))))))
theorem d__law_right (T : Fx K mg) : Def P w K mg base 9 "_law_right" 2 [] m__law_right := by
  obtain ⟨fd, F⟩ := T.f__law_right
  exact Def.mk' (ps := ["_law_rows", "_law_touches"]) (N := N__law_right) (k := 8) F T.g__law_right sc__law_right b__law_right ⟨[], [], .nil, F.bindsN (fun _ _ _ _ _ _ us hl => match us, hl with | [_, _], _ => rfl), fun _ _ => .nil⟩ (fun cdv A outer s H E hr => w__law_right T fd cdv A outer s H E hr)
abbrev N_law : List Str := ["_law_script", "_law_deck", "_law_rows", "_law_touches", "_law_parted", "_law_fast_here", "_law_turn", "_law_touch"]
theorem sc_law : FnScope N_law ["_law_script"] (defScope (top 59)) := ⟨rfl, rfl, rfl, by decide +kernel, rfl, by decide +kernel, by decide +kernel⟩
def law0 : Stmt := (defBody (top 59)).headD (.Pass ⟨0, 0, 0, 0⟩)
def lawr : List Stmt := (defBody (top 59)).tail
theorem law_body : defBody (top 59) = law0 :: lawr := by rfl
theorem w_law0 (T : Fx K mg) (cdv : Value) (A : Around) (outer : List Env) (s : Shared) (H : Hp) (E : XK) (hr : Room 9 (A.deeper (envOfC "law" (defScope (top 59)) s.heap.objs.size (He.ga K "law") cdv))) :
    PS (cxOf (L2.CX P w) P w K mg base N_law "law" (defScope (top 59)) (He.ga K "law") cdv A outer s H E) law0 (tAsg (tCallSD (spDk 1 K m__law_new_deck) [] (WE fun cls d _ H => E cls d H) (tCons (tVar 0) tNil)) (gName 1)) := by
  have tk := tk_cx (P := P) (w := w) (K := K) (mg := mg) (base := base) (N := N_law) (qual := "law") (scope := defScope (top 59)) (f := He.ga K "law") (cd := cdv) (A := A) (outer := outer) (s := s) (H := H) (E := E)
  exact (ps_set (i := 1) sc_law.nd rfl (Or.inr rfl) (pe_deck ((d__law_new_deck T).mono (by decide)) hr tk (by rfl) (pa_cons (pv 0) pa_nil)))
theorem w_law (T : Fx K mg) (cdv : Value) (A : Around) (outer : List Env) (s : Shared) (H : Hp) (E : XK) (hr : Room 9 (A.deeper (envOfC "law" (defScope (top 59)) s.heap.objs.size (He.ga K "law") cdv))) :
    PSs (cxOf (L2.CX P w) P w K mg base N_law "law" (defScope (top 59)) (He.ga K "law") cdv A outer s H E) lawr (tS K (fun cls d _ H => E cls d H) b_law) := by
  have tk := tk_cx (P := P) (w := w) (K := K) (mg := mg) (base := base) (N := N_law) (qual := "law") (scope := defScope (top 59)) (f := He.ga K "law") (cd := cdv) (A := A) (outer := outer) (s := s) (H := H) (E := E)
  exact (mss_cons (ms_set (ps_set (i := 2) sc_law.nd rfl (Or.inr rfl) (me_callS ((d__law_scene T).mono (by decide)) hr tk (by rfl) (alen_cons (alen_cons alen_nil)) (ma_cons (me_var (pv 1)) (ma_cons me_int ma_nil)))))
  (mss_cons (ms_if (mt_cmp2 op_lt o_lt (weak (me_callB call_len3 c_len (by rfl) T.z_len (by decide +kernel) (maw_cons (me_varW (pv 2)) maw_nil))) (weak me_int) (nomark _)) (mss_one (ms_set (ps_set (i := 2) sc_law.nd rfl (Or.inr rfl) (me_callTy call_tuple_of c_tup (by rfl) T.z_tuple (by decide +kernel) (maw_cons (weak (me_new (mf_sortD hr.units (by rfl) T.z_sorted (maw_cons (weak (me_op2 op_add4 o_add (weak (me_new (mf_lst (ma_cons (me_op2 op_add4 o_add (weak (me_tup (ma_cons me_str (ma_cons (me_tup (ma_cons (me_tup (ma_cons me_int (ma_cons me_int ma_nil))) (ma_cons (me_tup (ma_cons me_int (ma_cons me_int ma_nil))) (ma_cons (me_tup (ma_cons me_int (ma_cons me_int ma_nil))) ma_nil)))) (ma_cons me_int (ma_cons me_non ma_nil)))))) (weak (me_tup (ma_cons (me_ix ix_seq o_ix (weak (me_ix ix_seq o_ix (me_varW (pv 2)) (weak me_int) (fun _ _ => rfl))) (weak me_int) (fun _ _ => rfl)) (ma_cons (me_ix ix_seq o_ix (weak (me_ix ix_seq o_ix (me_varW (pv 2)) (weak me_int) (fun _ _ => rfl))) (weak me_int) (fun _ _ => rfl)) ma_nil))))) ma_nil)))) (weak (me_new (mf_list (by rfl) T.z_list (by decide +kernel) (maw_cons (me_varW (pv 2)) maw_nil)))))) maw_nil)))) maw_nil))))) mss_nil)
  (mss_cons (ms_lc (by decide) (ps_setLc (i := 3) (own := [("_law_turn", 6)]) rfl sc_law.nd rfl rfl (sw_true rfl rfl rfl (by decide +kernel)) (toO (mi_range1 (by rfl) T.z_range (maw_cons (weak (me_op2 op_add4 o_add (weak me_int) (weak (me_callS ((d__law_take T).mono (by decide)) hr tk (by rfl) (alen_cons (alen_cons alen_nil)) (ma_cons (me_var (pv 1)) (ma_cons me_int ma_nil)))))) maw_nil))) (blkOk_by (N := N_law) (sc := defScope (top 59)) (by decide +kernel)) (fun _ _ _ _ _ => (mg_name (pg_name (i := 6) sc_law.nd rfl (Or.inl rfl)))) (fun _ _ _ _ _ => mts_nil) (fun _ _ _ _ _ => (me_callS ((d__law_any T).mono (by decide)) hr takes0 (by rfl) (alen_cons (alen_cons alen_nil)) (ma_cons (me_var (pv 1)) (ma_cons (me_var (pv 2)) ma_nil))))))
  (mss_cons (ms_lc (by decide) (ps_setLc (i := 4) (own := [("_law_touch", 7)]) rfl sc_law.nd rfl rfl (sw_true rfl rfl rfl (by decide +kernel)) (toO (mi_seq (me_var (pv 3)))) (blkOk_by (N := N_law) (sc := defScope (top 59)) (by decide +kernel)) (fun _ _ _ _ _ => (mg_name (pg_name (i := 7) sc_law.nd rfl (Or.inl rfl)))) (fun _ _ _ _ _ => (mts_one (mt_cmp2 op_ge o_ge (weak (me_ix ix_seq o_ix (weak (me_call ((d__law_fast T).mono (by decide)) hr takes0 (by rfl) (alen_cons (alen_cons alen_nil)) (ma_cons (me_var (pv 2)) (ma_cons (me_var (pv 7)) ma_nil)))) (weak me_int) (fun _ _ => rfl))) (weak me_int) (nomark _)))) (fun _ _ _ _ _ => (me_var (pv 7)))))
  (mss_cons (ms_if (PW.pt (mw_or (mt_cmp2 op_notBl o_isntB (weak (me_call ((d_closing T).mono (by decide)) hr tk (by rfl) (alen_cons (alen_cons alen_nil)) (ma_cons (me_var (pv 2)) (ma_cons (me_tup ma_nil) ma_nil)))) (weak me_bl) (nomark _)) (mw_or (mt_not (mt_truth (weak (me_call ((d__law_right T).mono (by decide)) hr tk (by rfl) (alen_cons (alen_cons alen_nil)) (ma_cons (me_var (pv 2)) (ma_cons (me_var (pv 3)) ma_nil)))))) (mw_or1 (mt_not (mt_truth (weak (me_call ((d__law_right T).mono (by decide)) hr tk (by rfl) (alen_cons (alen_cons alen_nil)) (ma_cons (me_var (pv 2)) (ma_cons (me_new (mf_rep (weak (me_cutA (me_varW (pv 3)) mo_none (mo_some me_int))) (weak me_int))) ma_nil)))))))))) (mss_one (ms_ret me_bl)) mss_nil)
  (mss_cons (ms_set (ps_set (i := 5) sc_law.nd rfl (Or.inl rfl) (me_callS ((d__law_anew T).mono (by decide)) hr tk (by rfl) (alen_cons (alen_cons alen_nil)) (ma_cons (me_var (pv 1)) (ma_cons (me_var (pv 2)) ma_nil)))))
  (mss_one (ms_ret (me_and (me_call ((d__law_right T).mono (by decide)) hr tk (by rfl) (alen_cons (alen_cons alen_nil)) (ma_cons (me_var (pv 5)) (ma_cons (me_var (pv 3)) ma_nil))) (me_and (me_call ((d__law_right T).mono (by decide)) hr tk (by rfl) (alen_cons (alen_cons alen_nil)) (ma_cons (me_var (pv 2)) (ma_cons (me_var (pv 4)) ma_nil))) (me_one (me_call ((d__law_right T).mono (by decide)) hr tk (by rfl) (alen_cons (alen_cons alen_nil)) (ma_cons (me_var (pv 2)) (ma_cons (me_var (pv 3)) ma_nil))))))))))))))
theorem d_law (T : Fx K mg) : ∃ fd : FuncData, (∀ (s : Shared) (u : Value), BindsTo s fd ⟨[u], []⟩ [("_law_script", u)]) ∧ ∀ base : Heap, FnOk P w K mg base (L2.CX P w) 10 (He.ga K "law") fd ["_law_script"] (spLaw K 8 m__law_new_deck b_law) := by
  obtain ⟨fd, F⟩ := T.f_law
  refine ⟨fd, fun s u => F.bindsA (ps := ["_law_script"]) (fun _ _ _ _ _ _ us hl => match us, hl with | [_], _ => rfl) s [u] rfl, fun base => ?_⟩
  rw [law_body] at F
  exact law_fn (N := N_law) F sc_law (by decide) ((d__law_new_deck T).mono (by decide)) (fun cdv A outer s H E hr => w_law0 T cdv A outer s H E hr) (fun cdv A outer s H E hr => w_law T cdv A outer s H E hr)
end
end MM
end
namespace MM
open PySem PySem.Spec PyProof.Rows L2
def lawChk0 : Chk := [cFree "abs", cGlo "divisor", cExc "NoShare", cGlo "share", cGlo "minus", cGlo "order", cGlo "along", cFree "zip", cFree "tuple", cGlo "spot_minus", cGlo "find_row", cGlo "parting", cVal "NOUGHT" (.tup [(.int 0), (.int 1)]), cFree "any", cGlo "closing", cFree "len", cGlo "_law_cell_at", cGlo "_law_mixed", cGlo "_law_new_deck", cGlo "_law_take", cGlo "_law_gcd", cGlo "_law_lowest", cGlo "_law_plus", cGlo "_law_times", cGlo "_law_spot_plus", cGlo "_law_spot_times", cGlo "_law_spot_less", cGlo "_law_dot", cGlo "_law_spot_of", cGlo "_law_left"]
def lawChk1 : Chk := [cGlo "_law_half", cGlo "_law_signed", cFree "range", cFree "sorted", cGlo "_law_drawn_shape", cGlo "_law_drawn_size", cGlo "_law_above", cFree "enumerate", cGlo "_law_side_ways", cGlo "_law_pair_ways", cFree "max", cGlo "_law_far", cGlo "_law_speed", cGlo "_law_between", cGlo "_law_room_by", cGlo "_law_rooms", cGlo "_law_over", cLim, cFree "int", cGlo "_law_drawn_name", cGlo "_law_drawn_way", cGlo "_law_drawn_row", cFree "min", cGlo "_law_beside", cGlo "_law_scene", cFree "isinstance", cFree "bool", cGlo "_law_whole", cGlo "_law_two", cGlo "_law_is_size"]
def lawChk2 : Chk := [cGlo "_law_fast", cGlo "_law_closes", cGlo "_law_anew", cGlo "_law_any", cGlo "_law_right", cFree "list", cGlo "law"]
def lawChk : Chk := List.flatten [lawChk0, lawChk1, lawChk2]
def lawFn0 : List He.DefD := [⟨("divisor", none), "divisor", "divisor", defArgs (top 6), defBody (top 6), defScope (top 6), [], []⟩, ⟨("share", none), "share", "share", defArgs (top 7), defBody (top 7), defScope (top 7), [.int 1], []⟩, ⟨("minus", none), "minus", "minus", defArgs (top 8), defBody (top 8), defScope (top 8), [], []⟩, ⟨("order", none), "order", "order", defArgs (top 9), defBody (top 9), defScope (top 9), [], []⟩, ⟨("along", none), "along", "along", defArgs (top 11), defBody (top 11), defScope (top 11), [], []⟩, ⟨("spot_minus", none), "spot_minus", "spot_minus", defArgs (top 12), defBody (top 12), defScope (top 12), [], []⟩, ⟨("find_row", none), "find_row", "find_row", defArgs (top 14), defBody (top 14), defScope (top 14), [], []⟩, ⟨("parting", none), "parting", "parting", defArgs (top 16), defBody (top 16), defScope (top 16), [], []⟩, ⟨("closing", none), "closing", "closing", defArgs (top 17), defBody (top 17), defScope (top 17), [], []⟩, ⟨("_law_cell_at", none), "_law_cell_at", "_law_cell_at", defArgs (top 19), defBody (top 19), defScope (top 19), [], []⟩, ⟨("_law_mixed", none), "_law_mixed", "_law_mixed", defArgs (top 20), defBody (top 20), defScope (top 20), [], []⟩, ⟨("_law_new_deck", none), "_law_new_deck", "_law_new_deck", defArgs (top 21), defBody (top 21), defScope (top 21), [], []⟩, ⟨("_law_take", none), "_law_take", "_law_take", defArgs (top 22), defBody (top 22), defScope (top 22), [], []⟩, ⟨("_law_gcd", none), "_law_gcd", "_law_gcd", defArgs (top 23), defBody (top 23), defScope (top 23), [], []⟩, ⟨("_law_lowest", none), "_law_lowest", "_law_lowest", defArgs (top 24), defBody (top 24), defScope (top 24), [], []⟩, ⟨("_law_plus", none), "_law_plus", "_law_plus", defArgs (top 25), defBody (top 25), defScope (top 25), [], []⟩, ⟨("_law_times", none), "_law_times", "_law_times", defArgs (top 26), defBody (top 26), defScope (top 26), [], []⟩, ⟨("_law_spot_plus", none), "_law_spot_plus", "_law_spot_plus", defArgs (top 27), defBody (top 27), defScope (top 27), [], []⟩, ⟨("_law_spot_times", none), "_law_spot_times", "_law_spot_times", defArgs (top 28), defBody (top 28), defScope (top 28), [], []⟩, ⟨("_law_spot_less", none), "_law_spot_less", "_law_spot_less", defArgs (top 29), defBody (top 29), defScope (top 29), [], []⟩, ⟨("_law_dot", none), "_law_dot", "_law_dot", defArgs (top 30), defBody (top 30), defScope (top 30), [], []⟩, ⟨("_law_spot_of", none), "_law_spot_of", "_law_spot_of", defArgs (top 31), defBody (top 31), defScope (top 31), [], []⟩, ⟨("_law_half", none), "_law_half", "_law_half", defArgs (top 32), defBody (top 32), defScope (top 32), [], []⟩, ⟨("_law_left", none), "_law_left", "_law_left", defArgs (top 33), defBody (top 33), defScope (top 33), [], []⟩, ⟨("_law_signed", none), "_law_signed", "_law_signed", defArgs (top 34), defBody (top 34), defScope (top 34), [], []⟩, ⟨("_law_drawn_shape", none), "_law_drawn_shape", "_law_drawn_shape", defArgs (top 35), defBody (top 35), defScope (top 35), [], []⟩, ⟨("_law_drawn_size", none), "_law_drawn_size", "_law_drawn_size", defArgs (top 36), defBody (top 36), defScope (top 36), [], []⟩, ⟨("_law_above", none), "_law_above", "_law_above", defArgs (top 37), defBody (top 37), defScope (top 37), [], []⟩, ⟨("_law_side_ways", none), "_law_side_ways", "_law_side_ways", defArgs (top 38), defBody (top 38), defScope (top 38), [], []⟩, ⟨("_law_pair_ways", none), "_law_pair_ways", "_law_pair_ways", defArgs (top 39), defBody (top 39), defScope (top 39), [], []⟩]
def lawFn1 : List He.DefD := [⟨("_law_far", none), "_law_far", "_law_far", defArgs (top 40), defBody (top 40), defScope (top 40), [], []⟩, ⟨("_law_speed", none), "_law_speed", "_law_speed", defArgs (top 41), defBody (top 41), defScope (top 41), [], []⟩, ⟨("_law_between", none), "_law_between", "_law_between", defArgs (top 42), defBody (top 42), defScope (top 42), [], []⟩, ⟨("_law_room_by", none), "_law_room_by", "_law_room_by", defArgs (top 43), defBody (top 43), defScope (top 43), [], []⟩, ⟨("_law_rooms", none), "_law_rooms", "_law_rooms", defArgs (top 44), defBody (top 44), defScope (top 44), [], []⟩, ⟨("_law_over", none), "_law_over", "_law_over", defArgs (top 45), defBody (top 45), defScope (top 45), [], []⟩, ⟨("_law_drawn_name", none), "_law_drawn_name", "_law_drawn_name", defArgs (top 46), defBody (top 46), defScope (top 46), [], []⟩, ⟨("_law_drawn_way", none), "_law_drawn_way", "_law_drawn_way", defArgs (top 47), defBody (top 47), defScope (top 47), [], []⟩, ⟨("_law_drawn_row", none), "_law_drawn_row", "_law_drawn_row", defArgs (top 48), defBody (top 48), defScope (top 48), [], []⟩, ⟨("_law_beside", none), "_law_beside", "_law_beside", defArgs (top 49), defBody (top 49), defScope (top 49), [], []⟩, ⟨("_law_scene", none), "_law_scene", "_law_scene", defArgs (top 50), defBody (top 50), defScope (top 50), [], []⟩, ⟨("_law_whole", none), "_law_whole", "_law_whole", defArgs (top 51), defBody (top 51), defScope (top 51), [], []⟩, ⟨("_law_two", none), "_law_two", "_law_two", defArgs (top 52), defBody (top 52), defScope (top 52), [], []⟩, ⟨("_law_is_size", none), "_law_is_size", "_law_is_size", defArgs (top 53), defBody (top 53), defScope (top 53), [], []⟩, ⟨("_law_fast", none), "_law_fast", "_law_fast", defArgs (top 54), defBody (top 54), defScope (top 54), [], []⟩, ⟨("_law_closes", none), "_law_closes", "_law_closes", defArgs (top 55), defBody (top 55), defScope (top 55), [], []⟩, ⟨("_law_anew", none), "_law_anew", "_law_anew", defArgs (top 56), defBody (top 56), defScope (top 56), [], []⟩, ⟨("_law_any", none), "_law_any", "_law_any", defArgs (top 57), defBody (top 57), defScope (top 57), [], []⟩, ⟨("_law_right", none), "_law_right", "_law_right", defArgs (top 58), defBody (top 58), defScope (top 58), [], []⟩, ⟨("law", none), "law", "law", defArgs (top 59), defBody (top 59), defScope (top 59), [], []⟩]
def lawFn : List He.DefD := List.flatten [lawFn0, lawFn1]
def lawLoose0 : List Str := [Str.ofString "BodyError", Str.ofString "NoShare", Str.ofString "NoBody", Str.ofString "NOUGHT", Str.ofString "divisor", Str.ofString "share", Str.ofString "minus", Str.ofString "order", Str.ofString "along", Str.ofString "spot_minus", Str.ofString "find_row", Str.ofString "parting", Str.ofString "closing", Str.ofString "_law_cell_at", Str.ofString "_law_mixed", Str.ofString "_law_new_deck", Str.ofString "_law_take", Str.ofString "_law_gcd", Str.ofString "_law_lowest", Str.ofString "_law_plus", Str.ofString "_law_times", Str.ofString "_law_spot_plus", Str.ofString "_law_spot_times", Str.ofString "_law_spot_less", Str.ofString "_law_dot", Str.ofString "_law_spot_of", Str.ofString "_law_half", Str.ofString "_law_left", Str.ofString "_law_signed", Str.ofString "_law_drawn_shape", Str.ofString "_law_drawn_size", Str.ofString "_law_above", Str.ofString "_law_side_ways", Str.ofString "_law_pair_ways", Str.ofString "_law_far", Str.ofString "_law_speed", Str.ofString "_law_between", Str.ofString "_law_room_by", Str.ofString "_law_rooms", Str.ofString "_law_over"]
def lawLoose1 : List Str := [Str.ofString "_law_drawn_name", Str.ofString "_law_drawn_way", Str.ofString "_law_drawn_row", Str.ofString "_law_beside", Str.ofString "_law_scene", Str.ofString "_law_whole", Str.ofString "_law_two", Str.ofString "_law_is_size", Str.ofString "_law_fast", Str.ofString "_law_closes", Str.ofString "_law_anew", Str.ofString "_law_any", Str.ofString "_law_right"]
def lawLoose : List Str := List.flatten [lawLoose0, lawLoose1]
theorem lawFx {K : Fg} {h : Heap} {mg : Str → Option Value} (X : K.In h) (G : h.Ns mainGlobals mg) (c : SaysM lawChk lawFn K) : Fx K mg where
  z_abs := cFree_ok X G (c.fact 0)
  f_divisor := c.def_ 0
  g_divisor := cGlo_ok X G (c.fact 1)
  x_NoShare := cExc_ok X G (c.fact 2)
  f_share := c.def_ 1
  g_share := cGlo_ok X G (c.fact 3)
  f_minus := c.def_ 2
  g_minus := cGlo_ok X G (c.fact 4)
  f_order := c.def_ 3
  g_order := cGlo_ok X G (c.fact 5)
  f_along := c.def_ 4
  g_along := cGlo_ok X G (c.fact 6)
  z_zip := cFree_ok X G (c.fact 7)
  z_tuple := cFree_ok X G (c.fact 8)
  f_spot_minus := c.def_ 5
  g_spot_minus := cGlo_ok X G (c.fact 9)
  f_find_row := c.def_ 6
  g_find_row := cGlo_ok X G (c.fact 10)
  f_parting := c.def_ 7
  g_parting := cGlo_ok X G (c.fact 11)
  c_NOUGHT := cVal_ok X G (c.fact 12)
  z_any := cFree_ok X G (c.fact 13)
  f_closing := c.def_ 8
  g_closing := cGlo_ok X G (c.fact 14)
  z_len := cFree_ok X G (c.fact 15)
  f__law_cell_at := c.def_ 9
  g__law_cell_at := cGlo_ok X G (c.fact 16)
  f__law_mixed := c.def_ 10
  g__law_mixed := cGlo_ok X G (c.fact 17)
  f__law_new_deck := c.def_ 11
  g__law_new_deck := cGlo_ok X G (c.fact 18)
  f__law_take := c.def_ 12
  g__law_take := cGlo_ok X G (c.fact 19)
  f__law_gcd := c.def_ 13
  g__law_gcd := cGlo_ok X G (c.fact 20)
  f__law_lowest := c.def_ 14
  g__law_lowest := cGlo_ok X G (c.fact 21)
  f__law_plus := c.def_ 15
  g__law_plus := cGlo_ok X G (c.fact 22)
  f__law_times := c.def_ 16
  g__law_times := cGlo_ok X G (c.fact 23)
  f__law_spot_plus := c.def_ 17
  g__law_spot_plus := cGlo_ok X G (c.fact 24)
  f__law_spot_times := c.def_ 18
  g__law_spot_times := cGlo_ok X G (c.fact 25)
  f__law_spot_less := c.def_ 19
  g__law_spot_less := cGlo_ok X G (c.fact 26)
  f__law_dot := c.def_ 20
  g__law_dot := cGlo_ok X G (c.fact 27)
  f__law_spot_of := c.def_ 21
  g__law_spot_of := cGlo_ok X G (c.fact 28)
  f__law_left := c.def_ 23
  g__law_left := cGlo_ok X G (c.fact 29)
  f__law_half := c.def_ 22
  g__law_half := cGlo_ok X G (c.fact 30)
  f__law_signed := c.def_ 24
  g__law_signed := cGlo_ok X G (c.fact 31)
  z_range := cFree_ok X G (c.fact 32)
  z_sorted := cFree_ok X G (c.fact 33)
  f__law_drawn_shape := c.def_ 25
  g__law_drawn_shape := cGlo_ok X G (c.fact 34)
  f__law_drawn_size := c.def_ 26
  g__law_drawn_size := cGlo_ok X G (c.fact 35)
  f__law_above := c.def_ 27
  g__law_above := cGlo_ok X G (c.fact 36)
  z_enumerate := cFree_ok X G (c.fact 37)
  f__law_side_ways := c.def_ 28
  g__law_side_ways := cGlo_ok X G (c.fact 38)
  f__law_pair_ways := c.def_ 29
  g__law_pair_ways := cGlo_ok X G (c.fact 39)
  z_max := cFree_ok X G (c.fact 40)
  f__law_far := c.def_ 30
  g__law_far := cGlo_ok X G (c.fact 41)
  f__law_speed := c.def_ 31
  g__law_speed := cGlo_ok X G (c.fact 42)
  f__law_between := c.def_ 32
  g__law_between := cGlo_ok X G (c.fact 43)
  f__law_room_by := c.def_ 33
  g__law_room_by := cGlo_ok X G (c.fact 44)
  f__law_rooms := c.def_ 34
  g__law_rooms := cGlo_ok X G (c.fact 45)
  f__law_over := c.def_ 35
  g__law_over := cGlo_ok X G (c.fact 46)
  lim := cLim_ok (c.fact 47)
  z_int := cFree_ok X G (c.fact 48)
  f__law_drawn_name := c.def_ 36
  g__law_drawn_name := cGlo_ok X G (c.fact 49)
  f__law_drawn_way := c.def_ 37
  g__law_drawn_way := cGlo_ok X G (c.fact 50)
  f__law_drawn_row := c.def_ 38
  g__law_drawn_row := cGlo_ok X G (c.fact 51)
  z_min := cFree_ok X G (c.fact 52)
  f__law_beside := c.def_ 39
  g__law_beside := cGlo_ok X G (c.fact 53)
  f__law_scene := c.def_ 40
  g__law_scene := cGlo_ok X G (c.fact 54)
  z_isinstance := cFree_ok X G (c.fact 55)
  z_bool := cFree_ok X G (c.fact 56)
  f__law_whole := c.def_ 41
  g__law_whole := cGlo_ok X G (c.fact 57)
  f__law_two := c.def_ 42
  g__law_two := cGlo_ok X G (c.fact 58)
  f__law_is_size := c.def_ 43
  g__law_is_size := cGlo_ok X G (c.fact 59)
  f__law_fast := c.def_ 44
  g__law_fast := cGlo_ok X G (c.fact 60)
  f__law_closes := c.def_ 45
  g__law_closes := cGlo_ok X G (c.fact 61)
  f__law_anew := c.def_ 46
  g__law_anew := cGlo_ok X G (c.fact 62)
  f__law_any := c.def_ 47
  g__law_any := cGlo_ok X G (c.fact 63)
  f__law_right := c.def_ 48
  g__law_right := cGlo_ok X G (c.fact 64)
  z_list := cFree_ok X G (c.fact 65)
  f_law := c.def_ 49
  g_law := cGlo_ok X G (c.fact 66)
abbrev lawRow : PySem.W.OpenRow := PySem.W.OpenLaw.row PySem.Challenge.rw_restbodies_k46_partings
abbrev lawHook : PySem.W.Hook := hookM 5 lawChk lawFn
def lawOb (s : PySem.W.SharedT) : He.AlD := obsMG 5 lawChk lawFn (HandSHeadRun.getT s)
theorem lawOb_eq (s : PySem.W.SharedT) : lawOb s = lawHook.obs s.abs := obsMG_eq (HandSHeadRun.getT_eq s)
theorem lawRun (w : World) : HandSHeadRun.RunEq lawRow (PySem.W.view lawRow.prog [59]) lawHook lawOb 20000 lawLoose w := by
  intro os
  kernel_rfl
end MM
open PySem PySem.W PySem.Calls PyProof.Rows
theorem PySem.Challenge.cw_restbodies_k46_partings_holds : PySem.Challenge.rw_restbodies_k46_partings.Holds := by
  w_on; o_law
  refine HandSHeadRun.head_any (r := OpenLaw.row PySem.Challenge.rw_restbodies_k46_partings) (q := view (OpenLaw.row PySem.Challenge.rw_restbodies_k46_partings).prog [59]) (H := MM.lawHook) (ob := MM.lawOb) (M := 20000) (loose := MM.lawLoose) (d := HandSHeadRun.topDef (OpenLaw.row PySem.Challenge.rw_restbodies_k46_partings).prog 59) (kwd := []) MM.lawOb_eq
    (by kernel_rfl) (fun s => by kernel_rfl) MM.lawRun (by kernel_rfl) (by kernel_rfl) (by kernel_rfl) (by rfl) (by first | assumption | decide +kernel) (by decide +kernel) ⟨rfl, rfl, rfl, rfl, rfl, by decide +kernel⟩ ?hw ?hc
  case hw => w_witness2
  case hc =>
    exact MM.walk_mm (n := 63) (k := 10) (nn := 5) (N := 8) (m := MM.m__law_new_deck) (rest := MM.b_law) rfl (by decide) rfl rfl (MM.room_k (by decide))
      (fun w mg K h X G c => ⟨MM.cGlo_ok X G (c.fact 66), MM.d_law (MM.lawFx X G c)⟩) (fun ns hl hb => MM.law_good ns hl hb)

