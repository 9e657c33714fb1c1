import PyProof.Rows.All
import Wide.All
import OpenK.AllK
import Wide.FinOn
import HandS.ForMost
import HandS.Exc
import HandS.ExcOwn
import HandS.TryOnly
import HandS.TryMany
import HandS.WordsExc
import HandS.SortKw
import HandS.SortInts
import HandS.Wide
import HandS.WideMore
import HandS.WideBits
import HandS.Defaults
import HandS.Flow
import HandS.Style
import HandS.Conv
import HandS.Lambda
import HandS.Head0
import HandS.Head1
import HandS.Head2
import HandS.Head3
import HandS.HeadEnd
import HandS.HeadHook1
import HandS.HeadHook2
import HandS.HeadHook3
import HandS.HeadHook4
import HandS.TupAny
import HandS.IsInst
import HandS.Star
import HandS.RevRange
import KE.GoesMore
import HandS.Zip
import HandS.ExcInit
import HandS.ExcField
import HandS.ExcIs
import KE.KExcIs
import HandS.EndTab
import HandS.HeadWalk
import KE.SortKeyHeap
import KE.KSortKey
import HandS.SetFor
import HandS.Set
import HandS.More
import PySem.Challenge.RW_askedorder_k76_questions_of_all_orders
set_option Elab.async false
set_option linter.all false
set_option maxRecDepth 100000
set_option maxHeartbeats 0
set_option autoImplicit false
/-! DL: values as trees, a symbolic heap by a list of places, over the hand layer. -/
namespace DL
open PySem PySem.Spec PyProof.Rows L2

/-- a value; tuples are trees -/
inductive D where
  | non | bl (b : Bool) | int (i : Int) | str (x : Str) | ref (a : Addr) | ty (n : String) | tup (ds : List D)

mutual
inductive DR (K : PySem.W.Frag) (H : Hp) : D → V → Prop
  | non : DR K H .non .non
  | bl {b} : DR K H (.bl b) (.bl b)
  | int {i} : DR K H (.int i) (.int i)
  | str {x} : DR K H (.str x) (.str x)
  | ref {a} : DR K H (.ref a) (.ref a)
  | ty {n} : DR K H (.ty n) (.ty n)
  | tup {ds vs a} : SqT K H a vs → DRs K H ds vs → DR K H (.tup ds) (.ref a)
inductive DRs (K : PySem.W.Frag) (H : Hp) : List D → List V → Prop
  | nil : DRs K H [] []
  | cons {d v ds vs} : DR K H d v → DRs K H ds vs → DRs K H (d :: ds) (v :: vs)
end
/-- the defs of the laws that make lambdas -/
def lamNames : List (Str × Option Str) := [("_law_run_due", none), ("leap_with", none), ("place_before", none), ("place_behind", none), ("_law_numbers_right", none), ("_law_lengths_right", none), ("law", none), ("Known", some "order"), ("_law_right", none), ("_law_refused_right", none), ("_law_all_say", none),
  ("stable_order", none), ("_law_words_refused", none), ("_law_rows_refused", none), ("_law_keys_refused", none), ("_law_empty_refused", none), ("_law_sizes_refused", none), ("_law_heaps_refused", none), ("places_asked", none), ("_law_all", none)]
def quOf (p : Str × Option Str) : Str := match p.2 with
  | none => p.1
  | some m => p.1 ++ "." ++ m
/-- their tables of code, with what stands in them -/
def tabsK (K : PySem.W.Frag) : List (Addr × Str) := lamNames.map fun p => ((He.cT K p).2, quOf p ++ ".<locals>." ++ "<lambda>")
/-- tuples and tables of code stay -/
def TK (K : PySem.W.Frag) (H H' : Hp) : Prop := (∀ a vs, SqT K H a vs → SqT K H' a vs) ∧ (∀ p ∈ tabsK K, LamX.TabS H p.1 p.2 → LamX.TabS H' p.1 p.2) ∧ ∀ c q, H c = some (LamX.CodeO c q) → H' c = some (LamX.CodeO c q)
theorem TK.refl {K H} : TK K H H := ⟨fun _ _ h => h, fun _ _ h => h, fun _ _ h => h⟩
theorem TK.trans {K H H1 H2} (a : TK K H H1) (b : TK K H1 H2) : TK K H H2 := ⟨fun _ _ h => b.1 _ _ (a.1 _ _ h), fun _ m h => b.2.1 _ m (a.2.1 _ m h), fun _ _ h => b.2.2 _ _ (a.2.2 _ _ h)⟩
section
variable {K : PySem.W.Frag} {H H' : Hp}
mutual
theorem DR.mono (t : TK K H H') : ∀ {d : D} {v : V}, DR K H d v → DR K H' d v
  | _, _, .non => .non
  | _, _, .bl => .bl
  | _, _, .int => .int
  | _, _, .str => .str
  | _, _, .ref => .ref
  | _, _, .ty => .ty
  | _, _, .tup s r => .tup (t.1 _ _ s) (DRs.mono t r)
theorem DRs.mono (t : TK K H H') : ∀ {ds : List D} {vs : List V}, DRs K H ds vs → DRs K H' ds vs
  | _, _, .nil => .nil
  | _, _, .cons a b => .cons (DR.mono t a) (DRs.mono t b)
end
theorem DRs.length : ∀ {ds : List D} {vs : List V}, DRs K H ds vs → ds.length = vs.length
  | _, _, .nil => rfl
  | _, _, .cons _ b => congrArg Nat.succ (DRs.length b)
theorem DRs.append : ∀ {ds es : List D} {vs us : List V}, DRs K H ds vs → DRs K H es us → DRs K H (ds ++ es) (vs ++ us)
  | _, _, _, _, .nil, b => b
  | _, _, _, _, .cons a r, b => .cons a (DRs.append r b)
theorem DRs.get : ∀ {ds : List D} {vs : List V} {i : Nat} {d : D}, DRs K H ds vs → ds[i]? = some d → ∃ v, vs[i]? = some v ∧ DR K H d v
  | _, _, _, _, .nil, e => by simp at e
  | _, _, 0, _, .cons r _, e => by simp at e; subst e; exact ⟨_, rfl, r⟩
  | _, _, i + 1, _, .cons _ t, e => by
    obtain ⟨u, h1, h2⟩ := DRs.get (i := i) t (by simpa using e)
    exact ⟨u, by simpa using h1, h2⟩
theorem DRs.get' : ∀ {ds : List D} {vs : List V} {i : Nat} {v : V}, DRs K H ds vs → vs[i]? = some v → ∃ d, ds[i]? = some d ∧ DR K H d v
  | _, _, _, _, .nil, e => by simp at e
  | _, _, 0, _, .cons r _, e => by simp at e; subst e; exact ⟨_, rfl, r⟩
  | _, _, i + 1, _, .cons _ t, e => by
    obtain ⟨u, h1, h2⟩ := DRs.get' (i := i) t (by simpa using e)
    exact ⟨u, by simpa using h1, h2⟩
theorem DRs.set {d : D} {v : V} (r : DR K H d v) : ∀ {ds : List D} {vs : List V} (i : Nat), DRs K H ds vs → DRs K H (ds.set i d) (vs.set i v)
  | _, _, _, .nil => .nil
  | _, _, 0, .cons _ t => .cons r t
  | _, _, i + 1, .cons q t => .cons q (DRs.set r i t)
theorem DRs.take : ∀ {ds : List D} {vs : List V} (n : Nat), DRs K H ds vs → DRs K H (ds.take n) (vs.take n)
  | _, _, 0, _ => .nil
  | _, _, _ + 1, .nil => .nil
  | _, _, n + 1, .cons r t => .cons r (DRs.take n t)
theorem DRs.drop : ∀ {ds : List D} {vs : List V} (n : Nat), DRs K H ds vs → DRs K H (ds.drop n) (vs.drop n)
  | _, _, 0, r => r
  | _, _, _ + 1, .nil => .nil
  | _, _, n + 1, .cons r t => DRs.drop n t
theorem DRs.reverse : ∀ {ds : List D} {vs : List V}, DRs K H ds vs → DRs K H ds.reverse vs.reverse
  | _, _, .nil => .nil
  | _, _, .cons a b => by
    rw [List.reverse_cons, List.reverse_cons]
    exact (DRs.reverse b).append (.cons a .nil)
theorem DRs.ints : ∀ (xs : List Int), DRs K H (xs.map D.int) (xs.map V.int)
  | [] => .nil
  | _ :: r => .cons .int (DRs.ints r)
theorem DRs.ints' : ∀ {xs : List Int} {vs : List V}, DRs K H (xs.map D.int) vs → vs = xs.map V.int
  | [], _, .nil => rfl
  | _ :: _, _, .cons .int r => by rw [DRs.ints' r]; rfl
end

/-! ### names of attributes: numbers -/
def fnamesS : List String := ["marks", "log", "answers", "pair", "row", "is_turned", "asker", "joiner", "stack", "steps", "busy", "many", "words", "counts", "shapes", "ways", "parts", "calm", "found", "joins", "index", "name", "question", "answer", "count", "limit", "left", "one", "other", "span", "aside", "line", "sorts", "sorting", "base", "gone", "has_more", "is_forward", "sorter", "tallied", "things", "whole"]
def fnames : List Str := fnamesS.map PySem.Str.ofString
def fname (i : Nat) : Str := fnames.getD i ""
theorem fnames_nd : fnames.Nodup := by decide +kernel
theorem fname_inj {i j : Nat} (hi : i < fnames.length) (hj : j < fnames.length) (e : fname i = fname j) : i = j := by
  have h1 : fnames[i]? = some (fname i) := by unfold fname; simp [List.getD, List.getElem?_eq_getElem hi]
  have h2 : fnames[j]? = some (fname j) := by unfold fname; simp [List.getD, List.getElem?_eq_getElem hj]
  rw [e] at h1
  exact nd_ix fnames_nd h1 h2
/-- the attributes of an instance -/
inductive FRs (K : PySem.W.Frag) (H : Hp) : List (Nat × D) → List (Str × V) → Prop
  | nil : FRs K H [] []
  | cons {i d v fs gs} : i < fnames.length → DR K H d v → FRs K H fs gs → FRs K H ((i, d) :: fs) ((fname i, v) :: gs)
def putN (i : Nat) (d : D) : List (Nat × D) → List (Nat × D)
  | [] => [(i, d)]
  | (j, e) :: r => match Nat.beq j i with
    | true => (j, d) :: r
    | false => (j, e) :: putN i d r
def getN (i : Nat) : List (Nat × D) → Option D
  | [] => none
  | (j, e) :: r => match Nat.beq j i with
    | true => some e
    | false => getN i r
section
variable {K : PySem.W.Frag} {H H' : Hp}
theorem FRs.mono (t : TK K H H') : ∀ {fs gs}, FRs K H fs gs → FRs K H' fs gs
  | _, _, .nil => .nil
  | _, _, .cons hi a b => .cons hi (a.mono t) (FRs.mono t b)
theorem FRs.length : ∀ {fs gs}, FRs K H fs gs → fs.length = gs.length
  | _, _, .nil => rfl
  | _, _, .cons _ _ b => congrArg Nat.succ (FRs.length b)
theorem FRs.get {i : Nat} (hi : i < fnames.length) : ∀ {fs gs} {d : D}, FRs K H fs gs → getN i fs = some d → ∃ v, gs.lookup (fname i) = some v ∧ DR K H d v
  | _, _, _, .nil, e => by cases e
  | (j, x) :: r, _, d, .cons (v := v) (gs := gs) hj a b, e => by
    unfold getN at e
    cases q : Nat.beq j i with
    | true =>
      rw [q] at e
      have e1 : j = i := Nat.eq_of_beq_eq_true q
      have e2 : x = d := Option.some.inj e
      subst e1 e2
      exact ⟨v, by simp [List.lookup], a⟩
    | false =>
      rw [q] at e
      obtain ⟨v', h1, h2⟩ := FRs.get hi b e
      refine ⟨v', ?_, h2⟩
      have ne : fname i ≠ fname j := fun z => by
        have := fname_inj hi hj z
        subst this
        rw [Nat.beq_refl] at q
        cases q
      have : (fname i == fname j) = false := by simpa using ne
      rw [List.lookup, this]
      exact h1
theorem FRs.none_of {m : Str} (hm : ∀ i, i < fnames.length → fname i ≠ m) : ∀ {fs gs}, FRs K H fs gs → gs.lookup m = none
  | _, _, .nil => rfl
  | _, _, .cons (i := j) hj a b => by
    have : (m == fname j) = false := by simpa using (hm j hj).symm
    rw [List.lookup, this]
    exact FRs.none_of hm b
theorem putF_nil (f : Str) (v : V) : putF f v [] = [(f, v)] := rfl
theorem putF_cons (f g : Str) (v u : V) (r : List (Str × V)) : putF f v ((g, u) :: r) = if g = f then (g, v) :: r else (g, u) :: putF f v r := by
  rfl
theorem FRs.put {i : Nat} (hi : i < fnames.length) {d : D} {v : V} (rv : DR K H d v) : ∀ {fs gs}, FRs K H fs gs → FRs K H (putN i d fs) (putF (fname i) v gs)
  | _, _, .nil => .cons hi rv .nil
  | (j, x) :: r, _, .cons (v := u) (gs := gs) hj a b => by
    unfold putN
    rw [putF_cons]
    cases q : Nat.beq j i with
    | true =>
      have e1 : j = i := Nat.eq_of_beq_eq_true q
      subst e1
      rw [if_pos rfl]
      exact .cons hj rv b
    | false =>
      have ne : fname j ≠ fname i := fun z => by
        have := fname_inj hj hi z
        subst this
        rw [Nat.beq_refl] at q
        cases q
      rw [if_neg ne]
      exact .cons hj a (FRs.put hi rv b)
end

/-! ### the symbolic heap -/
inductive LO where
  | lst (ds : List D)
  | ro (ds : List D)
  | ins (C : Addr) (fs : List (Nat × D))
  | dk (kvs : List (Key × D))
  | dt (kvs : List (List Key × D))
  | xd (fs : List (Nat × D))
  | gh (P : Hp → Prop)
abbrev LL := List (Addr × LO)
abbrev Sl := List (Option D)
def isRw : LO → Bool
  | .ro _ => false
  | .gh _ => false
  | _ => true
inductive KVs (K : PySem.W.Frag) (H : Hp) {κ : Type} : List (κ × D) → List (κ × V) → Prop
  | nil : KVs K H [] []
  | cons {k d v fs gs} : DR K H d v → KVs K H fs gs → KVs K H ((k, d) :: fs) ((k, v) :: gs)
theorem KVs.mono {κ : Type} {K : PySem.W.Frag} {H H' : Hp} (t : TK K H H') : ∀ {fs : List (κ × D)} {gs}, KVs K H fs gs → KVs K H' fs gs
  | _, _, .nil => .nil
  | _, _, .cons a b => .cons (a.mono t) (KVs.mono t b)
/-- a list of the written part -/
def KL (K : PySem.W.Frag) (a : Addr) (xs : List V) : Prop :=
  ∃ (o : Obj) (its : Array Value) (n : Nat), K.lookup a = some o ∧ o.cls = .type "list" ∧ o.dict = none ∧ o.data = .seq its n ∧ its.size ≤ sizeLine ∧ Vals xs its.toList
/-- what stands at a is o -/
def OKo (K : PySem.W.Frag) (H : Hp) (a : Addr) : LO → Prop
  | .lst ds => ∃ vs, H a = some (.lst vs) ∧ DRs K H ds vs
  | .ro ds => ∃ vs, ((∃ o, H a = some (.frz o (.lst vs))) ∨ KL K a vs) ∧ DRs K H ds vs
  | .ins C fs => ∃ dx gs, H a = some (.ins C dx gs) ∧ FRs K H fs gs
  | .dk kvs => ∃ gs, H a = some (.dK gs) ∧ KVs K H kvs gs
  | .dt kvs => ∃ gs, H a = some (.dT gs) ∧ KVs K H kvs gs
  | .xd fs => ∃ gs, H a = some (.xd gs) ∧ FRs K H fs gs
  | .gh P => P H ∧ ∀ H1 H2, P H1 → TK K H1 H2 → P H2
structure HL (K : PySem.W.Frag) (H : Hp) (L : LL) : Prop where
  ok : ∀ p ∈ L, OKo K H p.1 p.2
  nd : L.Pairwise fun p q => isRw p.2 = true → isRw q.2 = true → p.1 ≠ q.1
inductive Sel : LL → Addr → LO → LL → Prop
  | here {a o L} : Sel ((a, o) :: L) a o L
  | there {x L a o L'} : Sel L a o L' → Sel (x :: L) a o (x :: L')
inductive Has : LL → Addr → LO → Prop
  | here {a o L} : Has ((a, o) :: L) a o
  | there {x L a o} : Has L a o → Has (x :: L) a o
inductive Chg : LL → Addr → LO → LO → LL → Prop
  | here {a o o' L} : Chg ((a, o) :: L) a o o' ((a, o') :: L)
  | there {x L a o o' L'} : Chg L a o o' L' → Chg (x :: L) a o o' (x :: L')
/-- L holds all that M holds -/
inductive Cov : LL → LL → Prop
  | refl {L} : Cov L L
  | drop {x L M} : Cov L M → Cov (x :: L) M
  | take {L a o o' L1 M} : Sel L a o' L1 → o' = o → Cov L1 M → Cov L ((a, o) :: M)
theorem Sel.perm {L a o L'} (h : Sel L a o L') : L.Perm ((a, o) :: L') := by
  induction h with
  | here => exact .refl _
  | there _ ih => exact (List.Perm.cons _ ih).trans (.swap _ _ _)
theorem Has.mem {L a o} (h : Has L a o) : (a, o) ∈ L := by
  induction h with
  | here => exact List.mem_cons_self
  | there _ ih => exact List.mem_cons_of_mem _ ih
theorem Has.of_mem {a o} : ∀ {L : LL}, (a, o) ∈ L → Has L a o
  | [], h => by cases h
  | x :: r, h => by
    rcases List.mem_cons.mp h with e | h
    · subst e; exact .here
    · exact .there (Has.of_mem h)
theorem HL.perm {K H L L'} (h : HL K H L) (p : L.Perm L') : HL K H L' :=
  ⟨fun q hq => h.ok q (p.mem_iff.mpr hq), (p.pairwise_iff (fun {x y} z h1 h2 => (z h2 h1).symm)).mp h.nd⟩
theorem HL.tail {K H x L} (h : HL K H (x :: L)) : HL K H L := ⟨fun q hq => h.ok q (List.mem_cons_of_mem _ hq), (List.pairwise_cons.mp h.nd).2⟩
theorem Cov.perm {L M} (c : Cov L M) : ∃ G, L.Perm (M ++ G) := by
  induction c with
  | refl => exact ⟨[], by simp⟩
  | @drop x L M _ ih =>
    obtain ⟨G, p⟩ := ih
    exact ⟨x :: G, (List.Perm.cons _ p).trans List.perm_middle.symm⟩
  | take s e _ ih =>
    obtain ⟨G, p⟩ := ih
    subst e
    exact ⟨G, s.perm.trans (List.Perm.cons _ p)⟩
theorem HL.left {K H G} : ∀ {M}, HL K H (M ++ G) → HL K H M := fun {M} h =>
  ⟨fun q hq => h.ok q (List.mem_append_left _ hq), (List.pairwise_append.mp h.nd).1⟩
theorem HL.cov {K H L M} (h : HL K H L) (c : Cov L M) : HL K H M := by
  obtain ⟨G, p⟩ := c.perm
  exact (h.perm p).left
theorem Cov.has {L M a o} (c : Cov L M) (h : Has M a o) : Has L a o := by
  obtain ⟨G, p⟩ := c.perm
  exact .of_mem (p.mem_iff.mpr (List.mem_append_left _ h.mem))
section
variable {K : PySem.W.Frag} {H H' : Hp} {L L' : LL} {a : Addr} {o o' : LO}
theorem HL.has (h : HL K H L) (s : Has L a o) : OKo K H a o := h.ok _ s.mem
theorem OKo.there (h : OKo K H a o) (r : isRw o = true) : ∃ u, H a = some u := by
  cases o with
  | ro ds => cases r
  | lst ds => obtain ⟨vs, e, _⟩ := h; exact ⟨_, e⟩
  | ins C fs => obtain ⟨dx, gs, e, _⟩ := h; exact ⟨_, e⟩
  | dk kvs => obtain ⟨gs, e, _⟩ := h; exact ⟨_, e⟩
  | dt kvs => obtain ⟨gs, e, _⟩ := h; exact ⟨_, e⟩
  | xd fs => obtain ⟨gs, e, _⟩ := h; exact ⟨_, e⟩
  | gh P => cases r
/-- a rw object elsewhere, or a ro one, over a change at b where something rw stood -/
theorem OKo.step (h : OKo K H a o) (t : TK K H H') (e : ∀ u, H a = some u → H' a = some u) : OKo K H' a o := by
  cases o with
  | ro ds =>
    obtain ⟨vs, h, r⟩ := h
    refine ⟨vs, ?_, r.mono t⟩
    rcases h with ⟨ob, h⟩ | h
    · exact .inl ⟨ob, e _ h⟩
    · exact .inr h
  | lst ds => obtain ⟨vs, h, r⟩ := h; exact ⟨vs, e _ h, r.mono t⟩
  | ins C fs => obtain ⟨dx, gs, h, r⟩ := h; exact ⟨dx, gs, e _ h, r.mono t⟩
  | dk kvs => obtain ⟨gs, h, r⟩ := h; exact ⟨gs, e _ h, r.mono t⟩
  | dt kvs => obtain ⟨gs, h, r⟩ := h; exact ⟨gs, e _ h, r.mono t⟩
  | xd fs => obtain ⟨gs, h, r⟩ := h; exact ⟨gs, e _ h, r.mono t⟩
  | gh P => exact ⟨h.2 _ _ h.1 t, h.2⟩
end
end DL

namespace DL
open PySem PySem.Spec PyProof.Rows L2
section
variable {K : PySem.W.Frag} {H H' : Hp} {L L' : LL} {a p : Addr} {o o' : LO} {ho ho' : HO}
/-- what may be written over -/
def MutL : HO → Prop
  | .lst _ => True
  | .dK _ => True
  | .dT _ => True
  | .ins _ _ _ => True
  | _ => False
theorem MutL.mut {o : HO} (h : MutL o) : Mut (some o) := by
  cases o with
  | lst _ => trivial
  | dK _ => trivial
  | dT _ => trivial
  | ins _ _ _ => trivial
  | _ => exact (show False from h).elim
theorem TK.new (hp : H p = none) : TK K H (upd H p ho) := ⟨fun a vs h => by
  rcases h with (h | ⟨ob, h⟩) | h
  · exact .inl (.inl (by rw [upd_ne (ne_of_none h hp)]; exact h))
  · exact .inl (.inr ⟨ob, by rw [upd_ne (ne_of_none h hp)]; exact h⟩)
  · exact .inr h, fun p0 _ h => h.ext fun b o e => by rw [upd_ne (ne_of_none e hp)]; exact e, fun c q e => by rw [upd_ne (ne_of_none e hp)]; exact e⟩
theorem ne_mut {b : Addr} {u : HO} (h : H a = some ho) (m : Mut (some ho)) (hb : H b = some u) (n : ¬ Mut (some u)) : b ≠ a := fun e => by
  subst e
  rw [h] at hb
  cases hb
  exact n m
theorem ne_mutl {b : Addr} {u : HO} (h : H a = some ho) (m : MutL ho) (hb : H b = some u) (n : ¬ MutL u) : b ≠ a := fun e => by
  subst e
  rw [h] at hb
  cases hb
  exact n m
theorem TK.chg (h : H a = some ho) (m : MutL ho) : TK K H (upd H a ho') := ⟨fun b vs q => by
  rcases q with (q | ⟨ob, q⟩) | q
  · exact .inl (.inl (by rw [upd_ne (ne_mut h m.mut q (fun z => z))]; exact q))
  · exact .inl (.inr ⟨ob, by rw [upd_ne (ne_mut h m.mut q (fun z => z))]; exact q⟩)
  · exact .inr q, fun p0 _ ⟨ps, e1, e2, e3⟩ => ⟨ps, by rw [upd_ne (ne_mutl h m e1 (fun z => z))]; exact e1, e2, fun pos cv hc => by
    obtain ⟨c, e4, e5⟩ := e3 pos cv hc
    exact ⟨c, e4, by rw [upd_ne (ne_mutl h m e5 (fun z => z))]; exact e5⟩⟩, fun c q e => by rw [upd_ne (ne_mutl h m e (fun z => z))]; exact e⟩
theorem OKo.new {b : Addr} (h : OKo K H b o) (hp : H p = none) : OKo K (upd H p ho) b o := h.step (TK.new hp) fun u e => by rw [upd_ne (ne_of_none e hp)]; exact e
theorem OKo.chg {b : Addr} (h : OKo K H b o) (ha : H a = some ho) (m : MutL ho) (ne : isRw o = true → b ≠ a) : OKo K (upd H a ho') b o := by
  have t : TK K H (upd H a ho') := TK.chg ha m
  cases o with
  | ro ds =>
    obtain ⟨vs, h, r⟩ := h
    refine ⟨vs, ?_, r.mono t⟩
    rcases h with ⟨ob, h⟩ | h
    · exact .inl ⟨ob, by rw [upd_ne (ne_mut ha m.mut h (fun z => z))]; exact h⟩
    · exact .inr h
  | lst ds => obtain ⟨vs, h, r⟩ := h; exact ⟨vs, by rw [upd_ne (ne rfl)]; exact h, r.mono t⟩
  | ins C fs => obtain ⟨dx, gs, h, r⟩ := h; exact ⟨dx, gs, by rw [upd_ne (ne rfl)]; exact h, r.mono t⟩
  | dk kvs => obtain ⟨gs, h, r⟩ := h; exact ⟨gs, by rw [upd_ne (ne rfl)]; exact h, r.mono t⟩
  | dt kvs => obtain ⟨gs, h, r⟩ := h; exact ⟨gs, by rw [upd_ne (ne rfl)]; exact h, r.mono t⟩
  | xd fs => obtain ⟨gs, h, r⟩ := h; exact ⟨gs, by rw [upd_ne (ne rfl)]; exact h, r.mono t⟩
  | gh P => exact ⟨h.2 _ _ h.1 t, h.2⟩
theorem HL.mono_new (h : HL K H L) (hp : H p = none) : HL K (upd H p ho) L := ⟨fun q hq => (h.ok q hq).new hp, h.nd⟩
theorem HL.new (h : HL K H L) (hp : H p = none) (ok : OKo K (upd H p ho) p o) : HL K (upd H p ho) ((p, o) :: L) := by
  refine ⟨fun q hq => ?_, List.pairwise_cons.mpr ⟨fun q hq _ r z => ?_, h.nd⟩⟩
  · rcases List.mem_cons.mp hq with e | hq
    · subst e; exact ok
    · exact (h.ok q hq).new hp
  · obtain ⟨u, e⟩ := (h.ok q hq).there r
    have z' : p = q.1 := z
    rw [← z', hp] at e
    cases e
theorem Chg.sel (c : Chg L a o o' L') : ∃ L0, L.Perm ((a, o) :: L0) ∧ L'.Perm ((a, o') :: L0) := by
  induction c with
  | here => exact ⟨_, .refl _, .refl _⟩
  | there _ ih =>
    obtain ⟨L0, p, q⟩ := ih
    exact ⟨_ :: L0, (List.Perm.cons _ p).trans (.swap _ _ _), (List.Perm.cons _ q).trans (.swap _ _ _)⟩
theorem Chg.has (c : Chg L a o o' L') : Has L a o := by
  induction c with
  | here => exact .here
  | there _ ih => exact .there ih
theorem HL.chg (h : HL K H L) (c : Chg L a o o' L') (ro : isRw o = true) (ha : H a = some ho) (m : MutL ho) (ok : OKo K (upd H a ho') a o') : HL K (upd H a ho') L' := by
  obtain ⟨L0, p, q⟩ := c.sel
  have h0 := h.perm p
  obtain ⟨n1, n2⟩ := List.pairwise_cons.mp h0.nd
  have h1 : HL K (upd H a ho') ((a, o') :: L0) := by
    refine ⟨fun x hx => ?_, List.pairwise_cons.mpr ⟨fun x hx _ r => n1 x hx ro r, n2⟩⟩
    rcases List.mem_cons.mp hx with e | hx
    · subst e; exact ok
    · exact (h0.ok x (List.mem_cons_of_mem _ hx)).chg ha m fun r => (n1 x hx ro r).symm
  exact h1.perm q.symm
theorem HL.lst {ds : List D} (h : HL K H L) (s : Has L a (.lst ds)) : ∃ vs, H a = some (.lst vs) ∧ DRs K H ds vs := h.has s
/-- a list that is read: rw or ro -/
def HasL (L : LL) (a : Addr) (ds : List D) : Prop := Has L a (.lst ds) ∨ Has L a (.ro ds)
theorem HL.seq {ds : List D} (h : HL K H L) (s : HasL L a ds) : ∃ vs, SqL K H a vs ∧ DRs K H ds vs := by
  rcases s with s | s
  · obtain ⟨vs, e, r⟩ := h.has s
    exact ⟨vs, .inl (.inl e), r⟩
  · obtain ⟨vs, e, r⟩ := h.has s
    refine ⟨vs, ?_, r⟩
    rcases e with ⟨ob, e⟩ | e
    · exact .inl (.inr ⟨ob, e⟩)
    · exact .inr e
end

/-! ### lifts -/
abbrev DK := D → LL → Prop
abbrev TE' := Sl → LL → DK → Prop
abbrev TT' := Sl → LL → (LL → Prop) → (LL → Prop) → Prop
abbrev TA' := Sl → LL → (List D → LL → Prop) → Prop
structure EndsD where
  nx : Sl → LL → Prop
  rt : DK
  bk : Sl → LL → Prop := fun _ _ => False
  ct : Sl → LL → Prop := fun _ _ => False
abbrev TS' := EndsD → Sl → LL → Prop
inductive SR (K : PySem.W.Frag) (H : Hp) : Sl → L2.St → Prop
  | nil : SR K H [] []
  | no {x σd σ} : SR K H σd σ → SR K H (none :: σd) (x :: σ)
  | yes {d v σd σ} : DR K H d v → SR K H σd σ → SR K H (some d :: σd) (some v :: σ)
def Kont (K : PySem.W.Frag) (H : Hp) (Φ : DK) (Q : VK) : Prop := ∀ d L v H', Φ d L → TK K H H' → DR K H' d v → HL K H' L → Q v H'
def KontB (K : PySem.W.Frag) (H : Hp) (T F : LL → Prop) (Q : Bool → Hp → Prop) : Prop := (∀ L H', T L → TK K H H' → HL K H' L → Q true H') ∧ (∀ L H', F L → TK K H H' → HL K H' L → Q false H')
def KontA (K : PySem.W.Frag) (H : Hp) (Φ : List D → LL → Prop) (Q : List V → Hp → Prop) : Prop := ∀ ds L vs H', Φ ds L → TK K H H' → DRs K H' ds vs → HL K H' L → Q vs H'
structure EK (K : PySem.W.Frag) (H : Hp) (D' : EndsD) (D : Ends) : Prop where
  nx : ∀ σd L σ H', D'.nx σd L → TK K H H' → SR K H' σd σ → HL K H' L → D.nx σ H'
  rt : ∀ d L v H', D'.rt d L → TK K H H' → DR K H' d v → HL K H' L → D.rt v H'
  bk : ∀ σd L σ H', D'.bk σd L → TK K H H' → SR K H' σd σ → HL K H' L → D.bk σ H'
  ct : ∀ σd L σ H', D'.ct σd L → TK K H H' → SR K H' σd σ → HL K H' L → D.ct σ H'
section
variable {K : PySem.W.Frag} {H H1 : Hp}
theorem SR.mono (t : TK K H H1) : ∀ {σd σ}, SR K H σd σ → SR K H1 σd σ
  | _, _, .nil => .nil
  | _, _, .no r => .no (SR.mono t r)
  | _, _, .yes a r => .yes (a.mono t) (SR.mono t r)
theorem SR.set {d : D} {v : V} (r : DR K H d v) : ∀ {σd σ} (i : Nat), SR K H σd σ → SR K H (σd.set i (some d)) (σ.set i (some v))
  | _, _, _, .nil => .nil
  | _, _, 0, .no q => .yes r q
  | _, _, 0, .yes _ q => .yes r q
  | _, _, i + 1, .no q => .no (SR.set r i q)
  | _, _, i + 1, .yes a q => .yes a (SR.set r i q)
theorem Kont.mono {Φ Q} (t : TK K H H1) (k : Kont K H Φ Q) : Kont K H1 Φ Q := fun d L v H' h t1 r l => k d L v H' h (t.trans t1) r l
theorem KontB.mono {T F Q} (t : TK K H H1) (k : KontB K H T F Q) : KontB K H1 T F Q := ⟨fun L H' h t1 l => k.1 L H' h (t.trans t1) l, fun L H' h t1 l => k.2 L H' h (t.trans t1) l⟩
theorem KontA.mono {Φ Q} (t : TK K H H1) (k : KontA K H Φ Q) : KontA K H1 Φ Q := fun d L v H' h t1 r l => k d L v H' h (t.trans t1) r l
theorem EK.mono {D' D} (t : TK K H H1) (k : EK K H D' D) : EK K H1 D' D :=
  ⟨fun a b c d h t1 => k.nx a b c d h (t.trans t1), fun a b c d h t1 => k.rt a b c d h (t.trans t1), fun a b c d h t1 => k.bk a b c d h (t.trans t1), fun a b c d h t1 => k.ct a b c d h (t.trans t1)⟩
end
def liftE (K : PySem.W.Frag) (t : TE') : TE := fun σ H Q => ∃ σd L Φ, SR K H σd σ ∧ HL K H L ∧ t σd L Φ ∧ Kont K H Φ Q
def liftT (K : PySem.W.Frag) (t : TT') : TT := fun σ H Q => ∃ σd L T F, SR K H σd σ ∧ HL K H L ∧ t σd L T F ∧ KontB K H T F Q
def liftA (K : PySem.W.Frag) (t : TA') : TA := fun σ H Q => ∃ σd L Φ, SR K H σd σ ∧ HL K H L ∧ t σd L Φ ∧ KontA K H Φ Q
def liftS (K : PySem.W.Frag) (t : TS') : TS := fun D σ H => ∃ σd L D', SR K H σd σ ∧ HL K H L ∧ t D' σd L ∧ EK K H D' D
abbrev PE' (X : Cx) (e : Expr) (t : TE') : Prop := PE X e (liftE X.K t)
abbrev PT' (X : Cx) (e : Expr) (t : TT') : Prop := PT X e (liftT X.K t)
abbrev PA' (X : Cx) (es : List Expr) (t : TA') : Prop := PA X es (liftA X.K t)
abbrev PS' (X : Cx) (st : Stmt) (t : TS') : Prop := PS X st (liftS X.K t)
abbrev PSs' (X : Cx) (st : List Stmt) (t : TS') : Prop := PSs X st (liftS X.K t)
section
variable {X : Cx} {e : Expr} {es : List Expr} {st : Stmt} {sts : List Stmt}
theorem lE {t : TE} {t' : TE'} (h : PE X e t) (f : ∀ σ H Q, liftE X.K t' σ H Q → t σ H Q) : PE' X e t' := ⟨fun pins s σ H Q I q => h.run pins s σ H Q I (f σ H Q q)⟩
theorem lT {t : TT} {t' : TT'} (h : PT X e t) (f : ∀ σ H Q, liftT X.K t' σ H Q → t σ H Q) : PT' X e t' := ⟨fun pins s σ H Q I q => h.run pins s σ H Q I (f σ H Q q)⟩
theorem lA {t : TA} {t' : TA'} (h : PA X es t) (f : ∀ σ H Q, liftA X.K t' σ H Q → t σ H Q) : PA' X es t' := ⟨fun pos pins s σ H Q I q => h.run pos pins s σ H Q I (f σ H Q q)⟩
theorem lS {t : TS} {t' : TS'} (h : PS X st t) (f : ∀ D σ H, liftS X.K t' D σ H → t D σ H) : PS' X st t' := ⟨fun pins s σ H D I q => h.run pins s σ H D I (f D σ H q)⟩
theorem lSs {t : TS} {t' : TS'} (h : PSs X sts t) (f : ∀ D σ H, liftS X.K t' D σ H → t D σ H) : PSs' X sts t' := ⟨fun pins s σ H D I q => h.run pins s σ H D I (f D σ H q)⟩
end

/-! ### names, constants -/
def Nth : Sl → Nat → (D → Prop) → Prop
  | [], _, _ => False
  | none :: _, 0, _ => False
  | some d :: _, 0, k => k d
  | _ :: r, n + 1, k => Nth r n k
theorem Nth.get {K H} {k : D → Prop} : ∀ {σd σ} {i : Nat}, SR K H σd σ → Nth σd i k → ∃ d v, σ[i]? = some (some v) ∧ DR K H d v ∧ k d
  | _, _, _, .nil, h => by cases ‹Nat› <;> exact h.elim
  | _, _, 0, .no _, h => h.elim
  | _, _, 0, .yes r _, h => ⟨_, _, rfl, r, h⟩
  | _, _, i + 1, .no q, h => by
    obtain ⟨d, v, a, b, c⟩ := Nth.get (i := i) q h
    exact ⟨d, v, by simpa using a, b, c⟩
  | _, _, i + 1, .yes _ q, h => by
    obtain ⟨d, v, a, b, c⟩ := Nth.get (i := i) q h
    exact ⟨d, v, by simpa using a, b, c⟩
def tVar' (i : Nat) : TE' := fun σ L Φ => Nth σ i fun d => Φ d L
def tC' (d : D) : TE' := fun _ L Φ => Φ d L
section
variable {X : Cx} {pos : Pos} {x : Str}
theorem l_var {i : Nat} (h : PE X (.Name x pos) (tVar i)) : PE' X (.Name x pos) (tVar' i) := lE h fun σ H Q ⟨σd, L, Φ, hs, hl, ht, k⟩ => by
  obtain ⟨d, v, e, r, q⟩ := Nth.get hs ht
  exact ⟨v, e, k d L v H q .refl r hl⟩
theorem l_c {e : Expr} {d : D} {v : V} (h : PE X e (tC v)) (r : ∀ H, DR X.K H d v) : PE' X e (tC' d) := lE h fun σ H Q ⟨σd, L, Φ, hs, hl, ht, k⟩ => k d L v H ht .refl (r H) hl
theorem pv' (i : Nat) (hN : X.N[i]? = some x := by rfl) (hv : Vis X.env.scope x := by first | exact Or.inl rfl | exact Or.inr (Or.inl rfl) | exact Or.inr (Or.inr rfl)) (hd : (x == ("__debug__" : Str)) = false := by decide)
    (hcd : (x == ("__classdict__" : Str)) = false := by decide) : PE' X (.Name x pos) (tVar' i) := l_var (pe_var hN hv hd hcd)
theorem pe_int' {i j pos} : PE' X (.Constant (.int i) j pos) (tC' (.int i)) := l_c pe_int fun _ => .int
theorem pe_bl' {b j pos} : PE' X (.Constant (.bool b) j pos) (tC' (.bl b)) := l_c pe_bl fun _ => .bl
theorem pe_non' {j pos} : PE' X (.Constant .none j pos) (tC' .non) := l_c pe_non fun _ => .non
theorem pe_str' {x j pos} : PE' X (.Constant (.str x) j pos) (tC' (.str x)) := l_c pe_str fun _ => .str
theorem pe_gint {i : Int} (hg : Gl X x) (hm : ∃ t, X.mg x = some (.int i t)) (hd : (x == ("__debug__" : Str)) = false := by decide) : PE' X (.Name x pos) (tC' (.int i)) := by
  obtain ⟨t, hm⟩ := hm
  exact l_c (pe_glob (v := .int i) hg hm ⟨t, rfl⟩ hd) fun _ => .int
theorem pe_gtup {a : Addr} {ds : List D} {vs : List V} (hg : Gl X x) (hm : X.mg x = some (.ref a)) (hs : ∀ H, SqT X.K H a vs) (r : ∀ H, DRs X.K H ds vs) (hd : (x == ("__debug__" : Str)) = false := by decide) : PE' X (.Name x pos) (tC' (.tup ds)) :=
  l_c (pe_glob (v := .ref a) hg hm rfl hd) fun H => .tup (hs H) (r H)

/-! ### operators by values -/
abbrev F2 := D → D → LL → DK → Prop
def OpD (K : PySem.W.Frag) (f : F2) (r : R2) : Prop := ∀ (d1 d2 : D) (x y : V) (L : LL) (H : Hp) (Φ : DK) (Q : VK), DR K H d1 x → DR K H d2 y → HL K H L → f d1 d2 L Φ → Kont K H Φ Q → r x y H Q
def tBin' (f : F2) (ta tb : TE') : TE' := fun σ L Φ => ta σ L fun x L1 => tb σ L1 fun y L2 => f x y L2 Φ
theorem lift_bin {f : F2} {r : R2} {ta tb : TE'} {σ : L2.St} {H : Hp} {Q : VK} (od : OpD X.K f r) (h : liftE X.K (tBin' f ta tb) σ H Q) : tOp r (liftE X.K ta) (liftE X.K tb) σ H Q := by
  obtain ⟨σd, L, Φ, hs, hl, ht, k⟩ := h
  exact ⟨σd, L, _, hs, hl, ht, fun d L1 v H1 h1 t1 r1 l1 => ⟨σd, L1, _, hs.mono t1, l1, h1, fun d2 L2 v2 H2 h2 t2 r2 l2 => od _ _ _ _ _ _ _ _ (r1.mono t2) r2 l2 h2 (k.mono (t1.trans t2))⟩⟩
variable {a b c : Expr} {ta tb tc : TE'}
theorem pe_op' {op : Operator} {f : F2} {r : R2} (od : OpD X.K f r) (ho : OpR X (binaryOp op) r) (ha : PE' X a ta) (hb : PE' X b tb) : PE' X (.BinOp a op b pos) (tBin' f ta tb) :=
  lE (pe_op ho ha hb) fun _ _ _ h => lift_bin od h
theorem pe_cmp' {op : CmpOp} {f : F2} {r : R2} (od : OpD X.K f r) (ho : OpR X (compareOp op) r) (ha : PE' X a ta) (hb : PE' X b tb) (hm : behindInMarks op b = false) : PE' X (.Compare a [op] [b] pos) (tBin' f ta tb) :=
  lE (pe_cmpR ho ha hb hm) fun _ _ _ h => lift_bin od h
/-- a test of an expression whose value is a bool -/
def Bt (T F : LL → Prop) : DK := fun d L => match d with
  | .bl true => T L
  | .bl false => F L
  | _ => False
/-- .. where it may be open -/
structure Br (b : Bool) (T F : Prop) : Prop where
  pos : b = true → T
  neg : b = false → F
def BtD (T F : LL → Prop) : DK := fun d L => match d with
  | .bl b => Br b (T L) (F L)
  | _ => False
def tTst' (t : TE') : TT' := fun σ L T F => t σ L (BtD T F)
theorem kontBt {K H} {T F : LL → Prop} {Q : Bool → Hp → Prop} (k : KontB K H T F Q) : Kont K H (BtD T F) (fun x H' => ∃ c, x = .bl c ∧ Q c H') := fun d L v H' h t r l => by
  cases r with
  | bl =>
    rename_i b
    obtain ⟨h1, h2⟩ := (show Br b (T L) (F L) from h)
    cases b with
    | true => exact ⟨true, rfl, k.1 L H' (h1 rfl) t l⟩
    | false => exact ⟨false, rfl, k.2 L H' (h2 rfl) t l⟩
  | _ => exact (show False from h).elim
theorem pt_val' {e : Expr} {t : TE'} (h : PE' X e t) (he : ∀ whole, isTrue e X.env whole = (do let v ← whole; standAt e.pos; holding [v] (truthy v)) := by intro _; rfl) : PT' X e (tTst' t) :=
  lT (pt_val h he) fun σ H Q ⟨σd, L, T, F, hs, hl, ht, k⟩ => ⟨σd, L, _, hs, hl, ht, kontBt k⟩
theorem pt_cmp' {op : CmpOp} {f : F2} {r : R2} (od : OpD X.K f r) (ho : OpR X (compareOp op) r) (ha : PE' X a ta) (hb : PE' X b tb) (hm : behindInMarks op b = false) : PT' X (.Compare a [op] [b] pos) (tTst' (tBin' f ta tb)) :=
  lT (pt_cmpR ho ha hb hm) fun σ H Q ⟨σd, L, T, F, hs, hl, ht, k⟩ => by
    have z : liftE X.K (tBin' f ta tb) σ H (fun x H' => ∃ c, x = .bl c ∧ Q c H') := ⟨σd, L, _, hs, hl, ht, kontBt k⟩
    exact lift_bin od z
end
/-! ints -/
def fI (g : Int → Int → D) : F2 := fun x y L Φ => match x, y with
  | .int i, .int j => Φ (g i j) L
  | _, _ => False
def fIC (C : Int → Int → Prop) (g : Int → Int → D) : F2 := fun x y L Φ => match x, y with
  | .int i, .int j => C i j ∧ Φ (g i j) L
  | _, _ => False
theorem od_I {K} {g : Int → Int → V} {g' : Int → Int → D} (hg : ∀ i j H, DR K H (g' i j) (g i j)) : OpD K (fI g') (rI0 g) := fun d1 d2 x y L H Φ Q r1 r2 l h k => by
  cases r1 <;> cases r2 <;> first
    | exact (show False from h).elim
    | exact ⟨_, _, rfl, rfl, k _ _ _ _ h .refl (hg _ _ _) l⟩
theorem od_IC {K} {C : Int → Int → Prop} {g : Int → Int → V} {g' : Int → Int → D} (hg : ∀ i j H, DR K H (g' i j) (g i j)) : OpD K (fIC C g') (rI C g) := fun d1 d2 x y L H Φ Q r1 r2 l h k => by
  cases r1 <;> cases r2 <;> first
    | exact (show False from h).elim
    | exact ⟨_, _, rfl, rfl, (show _ ∧ _ from h).1, k _ _ _ _ (show _ ∧ _ from h).2 .refl (hg _ _ _) l⟩
end DL

namespace DL
open PySem PySem.Spec PyProof.Rows L2
theorem szl {n : Nat} (h : n ≤ 1000000) : n ≤ sizeLine := by rw [sizeLine_eq]; omega
theorem szl' {n : Nat} (h : n ≤ 1000000) : n < sizeLine := by rw [sizeLine_eq]; omega

/-! ### + -/
def rCatR (K : PySem.W.Frag) : R2 := fun x y H Q => ∃ l b xs zs, x = .ref l ∧ y = .ref b ∧ SqL K H l xs ∧ SqL K H b zs ∧ xs.length + zs.length ≤ sizeLine ∧ ∀ p, H p = none → Q (.ref p) (upd H p (.lst (xs ++ zs)))
section
variable {X : Cx}
theorem op_catR : OpR X (binaryOp .Add) (rCatR X.K) := by
  intro pins s σ H x y v u Q I rx ry h
  obtain ⟨l, b, xs, zs, rfl, rfl, hH, hB, hz, q⟩ := h
  cases rx
  cases ry
  obtain ⟨its, r, ⟨⟨cls, dd, data, sl⟩, n, ho, hc, hdd, hd⟩, z⟩ := I.list hH
  obtain ⟨its2, r2, ⟨⟨cls2, dd2, data2, sl2⟩, n2, ho2, hc2, hdd2, hd2⟩, z2⟩ := I.list hB
  simp only at hc hd hc2 hd2
  subst hc hd hc2 hd2
  have hl := r.length
  have hl2 := r2.length
  have ea : its.toArray ++ its2.toArray = (its ++ its2).toArray := by simp
  refine concat_meets ⟨_, ho, rfl⟩ ⟨_, ho2, rfl⟩ noFill_list_add seq_list_add PySem.F.slot_list_add PySem.F.entry_list_add (PySem.F.args_list_add_2 _ _) (list_addW l b its.toArray its2.toArray n n2 dd dd2 sl sl2 (by rw [List.size_toArray, List.size_toArray]; omega)) ⟨ho, ho2, ?_⟩
  rw [ea]
  exact ⟨.ref _, _, I.lnew (t' := s.toks) (r.append r2) (by rw [List.length_append]; omega), rfl, q _ I.fresh⟩
end
def rAddA (K : PySem.W.Frag) : R2 := fun x y H Q => rI0 (fun i j => .int (i + j)) x y H Q ∨ rCatR K x y H Q ∨ rCatA K x y H Q ∨ (∃ i j, x = .str i ∧ y = .str j ∧ i.length + j.length ≤ sizeLine ∧ Q (.str (i ++ j)) H) ∨ ∃ i k, x = .int i ∧ y = .bl k ∧ Q (.int (i + b2i k)) H
theorem op_addA {X : Cx} : OpR X (binaryOp .Add) (rAddA X.K) := op_add.or (op_catR.or (op_catA.or (op_add_str.or op_add_ib)))
/-- list + list, both as they stand -/
def catD (a b : Addr) (L : LL) (Φ : DK) : Prop := ∃ xs, HasL L a xs ∧ ∃ ys, HasL L b ys ∧ xs.length + ys.length ≤ 1000000 ∧ ∀ p, Φ (.ref p) ((p, .lst (xs ++ ys)) :: L)
def fAdd : F2 := fun x y L Φ => match x, y with
  | .int i, .int j => Φ (.int (i + j)) L
  | .ref a, .ref b => catD a b L Φ
  | .tup xs, .tup ys => xs.length + ys.length ≤ 1000000 ∧ Φ (.tup (xs ++ ys)) L
  | .str a, .str b => a.length + b.length ≤ 1000000 ∧ Φ (.str (a ++ b)) L
  | .int i, .bl k => Φ (.int (i + b2i k)) L
  | _, _ => False
section
variable {K : PySem.W.Frag} {H : Hp} {L : LL} {p : Addr}
theorem ok_lst {ds : List D} {vs : List V} (r : DRs K H ds vs) (hp : H p = none) : OKo K (upd H p (.lst vs)) p (.lst ds) := ⟨vs, upd_same, r.mono (TK.new hp)⟩
theorem HL.newl {ds : List D} {vs : List V} (h : HL K H L) (hp : H p = none) (r : DRs K H ds vs) : HL K (upd H p (.lst vs)) ((p, .lst ds) :: L) := h.new hp (ok_lst r hp)
theorem dr_newt {ds : List D} {vs : List V} (hp : H p = none) (r : DRs K H ds vs) : DR K (upd H p (.tup vs)) (.tup ds) (.ref p) := .tup (.inl (.inl upd_same)) (r.mono (TK.new hp))
theorem DRs.nil_iff {ds : List D} {vs : List V} (r : DRs K H ds vs) : ds = [] ↔ vs = [] := by cases r <;> simp
theorem od_add : OpD K fAdd (rAddA K) := fun d1 d2 x y L H Φ Q r1 r2 l h k => by
  cases r1 with
  | int =>
    cases r2 with
    | int => exact .inl ⟨_, _, rfl, rfl, k _ _ _ _ h .refl .int l⟩
    | bl => exact .inr (.inr (.inr (.inr ⟨_, _, rfl, rfl, k _ _ _ _ h .refl .int l⟩)))
    | _ => exact (show False from h).elim
  | str =>
    cases r2 with
    | str => exact .inr (.inr (.inr (.inl ⟨_, _, rfl, rfl, szl (show _ ∧ _ from h).1, k _ _ _ _ (show _ ∧ _ from h).2 .refl .str l⟩)))
    | _ => exact (show False from h).elim
  | ref =>
    cases r2 with
    | ref =>
      obtain ⟨xs, h1, ys, h2, hz, q⟩ := (show catD _ _ L Φ from h)
      obtain ⟨vs, e1, s1⟩ := l.seq h1
      obtain ⟨us, e2, s2⟩ := l.seq h2
      exact .inr (.inl ⟨_, _, vs, us, rfl, rfl, e1, e2, by rw [← s1.length, ← s2.length]; exact szl hz, fun p hp => k _ _ _ _ (q p) (TK.new hp) .ref (l.newl hp (s1.append s2))⟩)
    | _ => exact (show False from h).elim
  | tup s1 t1 =>
    cases r2 with
    | tup s2 t2 =>
      obtain ⟨hz, q⟩ := (show _ ∧ _ from h)
      refine .inr (.inr (.inl ⟨_, _, _, _, rfl, rfl, s1, s2, by rw [← t1.length, ← t2.length]; exact szl hz, fun e => ?_, fun e e2 => ?_, fun e e2 p hp => ?_⟩))
      · have e' := (DRs.nil_iff t1).mpr e
        subst e'
        exact k _ _ _ _ q .refl (.tup s2 t2) l
      · have e' := (DRs.nil_iff t2).mpr e2
        subst e'
        rw [List.append_nil] at q
        exact k _ _ _ _ q .refl (.tup s1 t1) l
      · exact k _ _ _ _ q (TK.new hp) (dr_newt hp (t1.append t2)) (l.mono_new hp)
    | _ => exact (show False from h).elim
  | _ => exact (show False from h).elim
end
section
variable {X : Cx} {K : PySem.W.Frag}
/-! ### the other operators of ints -/
def fSub : F2 := fI fun i j => .int (i - j)
theorem od_sub : OpD K fSub (rI0 fun i j => .int (i - j)) := od_I fun _ _ _ => .int
def MulOk (i j : Int) : Prop := CMul i j ∨ CMulW i j
def rMulA (K : PySem.W.Frag) : R2 := fun x y H Q => (∃ i j, x = .int i ∧ y = .int j ∧ CMul i j ∧ Q (.int (i * j)) H) ∨ (∃ i j, x = .int i ∧ y = .int j ∧ CMulW i j ∧ Q (.int (i * j)) H) ∨ rRep x y H Q
theorem op_mulA : OpR X (binaryOp .Mult) (rMulA X.K) := op_mul.or (op_mulW.or op_rep)
def repD (ds : List D) (k : Nat) : List D := (List.replicate k ds).flatten
theorem repD_one (d : D) : ∀ k : Nat, repD [d] k = List.replicate k d
  | 0 => rfl
  | k + 1 => by
    have ih := repD_one d k
    unfold repD at *
    rw [List.replicate_succ, List.flatten_cons, ih, List.replicate_succ]
    rfl
theorem DRs.rep {H : Hp} {ds : List D} {vs : List V} (r : DRs K H ds vs) : ∀ k : Nat, DRs K H (repD ds k) (List.replicate k vs).flatten
  | 0 => .nil
  | k + 1 => by
    unfold repD
    rw [List.replicate_succ, List.flatten_cons, List.replicate_succ, List.flatten_cons]
    exact r.append (DRs.rep r k)
def fMul : F2 := fun x y L Φ => match x, y with
  | .int i, .int j => MulOk i j ∧ Φ (.int (i * j)) L
  | .ref a, .int k => ∃ ds, Has L a (.lst ds) ∧ (k ≤ 1000000 ∧ -1000000 ≤ k ∧ ds.length * k.toNat ≤ 1000000) ∧ ∀ p, Φ (.ref p) ((p, .lst (repD ds k.toNat)) :: L)
  | _, _ => False
theorem od_mul : OpD K fMul (rMulA K) := fun d1 d2 x y L H Φ Q r1 r2 l h k => by
  cases r1 with
  | int =>
    cases r2 with
    | int =>
      obtain ⟨c, q⟩ := (show MulOk _ _ ∧ _ from h)
      rcases c with c | c
      · exact .inl ⟨_, _, rfl, rfl, c, k _ _ _ _ q .refl .int l⟩
      · exact .inr (.inl ⟨_, _, rfl, rfl, c, k _ _ _ _ q .refl .int l⟩)
    | _ => exact (show False from h).elim
  | ref =>
    cases r2 with
    | int =>
      obtain ⟨ds, h1, ⟨c1, c2, c3⟩, q⟩ := (show ∃ ds, _ from h)
      obtain ⟨vs, e, r⟩ := l.lst h1
      have hl := r.length
      refine .inr (.inr ⟨_, _, vs, rfl, rfl, e, by omega, by omega, by rw [← hl]; exact szl c3, fun p hp => k _ _ _ _ (q p) (TK.new hp) .ref (l.newl hp (r.rep _))⟩)
    | _ => exact (show False from h).elim
  | _ => exact (show False from h).elim
def DivOk (j : Int) : Prop := 0 < j ∧ j.natAbs.log2 < 9000
def fFdiv : F2 := fIC (fun _ j => DivOk j) fun i j => .int (i / j)
theorem od_fdiv : OpD K fFdiv (rI CDivW fun i j => .int (i / j)) := od_IC fun _ _ _ => .int
def fMod : F2 := fIC (fun _ j => 0 < j) fun i j => .int (i % j)
theorem od_mod : OpD K fMod (rI (fun _ j => 0 < j) fun i j => .int (i % j)) := od_IC fun _ _ _ => .int
def fPow : F2 := fIC CPow fun i j => .int (i ^ j.toNat)
theorem od_pow : OpD K fPow (rI CPow fun i j => .int (i ^ j.toNat)) := od_IC fun _ _ _ => .int
def fShr : F2 := fIC (fun _ j => 0 ≤ j) fun i j => .int (i / 2 ^ j.toNat)
theorem od_shr : OpD K fShr (rI (fun _ j => 0 ≤ j) fun i j => .int (i / 2 ^ j.toNat)) := od_IC fun _ _ _ => .int
def fShl : F2 := fIC CPow fun i j => .int (i * 2 ^ j.toNat)
theorem od_shl : OpD K fShl (rI CPow fun i j => .int (i * 2 ^ j.toNat)) := od_IC fun _ _ _ => .int
def fBand : F2 := fI fun i j => .int (Builtin.bitAnd i j)
theorem od_band : OpD K fBand (rI0 fun i j => .int (Builtin.bitAnd i j)) := od_I fun _ _ _ => .int
/-! ### comparisons -/
def fLt : F2 := fI fun i j => .bl (decide (i < j))
theorem od_lt : OpD K fLt (rI0 fun i j => .bl (decide (i < j))) := od_I fun _ _ _ => .bl
def fLe : F2 := fI fun i j => .bl (decide (i ≤ j))
theorem od_le : OpD K fLe (rI0 fun i j => .bl (decide (i ≤ j))) := od_I fun _ _ _ => .bl
def fGt : F2 := fI fun i j => .bl (decide (j < i))
theorem od_gt : OpD K fGt (rI0 fun i j => .bl (decide (j < i))) := od_I fun _ _ _ => .bl
def fGe : F2 := fI fun i j => .bl (decide (j ≤ i))
theorem od_ge : OpD K fGe (rI0 fun i j => .bl (decide (j ≤ i))) := od_I fun _ _ _ => .bl
def isNon : D → Bool
  | .non => true
  | _ => false
theorem isNon_dr {H : Hp} {d : D} {v : V} (r : DR K H d v) : decide (v = .non) = isNon d := by cases r <;> simp [isNon]
def fIs : F2 := fun x y L Φ => match y with
  | .non => Φ (.bl (isNon x)) L
  | _ => False
theorem od_is : OpD K fIs (fun x y H Q => y = .non ∧ Q (.bl (decide (x = .non))) H) := fun d1 d2 x y L H Φ Q r1 r2 l h k => by
  cases r2 with
  | non => exact ⟨rfl, k _ _ _ _ (show Φ (.bl (isNon d1)) L from h) .refl (by rw [isNon_dr r1]; exact .bl) l⟩
  | _ => exact (show False from h).elim
def fIsNot : F2 := fun x y L Φ => match y with
  | .non => Φ (.bl (!isNon x)) L
  | _ => False
theorem od_isnot : OpD K fIsNot (fun x y H Q => y = .non ∧ Q (.bl (!decide (x = .non))) H) := fun d1 d2 x y L H Φ Q r1 r2 l h k => by
  cases r2 with
  | non => exact ⟨rfl, k _ _ _ _ (show Φ (.bl (!isNon d1)) L from h) .refl (by rw [isNon_dr r1]; exact .bl) l⟩
  | _ => exact (show False from h).elim
/-! data at any depth -/
mutual
inductive DpD (L : LL) : Nat → D → PyData → Prop
  | non {n} : DpD L n .non .none
  | bl {n b} : DpD L n (.bl b) (.bool b)
  | int {n i} : DpD L n (.int i) (.int i)
  | str {n x} : PyData.strOk x = true → DpD L n (.str x) (.str x)
  | tup {n ds ps} : DpDs L n ds ps → DpD L (n + 1) (.tup ds) (.tuple ps)
  | lst {n a ds ps} : HasL L a ds → DpDs L n ds ps → DpD L (n + 1) (.ref a) (.list ps)
inductive DpDs (L : LL) : Nat → List D → List PyData → Prop
  | nil {n} : DpDs L n [] []
  | cons {n d ds p ps} : DpD L n d p → DpDs L n ds ps → DpDs L n (d :: ds) (p :: ps)
end
section
variable {H : Hp} {L : LL}
mutual
theorem DpD.dp (l : HL K H L) : ∀ {n : Nat} {d : D} {p : PyData} {v : V}, DpD L n d p → DR K H d v → Dp K H v p
  | _, _, _, _, .non, .non => .non
  | _, _, _, _, .bl, .bl => .bl _
  | _, _, _, _, .int, .int => .int _
  | _, _, _, _, .str _, .str => .str _
  | _, _, _, _, .tup t, .tup s r => .tup s (DpDs.dp l t r)
  | _, _, _, _, .lst h t, .ref => by
    obtain ⟨vs, e, r⟩ := l.seq h
    exact .lst e (DpDs.dp l t r)
theorem DpDs.dp (l : HL K H L) : ∀ {n : Nat} {ds : List D} {ps : List PyData} {vs : List V}, DpDs L n ds ps → DRs K H ds vs → DpAll K H vs ps
  | _, _, _, _, .nil, .nil => .nil
  | _, _, _, _, .cons a b, .cons r t => .cons (DpD.dp l a r) (DpDs.dp l b t)
end
mutual
theorem DpD.lay : ∀ {n : Nat} {d : D} {p : PyData}, DpD L n d p → p.canLay0 = true ∧ p.depth ≤ n
  | _, _, _, .non => ⟨rfl, Nat.zero_le _⟩
  | _, _, _, .bl => ⟨rfl, Nat.zero_le _⟩
  | _, _, _, .int => ⟨rfl, Nat.zero_le _⟩
  | _, _, _, .str h => ⟨h, Nat.zero_le _⟩
  | _, _, _, .tup t => ⟨(DpDs.lay t).1, Nat.succ_le_succ (DpDs.lay t).2⟩
  | _, _, _, .lst _ t => ⟨(DpDs.lay t).1, Nat.succ_le_succ (DpDs.lay t).2⟩
theorem DpDs.lay : ∀ {n : Nat} {ds : List D} {ps : List PyData}, DpDs L n ds ps → PyData.canLayAll0 ps = true ∧ PyData.depthAll ps ≤ n
  | _, _, _, .nil => ⟨rfl, Nat.zero_le _⟩
  | _, _, _, .cons a b => ⟨by
    rw [PyData.canLayAll0, (DpD.lay a).1, (DpDs.lay b).1]; rfl, Nat.max_le.mpr ⟨(DpD.lay a).2, (DpDs.lay b).2⟩⟩
end
theorem DpD.shaped {n : Nat} {d : D} {p : PyData} (h : DpD L n d p) (hn : n ≤ 64) : SeqAt.shaped p = true := by
  unfold SeqAt.shaped
  rw [h.lay.1, decide_eq_true (Nat.le_trans h.lay.2 hn)]
  rfl
theorem DpDs.ints {n : Nat} : ∀ xs : List Int, DpDs L n (xs.map .int) (xs.map .int)
  | [] => .nil
  | _ :: r => .cons .int (DpDs.ints r)
theorem DpDs.append {n : Nat} : ∀ {ds es : List D} {ps qs : List PyData}, DpDs L n ds ps → DpDs L n es qs → DpDs L n (ds ++ es) (ps ++ qs)
  | _, _, _, _, .nil, b => b
  | _, _, _, _, .cons a r, b => .cons a (DpDs.append r b)
end
inductive deepE (x y : D) (L : LL) (k : Bool → Prop) : Prop
  | mk (p q : PyData) : DpD L 9 x p → DpD L 9 y q → k (PyData.eqv p q) → deepE x y L k
def fEq : F2 := fun x y L Φ => match x, y with
  | .int i, .int j => Φ (.bl (decide (i = j))) L
  | .str i, .str j => Φ (.bl (decide (i = j))) L
  | .bl i, .bl j => Φ (.bl (decide (i = j))) L
  | x, y => deepE x y L fun b => Φ (.bl b) L
def fNe : F2 := fun x y L Φ => match x, y with
  | .int i, .int j => Φ (.bl (!decide (i = j))) L
  | .str i, .str j => Φ (.bl (!decide (i = j))) L
  | .bl i, .bl j => Φ (.bl (!decide (i = j))) L
  | x, y => deepE x y L fun b => Φ (.bl (!b)) L
def rEqA (K : PySem.W.Frag) : R2 := fun x y H Q => rEq x y H Q ∨ rEqD K x y H Q
def rNeA (K : PySem.W.Frag) : R2 := fun x y H Q => rNe x y H Q ∨ rNeD K x y H Q
theorem op_eqA (hu : X.A.units + 64 < cLine) : OpR X (compareOp .Eq) (rEqA X.K) := op_eq.or (op_eqD hu)
theorem op_neA (hu : X.A.units + 64 < cLine) : OpR X (compareOp .NotEq) (rNeA X.K) := op_ne.or (op_neD hu)
theorem deep_eq {d1 d2 : D} {x y : V} {L : LL} {H : Hp} {Q : VK} {k : Bool → Prop} (r1 : DR K H d1 x) (r2 : DR K H d2 y) (l : HL K H L) (h : deepE d1 d2 L k) (q : ∀ b, k b → Q (.bl b) H) : rEqD K x y H Q := by
  obtain ⟨p, p', h1, h2, q'⟩ := h
  exact ⟨p, p', h1.dp l r1, h2.dp l r2, h1.shaped (by decide), h2.shaped (by decide), q _ q'⟩
theorem deep_ne {d1 d2 : D} {x y : V} {L : LL} {H : Hp} {Q : VK} {k : Bool → Prop} (r1 : DR K H d1 x) (r2 : DR K H d2 y) (l : HL K H L) (h : deepE d1 d2 L k) (q : ∀ b, k b → Q (.bl (!b)) H) : rNeD K x y H Q := by
  obtain ⟨p, p', h1, h2, q'⟩ := h
  exact ⟨p, p', h1.dp l r1, h2.dp l r2, h1.shaped (by decide), h2.shaped (by decide), q _ q'⟩
theorem od_eq : OpD K fEq (rEqA K) := fun d1 d2 x y L H Φ Q r1 r2 l h k => by
  have deep : deepE d1 d2 L (fun b => Φ (.bl b) L) → rEqA K x y H Q := fun z => .inr (deep_eq r1 r2 l z fun b q => k _ _ _ _ q .refl .bl l)
  cases r1 <;> cases r2 <;> first
    | exact deep h
    | exact .inl ⟨rfl, k _ _ _ _ h .refl (by simp; exact .bl) l⟩
theorem od_ne : OpD K fNe (rNeA K) := fun d1 d2 x y L H Φ Q r1 r2 l h k => by
  have deep : deepE d1 d2 L (fun b => Φ (.bl (!b)) L) → rNeA K x y H Q := fun z => .inr (deep_ne r1 r2 l z fun b q => k _ _ _ _ q .refl .bl l)
  cases r1 <;> cases r2 <;> first
    | exact deep h
    | exact .inl ⟨rfl, k _ _ _ _ h .refl (by simp; exact .bl) l⟩
end
end DL

namespace DL
open PySem PySem.Spec PyProof.Rows L2
section
variable {X : Cx} {a b c e : Expr} {ta tb tc te : TE'} {tp tq : TT'} {pos : Pos} {rest es : List Expr}
/-! ### tests: and, or, not -/
def tAnd' (t u : TT') : TT' := fun σ L T F => t σ L (fun L1 => u σ L1 T F) F
def tOr' (t u : TT') : TT' := fun σ L T F => t σ L T (fun L1 => u σ L1 T F)
def tNot' (t : TT') : TT' := fun σ L T F => t σ L F T
theorem lift_and {σ : L2.St} {H : Hp} {Q : Bool → Hp → Prop} (h : liftT X.K (tAnd' tp tq) σ H Q) : tAnd (liftT X.K tp) (liftT X.K tq) σ H Q := by
  obtain ⟨σd, L, T, F, hs, hl, ht, k⟩ := h
  refine ⟨σd, L, _, _, hs, hl, ht, fun L1 H1 q t l => ?_, fun L1 H1 q t l => ?_⟩
  · refine iteT ?_
    exact ⟨σd, L1, T, F, hs.mono t, l, q, k.mono t⟩
  · refine iteF ?_
    exact k.2 L1 H1 q t l
theorem lift_or {σ : L2.St} {H : Hp} {Q : Bool → Hp → Prop} (h : liftT X.K (tOr' tp tq) σ H Q) : tOr (liftT X.K tp) (liftT X.K tq) σ H Q := by
  obtain ⟨σd, L, T, F, hs, hl, ht, k⟩ := h
  refine ⟨σd, L, _, _, hs, hl, ht, fun L1 H1 q t l => ?_, fun L1 H1 q t l => ?_⟩
  · refine iteT ?_
    exact k.1 L1 H1 q t l
  · refine iteF ?_
    exact ⟨σd, L1, T, F, hs.mono t, l, q, k.mono t⟩
def PW' (X : Cx) (e : Expr) (t : TT') : Prop := PW X e (liftT X.K t)
theorem pw_and1' (h : PT' X a tp) : PW' X (.BoolOp .And [a] pos) tp := pw_and1 h
theorem pw_or1' (h : PT' X a tp) : PW' X (.BoolOp .Or [a] pos) tp := pw_or1 h
theorem pw_and' (h : PT' X a tp) (h2 : PW' X (.BoolOp .And (b :: rest) pos) tq) : PW' X (.BoolOp .And (a :: b :: rest) pos) (tAnd' tp tq) :=
  ⟨fun w pins s σ H Q I q => (pw_and h h2).run w pins s σ H Q I (lift_and q)⟩
theorem pw_or' (h : PT' X a tp) (h2 : PW' X (.BoolOp .Or (b :: rest) pos) tq) : PW' X (.BoolOp .Or (a :: b :: rest) pos) (tOr' tp tq) :=
  ⟨fun w pins s σ H Q I q => (pw_or h h2).run w pins s σ H Q I (lift_or q)⟩
theorem PW'.pt {e : Expr} (h : PW' X e tp) : PT' X e tp := PW.pt h
theorem pt_not' (h : PT' X a tp) : PT' X (.UnaryOp .Not a pos) (tNot' tp) := lT (pt_not h) fun σ H Q ⟨σd, L, T, F, hs, hl, ht, k⟩ =>
  ⟨σd, L, _, _, hs, hl, ht, fun L1 H1 q t l => k.2 L1 H1 q t l, fun L1 H1 q t l => k.1 L1 H1 q t l⟩
/-! truth of a value -/
/-- k: the value's truth, then what follows -/
def truD (d : D) (L : LL) (k : Bool → Prop) : Prop := match d with
  | .non => k false
  | .bl b => k b
  | .int i => k (i != 0)
  | .ref a => ∃ ds, HasL L a ds ∧ k (!ds.isEmpty)
  | .tup ds => k (!ds.isEmpty)
  | _ => False
theorem empty_dr {K : PySem.W.Frag} {H : Hp} {ds : List D} {vs : List V} (r : DRs K H ds vs) : (!vs.isEmpty) = !ds.isEmpty := by cases r <;> rfl
theorem truD.ok {K : PySem.W.Frag} {H : Hp} {L : LL} {d : D} {v : V} {k : Bool → Prop} (r : DR K H d v) (l : HL K H L) (h : truD d L k) : ∃ b, TruV K v H b ∧ k b := by
  cases r with
  | non => exact ⟨_, rfl, h⟩
  | bl => exact ⟨_, rfl, h⟩
  | int => exact ⟨_, rfl, h⟩
  | ref =>
    obtain ⟨ds, h1, q⟩ := (show ∃ ds, _ from h)
    obtain ⟨vs, e, r⟩ := l.seq h1
    exact ⟨!vs.isEmpty, .inl ⟨vs, e, rfl⟩, by rw [empty_dr r]; exact q⟩
  | tup s t =>
    refine ⟨_, .inr (.inl ⟨_, s, rfl⟩), ?_⟩
    rw [empty_dr t]
    exact h
  | _ => exact (show False from h).elim
def tTru' (t : TE') : TT' := fun σ L T F => t σ L fun d L1 => truD d L1 fun b => Br b (T L1) (F L1)
theorem br_k {K : PySem.W.Frag} {H : Hp} {T F : LL → Prop} {Q : Bool → Hp → Prop} {b : Bool} {L : LL} {H' : Hp} (k : KontB K H T F Q) (h : Br b (T L) (F L)) (t : TK K H H') (l : HL K H' L) : Q b H' := by
  cases b with
  | true => exact k.1 L H' (h.1 rfl) t l
  | false => exact k.2 L H' (h.2 rfl) t l
theorem pt_tru' (h : PE' X a ta) (he : ∀ whole, isTrue a X.env whole = (do let v ← whole; standAt a.pos; holding [v] (truthy v)) := by intro _; rfl) : PT' X a (tTru' ta) :=
  lT (pt_truth h he) fun σ H Q ⟨σd, L, T, F, hs, hl, ht, k⟩ => ⟨σd, L, _, hs, hl, ht, fun d L1 v H1 q t r l => by
    obtain ⟨b, h1, h2⟩ := truD.ok r l q
    exact ⟨b, h1, br_k k h2 t l⟩⟩
/-! ### and, or, not, if as values -/
def tAndV' (t u : TE') : TE' := fun σ L Φ => t σ L fun d L1 => truD d L1 fun b => Br b (u σ L1 Φ) (Φ d L1)
def tOrV' (t u : TE') : TE' := fun σ L Φ => t σ L fun d L1 => truD d L1 fun b => Br b (Φ d L1) (u σ L1 Φ)
def tNotV' (t : TE') : TE' := fun σ L Φ => t σ L fun d L1 => truD d L1 fun b => Φ (.bl (!b)) L1
theorem pe_one' {op : BoolOp} (h : PE' X a ta) : PE' X (.BoolOp op [a] pos) ta := pe_one h
theorem pe_and' (h : PE' X a ta) (h2 : PE' X (.BoolOp .And (b :: rest) pos) tb) : PE' X (.BoolOp .And (a :: b :: rest) pos) (tAndV' ta tb) :=
  lE (pe_andT h h2) fun σ H Q ⟨σd, L, Φ, hs, hl, ht, k⟩ => ⟨σd, L, _, hs, hl, ht, fun d L1 v H1 q t r l => by
    obtain ⟨b, h1, h2⟩ := truD.ok r l q
    refine ⟨b, h1, ?_⟩
    cases b with
    | true => refine iteT ?_; exact ⟨σd, L1, Φ, hs.mono t, l, h2.1 rfl, k.mono t⟩
    | false => refine iteF ?_; exact k _ _ _ _ (h2.2 rfl) t r l⟩
theorem pe_or' (h : PE' X a ta) (h2 : PE' X (.BoolOp .Or (b :: rest) pos) tb) : PE' X (.BoolOp .Or (a :: b :: rest) pos) (tOrV' ta tb) :=
  lE (pe_orT h h2) fun σ H Q ⟨σd, L, Φ, hs, hl, ht, k⟩ => ⟨σd, L, _, hs, hl, ht, fun d L1 v H1 q t r l => by
    obtain ⟨b, h1, h2⟩ := truD.ok r l q
    refine ⟨b, h1, ?_⟩
    cases b with
    | true => refine iteT ?_; exact k _ _ _ _ (h2.1 rfl) t r l
    | false => refine iteF ?_; exact ⟨σd, L1, Φ, hs.mono t, l, h2.2 rfl, k.mono t⟩⟩
theorem pe_not' (h : PE' X a ta) : PE' X (.UnaryOp .Not a pos) (tNotV' ta) :=
  lE (pe_notT h) fun σ H Q ⟨σd, L, Φ, hs, hl, ht, k⟩ => ⟨σd, L, _, hs, hl, ht, fun d L1 v H1 q t r l => by
    obtain ⟨b, h1, h2⟩ := truD.ok r l q
    exact ⟨b, h1, k _ _ _ _ h2 t .bl l⟩⟩
def tIf' (t : TT') (u v : TE') : TE' := fun σ L Φ => t σ L (fun L1 => u σ L1 Φ) (fun L1 => v σ L1 Φ)
theorem pe_ifExp' (hc : PT' X c tp) (ha : PE' X a ta) (hb : PE' X b tb) : PE' X (.IfExp c a b pos) (tIf' tp ta tb) :=
  lE (pe_ifExp hc ha hb) fun σ H Q ⟨σd, L, Φ, hs, hl, ht, k⟩ => ⟨σd, L, _, _, hs, hl, ht, fun L1 H1 q t l => by
    refine iteT ?_
    exact ⟨σd, L1, Φ, hs.mono t, l, q, k.mono t⟩, fun L1 H1 q t l => by
    refine iteF ?_
    exact ⟨σd, L1, Φ, hs.mono t, l, q, k.mono t⟩⟩
/-! ### unary minus -/
def tNeg' (t : TE') : TE' := fun σ L Φ => t σ L fun d L1 => match d with
  | .int i => Φ (.int (-i)) L1
  | _ => False
theorem pe_neg' (h : PE' X a ta) : PE' X (.UnaryOp .USub a pos) (tNeg' ta) :=
  lE (pe_un un_neg h) fun σ H Q ⟨σd, L, Φ, hs, hl, ht, k⟩ => ⟨σd, L, _, hs, hl, ht, fun d L1 v H1 q t r l => by
    cases r with
    | int => exact ⟨_, rfl, k _ _ _ _ q t .int l⟩
    | _ => exact (show False from q).elim⟩
/-! ### chains a < b < c -/
def tChain' (f g : F2) (ta tb tc : TE') : TE' := fun σ L Φ => ta σ L fun x L1 => tb σ L1 fun y L2 => f x y L2 fun z L3 => match z with
  | .bl k => Br k (tc σ L3 fun w L4 => g y w L4 Φ) (Φ (.bl false) L3)
  | _ => False
theorem lift_chain {op op' : CmpOp} {f g : F2} {r r' : R2} (od : OpD X.K f r) (od' : OpD X.K g r') {σ : L2.St} {H : Hp} {Q : VK} : liftE X.K (tChain' f g ta tb tc) σ H Q → tChain r r' (liftE X.K ta) (liftE X.K tb) (liftE X.K tc) σ H Q :=
  fun ⟨σd, L, Φ, hs, hl, ht, k⟩ => ⟨σd, L, _, hs, hl, ht, fun d L1 v H1 h1 t1 r1 l1 => ⟨σd, L1, _, hs.mono t1, l1, h1, fun d2 L2 v2 H2 h2 t2 r2 l2 =>
    od _ _ _ _ _ _ _ _ (r1.mono t2) r2 l2 h2 fun z L3 vz H3 h3 t3 r3 l3 => by
      cases r3 with
      | bl =>
        rename_i kb
        refine ⟨kb, rfl, ?_⟩
        cases kb with
        | true =>
          refine iteT ?_
          exact ⟨σd, L3, _, hs.mono ((t1.trans t2).trans t3), l3, (show Br _ _ _ from h3).1 rfl, fun d4 L4 v4 H4 h4 t4 r4 l4 => od' _ _ _ _ _ _ _ _ (r2.mono (t3.trans t4)) r4 l4 h4 (k.mono (((t1.trans t2).trans t3).trans t4))⟩
        | false =>
          refine iteF ?_
          exact k _ _ _ _ ((show Br _ _ _ from h3).2 rfl) ((t1.trans t2).trans t3) .bl l3
      | _ => exact (show False from h3).elim⟩⟩
theorem pe_chain' {op op' : CmpOp} {f g : F2} {r r' : R2} (od : OpD X.K f r) (od' : OpD X.K g r') (ho : OpR X (compareOp op) r) (ho' : OpR X (compareOp op') r') (ha : PE' X a ta) (hb : PE' X b tb) (hc : PE' X c tc)
    (hm : lastMarks [op, op'] [b, c] = false := by with_unfolding_all rfl) : PE' X (.Compare a [op, op'] [b, c] pos) (tChain' f g ta tb tc) :=
  lE (pe_chain ho ho' ha hb hc hm) fun σ H Q h => lift_chain (op := op) (op' := op') od od' h
theorem pt_chain' {op op' : CmpOp} {f g : F2} {r r' : R2} (od : OpD X.K f r) (od' : OpD X.K g r') (ho : OpR X (compareOp op) r) (ho' : OpR X (compareOp op') r') (ha : PE' X a ta) (hb : PE' X b tb) (hc : PE' X c tc)
    (hm : lastMarks [op, op'] [b, c] = false := by with_unfolding_all rfl) : PT' X (.Compare a [op, op'] [b, c] pos) (tTst' (tChain' f g ta tb tc)) :=
  lT (pt_chain ho ho' ha hb hc hm) fun σ H Q ⟨σd, L, T, F, hs, hl, ht, k⟩ => by
    have z : liftE X.K (tChain' f g ta tb tc) σ H (fun x H' => ∃ c, x = .bl c ∧ Q c H') := ⟨σd, L, _, hs, hl, ht, kontBt k⟩
    exact lift_chain (op := op) (op' := op') od od' z
/-! ### argument lists, tuples, lists -/
def tNil' : TA' := fun _ L Φ => Φ [] L
def tCons' (t : TE') (u : TA') : TA' := fun σ L Φ => t σ L fun d L1 => u σ L1 fun ds L2 => Φ (d :: ds) L2
theorem pa_nil' : PA' X [] tNil' := lA pa_nil fun σ H Q ⟨σd, L, Φ, hs, hl, ht, k⟩ => k _ _ _ _ ht .refl .nil hl
theorem pa_cons' {t : TA'} (h : PE' X e te) (h2 : PA' X es t) (hs : starEach (e :: es) X.env = (false, eval e X.env) :: starEach es X.env := by rfl) : PA' X (e :: es) (tCons' te t) :=
  lA (pa_cons h h2 hs) fun σ H Q ⟨σd, L, Φ, hs, hl, ht, k⟩ => ⟨σd, L, _, hs, hl, ht, fun d L1 v H1 h1 t1 r1 l1 => ⟨σd, L1, _, hs.mono t1, l1, h1, fun ds L2 vs H2 h2 t2 r2 l2 => k _ _ _ _ h2 (t1.trans t2) (.cons (r1.mono t2) r2) l2⟩⟩
def starD (d : D) (L : LL) (k : List D → Prop) : Prop := match d with
  | .ref a => ∃ ds, HasL L a ds ∧ k ds
  | .tup ds => k ds
  | _ => False
def tStar' (t : TE') (u : TA') : TA' := fun σ L Φ => t σ L fun d L1 => starD d L1 fun xs => u σ L1 fun ds L2 => Φ (xs ++ ds) L2
theorem pa_star' {t : TA'} {p : Pos} (h : PE' X e te) (h2 : PA' X es t) (hs : starEach (.Starred e p :: es) X.env = (true, eval e X.env) :: starEach es X.env := by rfl) : PA' X (.Starred e p :: es) (tStar' te t) :=
  lA (StX.pa_star h h2 hs) fun σ H Q ⟨σd, L, Φ, hs, hl, ht, k⟩ => ⟨σd, L, _, hs, hl, ht, fun d L1 v H1 h1 t1 r1 l1 => by
    cases r1 with
    | ref =>
      obtain ⟨ds, hh, q⟩ := (show ∃ ds, _ from h1)
      obtain ⟨vs, e, r⟩ := l1.seq hh
      exact ⟨_, vs, rfl, .inr e, σd, L1, _, hs.mono t1, l1, q, fun ds2 L2 vs2 H2 h2 t2 r2 l2 => k _ _ _ _ h2 (t1.trans t2) ((r.mono t2).append r2) l2⟩
    | tup s t =>
      exact ⟨_, _, rfl, .inl s, σd, L1, _, hs.mono t1, l1, h1, fun ds2 L2 vs2 H2 h2 t2 r2 l2 => k _ _ _ _ h2 (t1.trans t2) ((t.mono t2).append r2) l2⟩
    | _ => exact (show False from h1).elim⟩
def tTup' (t : TA') : TE' := fun σ L Φ => t σ L fun ds L1 => ds.length ≤ 1000000 ∧ Φ (.tup ds) L1
def tLst' (t : TA') : TE' := fun σ L Φ => t σ L fun ds L1 => ds.length ≤ 1000000 ∧ ∀ p, Φ (.ref p) ((p, .lst ds) :: L1)
theorem pe_tup' {t : TA'} {x1} (h : PA' X es t) : PE' X (.Tuple es x1 pos) (tTup' t) := lE (pe_tup h) fun σ H Q ⟨σd, L, Φ, hs, hl, ht, k⟩ => ⟨σd, L, _, hs, hl, ht, fun ds L1 vs H1 h1 t1 r1 l1 =>
  ⟨by rw [← r1.length]; exact szl h1.1, fun p hp => k _ _ _ _ h1.2 (t1.trans (TK.new hp)) (dr_newt hp r1) (l1.mono_new hp)⟩⟩
theorem pe_lst' {t : TA'} (h : PA' X es t) : PE' X (.List es pos) (tLst' t) := lE (pe_lst h) fun σ H Q ⟨σd, L, Φ, hs, hl, ht, k⟩ => ⟨σd, L, _, hs, hl, ht, fun ds L1 vs H1 h1 t1 r1 l1 =>
  ⟨by rw [← r1.length]; exact szl h1.1, fun p hp => k _ _ _ _ (h1.2 p) (t1.trans (TK.new hp)) .ref (l1.newl hp r1)⟩⟩
/-! ### attributes -/
def getF (f : Nat) (fs : List (Nat × D)) (k : D → Prop) : Prop := match getN f fs with
  | some d => k d
  | none => False
def tFld' (C : Addr) (f : Nat) (t : TE') : TE' := fun σ L Φ => t σ L fun d L1 => match d with
  | .ref a => ∃ fs, Has L1 a (.ins C fs) ∧ getF f fs fun d => Φ d L1
  | _ => False
theorem pe_fld' {C : Addr} {f : Nat} {x : Str} (cl : Cls X.K C) (na : NoAttr X.K C x) (h : PE' X e te) (hx : fname f = x := by rfl) (hf : f < fnames.length := by decide) (hb : attributeBase e x X.env (eval e X.env) = eval e X.env := by rfl) : PE' X (.Attribute e x pos) (tFld' C f te) :=
  lE (pe_fld h hb) fun σ H Q ⟨σd, L, Φ, hs, hl, ht, k⟩ => ⟨σd, L, _, hs, hl, ht, fun d L1 v H1 h1 t1 r1 l1 => by
    cases r1 with
    | ref =>
      obtain ⟨fs, h2, q⟩ := (show ∃ fs, _ from h1)
      obtain ⟨dx, gs, e1, r⟩ := l1.has h2
      unfold getF at q
      cases eg : getN f fs with
      | none => rw [eg] at q; exact q.elim
      | some d =>
        rw [eg] at q
        obtain ⟨v, lk, rv⟩ := r.get hf eg
        rw [hx] at lk
        exact ⟨_, C, dx, gs, v, rfl, e1, cl, na, lk, k _ _ _ _ q t1 rv l1⟩
    | _ => exact (show False from h1).elim⟩
/-! ### subscripts, slices -/
/-- the item at i -/
def itemD (ds : List D) (i : Int) (k : D → Prop) : Prop := ∃ d, atI ds i = some d ∧ k d
def fIx : F2 := fun x y L Φ => match x, y with
  | .ref a, .int i => ∃ ds, HasL L a ds ∧ itemD ds i fun d => Φ d L
  | .tup ds, .int i => itemD ds i fun d => Φ d L
  | _, _ => False
theorem atI_dr {K : PySem.W.Frag} {H : Hp} {ds : List D} {vs : List V} {i : Int} {d : D} (r : DRs K H ds vs) (h : atI ds i = some d) : ∃ v, atI vs i = some v ∧ DR K H d v := by
  unfold atI at *
  rw [← r.length]
  cases e : ixN ds.length i with
  | none => rw [e] at h; cases h
  | some j =>
    rw [e] at h
    exact r.get h
theorem od_ix {K : PySem.W.Frag} : OpD K fIx (rIx K) := fun d1 d2 x y L H Φ Q r1 r2 l h k => by
  cases r1 with
  | ref =>
    cases r2 with
    | int =>
      obtain ⟨ds, h1, d, h2, q⟩ := (show ∃ ds, _ from h)
      obtain ⟨vs, e, r⟩ := l.seq h1
      obtain ⟨v, h3, rv⟩ := atI_dr r h2
      exact .inl ⟨_, vs, _, v, rfl, rfl, e, h3, k _ _ _ _ q .refl rv l⟩
    | _ => exact (show False from h).elim
  | tup s t =>
    cases r2 with
    | int =>
      obtain ⟨d, h2, q⟩ := (show ∃ d, _ from h)
      obtain ⟨v, h3, rv⟩ := atI_dr t h2
      exact .inr (.inl ⟨_, _, _, v, rfl, rfl, s, h3, k _ _ _ _ q .refl rv l⟩)
    | _ => exact (show False from h).elim
  | _ => exact (show False from h).elim
theorem pe_ix' (ha : PE' X a ta) (hb : PE' X b tb) (hs : PlainIx b := by exact fun _ _ => rfl) : PE' X (.Subscript a b pos) (tBin' fIx ta tb) := lE (pe_ix ix_seq ha hb hs) fun _ _ _ h => lift_bin od_ix h
abbrev TO' := Sl → LL → (Option Int → LL → Prop) → Prop
def liftO (K : PySem.W.Frag) (t : TO') : TO := fun σ H Q => ∃ σd L Φ, SR K H σd σ ∧ HL K H L ∧ t σd L Φ ∧ ∀ o L' H', Φ o L' → TK K H H' → HL K H' L' → Q o H'
abbrev PO' (X : Cx) (e : Option Expr) (t : TO') : Prop := PO X e (liftO X.K t)
def tNoPart' : TO' := fun _ L Φ => Φ none L
def tPart' (t : TE') : TO' := fun σ L Φ => t σ L fun d L1 => match d with
  | .int i => Φ (some i) L1
  | _ => False
theorem po_none' : PO' X none tNoPart' := ⟨fun pins s σ H Q I ⟨σd, L, Φ, hs, hl, ht, k⟩ => po_none.run pins s σ H Q I (k _ _ _ ht .refl hl)⟩
theorem po_some' (h : PE' X e te) : PO' X (some e) (tPart' te) := ⟨fun pins s σ H Q I ⟨σd, L, Φ, hs, hl, ht, k⟩ => (po_some h).run pins s σ H Q I ⟨σd, L, _, hs, hl, ht, fun d L1 v H1 h1 t1 r1 l1 => by
  cases r1 with
  | int => exact ⟨_, rfl, k _ _ _ h1 t1 l1⟩
  | _ => exact (show False from h1).elim⟩⟩
def cutD (ds : List D) (lo hi : Option Int) : List D := (ds.drop (HT.sIx ds.length 0 lo)).take (HT.sIx ds.length ds.length hi - HT.sIx ds.length 0 lo)
theorem DRs.cut {K : PySem.W.Frag} {H : Hp} {ds : List D} {vs : List V} (r : DRs K H ds vs) (lo hi : Option Int) : DRs K H (cutD ds lo hi) (cutV vs lo hi) := by
  unfold cutD cutV
  rw [r.length]
  exact (r.drop _).take _
def tSl' (t : TE') (tl th : TO') : TE' := fun σ L Φ => t σ L fun d L1 => tl σ L1 fun lo L2 => th σ L2 fun hi L3 => match d with
  | .ref a => ∃ ds, HasL L3 a ds ∧ ∀ p, Φ (.ref p) ((p, .lst (cutD ds lo hi)) :: L3)
  | .tup ds => Φ (.tup (cutD ds lo hi)) L3
  | _ => False
theorem cut_whole {vs : List D} {lo hi : Option Int} (h : HT.sIx vs.length 0 lo = 0 ∧ HT.sIx vs.length vs.length hi = vs.length) : cutD vs lo hi = vs := by
  unfold cutD
  rw [h.1, h.2]
  simp
theorem pe_slice' {lo hi : Option Expr} {tl th : TO'} {p2 : Pos} (he : PE' X e te) (hl : PO' X lo tl) (hu : PO' X hi th) : PE' X (.Subscript e (.Slice lo hi none p2) pos) (tSl' te tl th) :=
  lE (pe_slice (sl_list.or sl_tupA) he hl hu) fun σ H Q ⟨σd, L, Φ, hs, hl, ht, k⟩ => ⟨σd, L, _, hs, hl, ht, fun d L1 v H1 h1 t1 r1 l1 => ⟨σd, L1, _, hs.mono t1, l1, h1, fun o L2 H2 h2 t2 l2 => ⟨σd, L2, _, hs.mono (t1.trans t2), l2, h2, fun o2 L3 H3 h3 t3 l3 => by
    cases r1 with
    | ref =>
      obtain ⟨ds, hh, q⟩ := (show ∃ ds, _ from h3)
      obtain ⟨vs, e, r⟩ := l3.seq hh
      exact .inl ⟨_, vs, rfl, e, fun p hp => k _ _ _ _ (q p) (((t1.trans t2).trans t3).trans (TK.new hp)) .ref (l3.newl hp (r.cut _ _))⟩
    | tup s t =>
      have s3 := (t2.trans t3).1 _ _ s
      have tt := t.mono (t2.trans t3)
      refine .inr ⟨_, _, rfl, s3, fun hw => ?_, fun hw p hp => k _ _ _ _ h3 (((t1.trans t2).trans t3).trans (TK.new hp)) (dr_newt hp (tt.cut _ _)) (l3.mono_new hp)⟩
      rw [← t.length] at hw
      exact k _ _ _ _ h3 ((t1.trans t2).trans t3) (by rw [cut_whole hw]; exact .tup s3 tt) l3
    | _ => exact (show False from h3).elim⟩⟩⟩
def tRevL' (t : TE') : TE' := fun σ L Φ => t σ L fun d L1 => match d with
  | .ref a => ∃ ds, HasL L1 a ds ∧ ∀ p, Φ (.ref p) ((p, .lst ds.reverse) :: L1)
  | _ => False
theorem pe_revL' {k : Nat} {p1 p2 p3 : Pos} (he : PE' X e te) : PE' X (.Subscript e (.Slice none none (some (.UnaryOp .USub (.Constant (.int 1) k p1) p2)) p3) pos) (tRevL' te) :=
  lE (pe_revL he) fun σ H Q ⟨σd, L, Φ, hs, hl, ht, k⟩ => ⟨σd, L, _, hs, hl, ht, fun d L1 v H1 h1 t1 r1 l1 => by
    cases r1 with
    | ref =>
      obtain ⟨ds, hh, q⟩ := (show ∃ ds, _ from h1)
      obtain ⟨vs, e, r⟩ := l1.seq hh
      exact ⟨_, vs, rfl, e, fun p hp => k _ _ _ _ (q p) (t1.trans (TK.new hp)) .ref (l1.newl hp r.reverse)⟩
    | _ => exact (show False from h1).elim⟩
end
end DL

namespace DL
open PySem PySem.Spec PyProof.Rows L2
theorem HL.chgl {K : PySem.W.Frag} {H : Hp} {L L' : LL} {a : Addr} {ds ds' : List D} {vs vs' : List V} (l : HL K H L) (c : Chg L a (.lst ds) (.lst ds') L') (e : H a = some (.lst vs)) (r : DRs K H ds' vs') : TK K H (upd H a (.lst vs')) ∧ HL K (upd H a (.lst vs')) L' := by
  have t : TK K H (upd H a (.lst vs')) := TK.chg e trivial
  exact ⟨t, l.chg c rfl e trivial ⟨_, upd_same, r.mono t⟩⟩
/-! ### targets -/
abbrev TG' := D → Sl → LL → (Sl → LL → Prop) → Prop
abbrev TGs' := List D → Sl → LL → (Sl → LL → Prop) → Prop
def KontG (K : PySem.W.Frag) (H : Hp) (Q' : Sl → LL → Prop) (Q : L2.St → Hp → Prop) : Prop := ∀ σd L σ H', Q' σd L → TK K H H' → SR K H' σd σ → HL K H' L → Q σ H'
theorem KontG.mono {K : PySem.W.Frag} {H H1 : Hp} {Q' Q} (t : TK K H H1) (k : KontG K H Q' Q) : KontG K H1 Q' Q := fun a b c d h t1 => k a b c d h (t.trans t1)
def liftG (K : PySem.W.Frag) (g : TG') : TG := fun v σ H Q => ∃ d σd L Q', DR K H d v ∧ SR K H σd σ ∧ HL K H L ∧ g d σd L Q' ∧ KontG K H Q' Q
def liftGs (K : PySem.W.Frag) (g : TGs') : TGs := fun vs σ H Q => ∃ ds σd L Q', DRs K H ds vs ∧ SR K H σd σ ∧ HL K H L ∧ g ds σd L Q' ∧ KontG K H Q' Q
abbrev PG' (X : Cx) (e : Expr) (g : TG') : Prop := PG X e (liftG X.K g)
abbrev PGs' (X : Cx) (es : List Expr) (g : TGs') : Prop := PGs X es (liftGs X.K g)
section
variable {X : Cx} {pos : Pos} {e : Expr} {es : List Expr} {te ta tb : TE'}
theorem lG {tg : Expr} {g : TG} {g' : TG'} (h : PG X tg g) (f : ∀ v σ H Q, liftG X.K g' v σ H Q → g v σ H Q) : PG' X tg g' := ⟨fun pins s σ H v u Q I r q => h.run pins s σ H v u Q I r (f v σ H Q q)⟩
theorem lGs {ts : List Expr} {g : TGs} {g' : TGs'} (h : PGs X ts g) (f : ∀ v σ H Q, liftGs X.K g' v σ H Q → g v σ H Q) : PGs' X ts g' := ⟨fun pins s σ H v u Q I r q => h.run pins s σ H v u Q I r (f v σ H Q q)⟩
def gName' (i : Nat) : TG' := fun d σ L k => k (σ.set i (some d)) L
theorem pg_name' {i : Nat} {x : Str} (hN : X.N.Nodup) (hi : X.N[i]? = some x := by rfl) (hx : Loc X.env.scope x := by first | exact Or.inl rfl | exact Or.inr rfl) (hf : X.fn x = true ∨ X.env.scope.names.lookup x = some .local := by first | exact .inl rfl | exact .inr rfl | assumption) : PG' X (.Name x pos) (gName' i) :=
  lG (pg_name hN hi hx hf) fun v σ H Q ⟨d, σd, L, Q', r, hs, hl, h, k⟩ => k _ L _ H h .refl (hs.set r i) hl
def gNil' : TGs' := fun ds σ L k => match ds with
  | [] => k σ L
  | _ => False
def gCons' (g : TG') (u : TGs') : TGs' := fun ds σ L k => match ds with
  | [] => False
  | d :: r => g d σ L fun σ1 L1 => u r σ1 L1 k
theorem pgs_nil' : PGs' X [] gNil' := lGs pgs_nil fun v σ H Q ⟨ds, σd, L, Q', r, hs, hl, h, k⟩ => by
  cases r with
  | nil => exact ⟨rfl, k _ _ _ _ h .refl hs hl⟩
  | cons _ _ => exact (show False from h).elim
theorem pgs_cons' {g : TG'} {u : TGs'} (h1 : PG' X e g) (h2 : PGs' X es u) (hs : (assignEach (e :: es) X.env).map (·.2) = assign e X.env :: (assignEach es X.env).map (·.2) := by rfl) : PGs' X (e :: es) (gCons' g u) :=
  lGs (pgs_cons h1 h2 hs) fun v σ H Q ⟨ds, σd, L, Q', r, hs, hl, h, k⟩ => by
    cases r with
    | nil => exact (show False from h).elim
    | cons r1 r2 => exact ⟨_, _, rfl, _, σd, L, _, r1, hs, hl, h, fun σ1 L1 σ' H' h2 t s l => ⟨_, σ1, L1, _, r2.mono t, s, l, h2, k.mono t⟩⟩
def gTup' (n : Nat) (gs : TGs') : TG' := fun d σ L k => match d with
  | .tup ds => ds.length = n ∧ gs ds σ L k
  | _ => False
theorem pg_tup' {n k : Nat} {g : TGs'} (hc : X.calm = true) (h : PGs' X es g) (hn : (assignEach es X.env).length = n := by rfl) (hst : (assignEach es X.env).findIdx? (·.1) = none := by rfl) : PG' X (.Tuple es k pos) (gTup' n g) :=
  lG (pg_tup hc h hn hst) fun v σ H Q ⟨d, σd, L, Q', r, hs, hl, h, k⟩ => by
    cases r with
    | tup s t => exact ⟨_, _, rfl, s, by rw [← t.length]; exact (show _ ∧ _ from h).1, _, σd, L, Q', t, hs, hl, (show _ ∧ _ from h).2, k⟩
    | _ => exact (show False from h).elim
/-- o[i] = v of a list -/
def setD (d i v : D) (L : LL) (k : LL → Prop) : Prop := match d, i with
  | .ref a, .int i => ∃ ds L' j, Chg L a (.lst ds) (.lst (ds.set j v)) L' ∧ ixN ds.length i = some j ∧ k L'
  | _, _ => False
def gSub' (to ti : TE') : TG' := fun v σ L k => to σ L fun o L1 => ti σ L1 fun i L2 => setD o i v L2 fun L3 => k σ L3
theorem pg_sub' (ho : PE' X e ta) {i : Expr} (hi : PE' X i tb)
    (ha : ∀ v, assign (.Subscript e i pos) X.env v = (do
      let ov ← holding [v] (eval e X.env)
      let iv ← holding [v, ov] (eval i X.env)
      standAt pos
      holding [v, ov, iv] (setItem ov iv v)
      release [v, ov, iv] []) := by intro _; rfl) : PG' X (.Subscript e i pos) (gSub' ta tb) :=
  lG (pg_sub ho hi set_list ha) fun v σ H Q ⟨d, σd, L, Q', r, hs, hl, h, k⟩ => ⟨σd, L, _, hs, hl, h, fun o L1 vo H1 h1 t1 r1 l1 => ⟨σd, L1, _, hs.mono t1, l1, h1, fun ix L2 vi H2 h2 t2 r2 l2 => by
    cases r1 with
    | ref =>
      cases r2 with
      | int =>
        obtain ⟨ds, L', j, c, hj, q⟩ := (show ∃ ds, _ from h2)
        obtain ⟨vs, e, rs⟩ := l2.lst c.has
        have t3 : TK X.K H2 (upd H2 _ (.lst (vs.set j v))) := TK.chg e trivial
        refine ⟨_, vs, _, j, rfl, rfl, e, by rw [← rs.length]; exact hj, k _ _ _ _ q ((t1.trans t2).trans t3) (hs.mono ((t1.trans t2).trans t3)) (l2.chg c rfl e trivial ⟨_, upd_same, (rs.set (r.mono (t1.trans t2)) j).mono t3⟩)⟩
      | _ => exact (show False from h2).elim
    | _ => exact (show False from h2).elim⟩⟩
/-! o[a:b] = v -/
def gSlc (to ta tb : TE) : TG := fun v σ H Q => to σ H fun o H1 => ta σ H1 fun x H2 => ∃ i, x = .int i ∧ tb σ H2 fun y H3 => ∃ j, y = .int j ∧ ∃ l b xs ys, o = .ref l ∧ v = .ref b ∧ H3 l = some (.lst xs) ∧ H3 b = some (.lst ys) ∧ l ≠ b ∧ 0 ≤ i ∧ i ≤ j ∧ j ≤ xs.length ∧ xs.length + ys.length ≤ sizeLine ∧
  Q σ (upd H3 l (.lst (xs.take i.toNat ++ ys ++ xs.drop j.toNat)))
theorem pg_slice {o a b : Expr} {to ta tb : TE} {p2 : Pos} (ho : PE X o to) (ha : PE X a ta) (hb : PE X b tb)
    (has : ∀ v, assign (.Subscript o (.Slice (some a) (some b) none p2) pos) X.env v = (do
      let ov ← holding [v] (eval o X.env)
      let iv ← holding [v, ov] (eval (.Slice (some a) (some b) none p2) X.env)
      standAt pos
      holding [v, ov, iv] (setItem ov iv v)
      release [iv, v, ov] []) := by intro _; rfl) : PG X (.Subscript o (.Slice (some a) (some b) none p2) pos) (gSlc to ta tb) := by
  refine ⟨fun pins s σ H v u Q I r h => ?_⟩
  rw [has]
  refine wpAny_bind (wpAny_holding (thn (ho.run pins s σ H _ I h) fun ov s1 ⟨x, H1, I1, r1, q1⟩ => ?_))
  refine wpAny_bind (wpAny_holding ?_)
  refine wpAny_Slice (thn ((po_some ha).run pins s1 σ H1 (fun o H2 => match o with
    | some i => tb σ H2 fun y H3 => ∃ j, y = .int j ∧ ∃ l b xs ys, x = .ref l ∧ v = .ref b ∧ H3 l = some (.lst xs) ∧ H3 b = some (.lst ys) ∧ l ≠ b ∧ 0 ≤ i ∧ i ≤ j ∧ j ≤ xs.length ∧ xs.length + ys.length ≤ sizeLine ∧
        Q σ (upd H3 l (.lst (xs.take i.toNat ++ ys ++ xs.drop j.toNat)))
    | none => False) I1 q1) fun vl s2 ⟨o2, H2, I2, pl, q2⟩ => ?_)
  cases o2 with
  | none => exact q2.elim
  | some i =>
    refine thn ((po_some hb).run pins s2 σ H2 (fun o H3 => match o with
      | some j => ∃ l b xs ys, x = .ref l ∧ v = .ref b ∧ H3 l = some (.lst xs) ∧ H3 b = some (.lst ys) ∧ l ≠ b ∧ 0 ≤ i ∧ i ≤ j ∧ j ≤ xs.length ∧ xs.length + ys.length ≤ sizeLine ∧
          Q σ (upd H3 l (.lst (xs.take i.toNat ++ ys ++ xs.drop j.toNat)))
      | none => False) I2 q2) fun vu s3 ⟨o3, H3, I3, pu, q3⟩ => ?_
    cases o3 with
    | none => exact q3.elim
    | some j =>
      obtain ⟨l, b, xs, ys, ex, ev, hl, hb', hne, h0, hij, hj, hz, q⟩ := q3
      subst ex ev
      cases r
      cases r1
      rw [evalPart_none]
      refine wpAny_pure ?_
      have I4 : Inv X pins σ H3 { s3 with heap := s3.heap.push { cls := .type "slice", data := .fields #[vl, vu, .none] } } := I3.kept (t' := s3.toks) fun b ob q => Heap.get?_push_of_some _ q
      refine wpAny_bind (wpAny_standAt (wpAny_bind (wpAny_holding ?_)))
      have ra : RelV (.int i) vl := by cases pl; exact ⟨_, rfl⟩
      have rc : RelV (.int j) vu := by cases pu; exact ⟨_, rfl⟩
      exact set_slice I4 hl hb' hne (Heap.IsSliceOf.new _ vl vu .none) ra rc h0 hij hj hz fun s' I5 => wpAny_release ⟨σ, _, I5, q⟩
/-- .. -/
def setS (o v : D) (i j : Int) (L : LL) (k : LL → Prop) : Prop := match o, v with
  | .ref l, .ref b => ∃ ys L0, Sel L b (.lst ys) L0 ∧ ∃ xs L1, Chg L0 l (.lst xs) (.lst (xs.take i.toNat ++ ys ++ xs.drop j.toNat)) L1 ∧ (0 ≤ i ∧ i ≤ j ∧ j ≤ xs.length ∧ xs.length + ys.length ≤ 1000000) ∧ k ((b, .lst ys) :: L1)
  | _, _ => False
def intD (d : D) (k : Int → Prop) : Prop := match d with
  | .int i => k i
  | _ => False
def gSlc' (to ta tb : TE') : TG' := fun v σ L k => to σ L fun o L1 => ta σ L1 fun x L2 => intD x fun i => tb σ L2 fun y L3 => intD y fun j => setS o v i j L3 fun L4 => k σ L4
theorem pg_slice' {a b : Expr} {to ta tb : TE'} {p2 : Pos} (ho : PE' X e to) (ha : PE' X a ta) (hb : PE' X b tb)
    (has : ∀ v, assign (.Subscript e (.Slice (some a) (some b) none p2) pos) X.env v = (do
      let ov ← holding [v] (eval e X.env)
      let iv ← holding [v, ov] (eval (.Slice (some a) (some b) none p2) X.env)
      standAt pos
      holding [v, ov, iv] (setItem ov iv v)
      release [iv, v, ov] []) := by intro _; rfl) : PG' X (.Subscript e (.Slice (some a) (some b) none p2) pos) (gSlc' to ta tb) :=
  lG (pg_slice ho ha hb has) fun v σ H Q ⟨d, σd, L, Q', r, hs, hl, h, k⟩ => ⟨σd, L, _, hs, hl, h, fun o L1 vo H1 h1 t1 r1 l1 => ⟨σd, L1, _, hs.mono t1, l1, h1, fun ix L2 vi H2 h2 t2 r2 l2 => by
    cases r2 with
    | int =>
      refine ⟨_, rfl, σd, L2, _, hs.mono (t1.trans t2), l2, h2, fun jx L3 vj H3 h3 t3 r3 l3 => ?_⟩
      cases r3 with
      | int =>
        refine ⟨_, rfl, ?_⟩
        cases r1 with
        | ref =>
          cases r with
          | @ref bb =>
            obtain ⟨ys, L0, hb, xs, L1, c0, ⟨z1, z2, z3, z4⟩, q⟩ := (show ∃ ys, _ from h3)
            replace l3 := l3.perm hb.perm
            have c := Chg.there (x := (bb, LO.lst ys)) c0
            have hne := ((List.pairwise_cons.mp l3.nd).1 _ c0.has.mem rfl rfl).symm
            obtain ⟨vs, e1, s1⟩ := l3.lst c.has
            obtain ⟨us, e2, s2⟩ := l3.lst Has.here
            have n1 := s1.length
            have n2 := s2.length
            have tt := (t1.trans t2).trans t3
            refine ⟨_, _, vs, us, rfl, rfl, e1, e2, hne, z1, z2, by omega, szl (by omega), ?_⟩
            obtain ⟨t4, l4⟩ := l3.chgl c e1 (((s1.take _).append s2).append (s1.drop _))
            exact k _ _ _ _ q (tt.trans t4) (hs.mono (tt.trans t4)) l4
          | _ => exact (show False from h3).elim
        | _ => exact (show False from h3).elim
      | _ => exact (show False from h3).elim
    | _ => exact (show False from h2).elim⟩⟩
/-! o.f = v as a target within a tuple is made by its own statement rule where it stands alone -/
/-! ### statements -/
theorem ek_nx {K : PySem.W.Frag} {H : Hp} {D' : EndsD} {D : Ends} (k : EK K H D' D) : KontG K H D'.nx D.nx := k.nx
def tAsg' (t : TE') (g : TG') : TS' := fun D σ L => t σ L fun d L1 => g d σ L1 D.nx
theorem ps_asg' {tg : Expr} {g : TG'} (he : PE' X e te) (hg : PG' X tg g) (hs : swapsWithSole [tg] e pos.line X.env = pure false := by rfl) (hw : swappedStores [tg] e X.env = pure none := by rfl)
    (h1 : (assignEach [tg] X.env).map (·.2) = [assign tg X.env] := by rfl) : PS' X (.Assign [tg] e pos) (tAsg' te g) :=
  lS (ps_asg he hg hs hw h1) fun D σ H ⟨σd, L, D', hs, hl, ht, k⟩ => ⟨σd, L, _, hs, hl, ht, fun d L1 v H1 h1 t1 r1 l1 => ⟨d, σd, L1, _, r1, hs.mono t1, l1, h1, KontG.mono t1 k.nx⟩⟩
theorem ps_set' {i : Nat} {x : Str} {pos' : Pos} (hN : X.N.Nodup) (he : PE' X e te) (hi : X.N[i]? = some x := by rfl) (hx : Loc X.env.scope x := by first | exact Or.inl rfl | exact Or.inr rfl) (hs : swapsWith e (some (.Name x pos')) pos.line X.env = pure false := by rfl)
    (hf : X.fn x = true ∨ X.env.scope.names.lookup x = some .local := by first | exact .inl rfl | exact .inr rfl | assumption) : PS' X (.Assign [.Name x pos'] e pos) (tAsg' te (gName' i)) :=
  lS (ps_set hN hi hx he hs hf) fun D σ H ⟨σd, L, D', hs, hl, ht, k⟩ => ⟨σd, L, _, hs, hl, ht, fun d L1 v H1 h1 t1 r1 l1 => k.nx _ _ _ _ h1 t1 ((hs.mono t1).set r1 i) l1⟩
def tPar' (i j : Nat) (t : TA') : TS' := fun D σ L => t σ L fun ds L1 => match ds with
  | [d, e] => D.nx ((σ.set i (some d)).set j (some e)) L1
  | _ => False
theorem ps_par' {i j : Nat} {x y : Str} {a b : Expr} {ta : TA'} {px py pt : Pos} {kt k2 pt2} (hc : X.calm = true) (hN : X.N.Nodup) (hij : i ≠ j) (ha : PA' X [a, b] ta) (hi : X.N[i]? = some x := by rfl) (hj : X.N[j]? = some y := by rfl)
    (hx : X.env.scope.names.lookup x = some .local := by rfl) (hy : X.env.scope.names.lookup y = some .local := by rfl)
    (hw : swappedStores [.Tuple [.Name x px, .Name y py] kt pt] (.Tuple [a, b] k2 pt2) X.env = pure (some [x, y]) := by rfl)
    (hs : swapsWithSole [.Tuple [.Name x px, .Name y py] kt pt] (.Tuple [a, b] k2 pt2) pos.line X.env = pure false := by rfl) :
    PS' X (.Assign [.Tuple [.Name x px, .Name y py] kt pt] (.Tuple [a, b] k2 pt2) pos) (tPar' i j ta) :=
  lS (ps_par hc hN hi hj hij hx hy ha hw hs) fun D σ H ⟨σd, L, D', hs, hl, ht, k⟩ => ⟨σd, L, _, hs, hl, ht, fun ds L1 vs H1 h1 t1 r1 l1 => by
    match ds, r1, h1 with
    | [_, _], .cons ra (.cons rb .nil), h1 => exact ⟨_, _, rfl, k.nx _ _ _ _ h1 t1 (((hs.mono t1).set ra i).set rb j) l1⟩
    | [], _, h1 => exact (show False from h1).elim
    | [_], _, h1 => exact (show False from h1).elim
    | _ :: _ :: _ :: _, _, h1 => exact (show False from h1).elim⟩
def tPar3' (i j l : Nat) (t : TA') : TS' := fun D σ L => t σ L fun ds L1 => match ds with
  | [d, e, f] => D.nx (((σ.set i (some d)).set j (some e)).set l (some f)) L1
  | _ => False
theorem ps_par3' {i j l : Nat} {x y z : Str} {a b c : Expr} {ta : TA'} {px py pz pt : Pos} {kt k2 pt2} (hc : X.calm = true) (hN : X.N.Nodup) (hij : i ≠ j) (hil : i ≠ l) (hjl : j ≠ l) (ha : PA' X [a, b, c] ta) (hi : X.N[i]? = some x := by rfl) (hj : X.N[j]? = some y := by rfl) (hl : X.N[l]? = some z := by rfl)
    (hx : X.env.scope.names.lookup x = some .local := by rfl) (hy : X.env.scope.names.lookup y = some .local := by rfl) (hz : X.env.scope.names.lookup z = some .local := by rfl)
    (hw : swappedStores [.Tuple [.Name x px, .Name y py, .Name z pz] kt pt] (.Tuple [a, b, c] k2 pt2) X.env = pure (some [x, y, z]) := by rfl)
    (hs : swapsWithSole [.Tuple [.Name x px, .Name y py, .Name z pz] kt pt] (.Tuple [a, b, c] k2 pt2) pos.line X.env = pure false := by rfl) :
    PS' X (.Assign [.Tuple [.Name x px, .Name y py, .Name z pz] kt pt] (.Tuple [a, b, c] k2 pt2) pos) (tPar3' i j l ta) :=
  lS (ps_par3 hc hN hi hj hl hij hil hjl hx hy hz ha hw hs) fun D σ H ⟨σd, L, D', hs, hl, ht, k⟩ => ⟨σd, L, _, hs, hl, ht, fun ds L1 vs H1 h1 t1 r1 l1 => by
    match ds, r1, h1 with
    | [_, _, _], .cons ra (.cons rb (.cons rc .nil)), h1 => exact ⟨_, _, _, rfl, k.nx _ _ _ _ h1 t1 ((((hs.mono t1).set ra i).set rb j).set rc l) l1⟩
    | [], _, h1 => exact (show False from h1).elim
    | [_], _, h1 => exact (show False from h1).elim
    | [_, _], _, h1 => exact (show False from h1).elim
    | _ :: _ :: _ :: _ :: _, _, h1 => exact (show False from h1).elim⟩
def tDrop' (t : TE') : TS' := fun D σ L => t σ L fun _ L1 => D.nx σ L1
theorem ps_expr' (he : PE' X e te) (hs : swapsWith e none pos.line X.env = pure false := by rfl) : PS' X (.Expr e pos) (tDrop' te) :=
  lS (ps_expr he hs) fun D σ H ⟨σd, L, D', hs, hl, ht, k⟩ => ⟨σd, L, _, hs, hl, ht, fun d L1 v H1 h1 t1 r1 l1 => k.nx _ _ _ _ h1 t1 (hs.mono t1) l1⟩
def tRet' (t : TE') : TS' := fun D σ L => t σ L D.rt
theorem ps_ret' (he : PE' X e te) : PS' X (.Return (some e) pos) (tRet' te) :=
  lS (ps_ret he) fun D σ H ⟨σd, L, D', hs, hl, ht, k⟩ => ⟨σd, L, _, hs, hl, ht, fun d L1 v H1 h1 t1 r1 l1 => k.rt _ _ _ _ h1 t1 r1 l1⟩
def tRetN' : TS' := fun D _ L => D.rt .non L
theorem ps_retN' : PS' X (.Return none pos) tRetN' := lS ps_retN fun D σ H ⟨σd, L, D', hs, hl, ht, k⟩ => k.rt _ _ _ _ ht .refl .non hl
def tNext' : TS' := fun D σ L => D.nx σ L
def tSeq' (t u : TS') : TS' := fun D σ L => t { D with nx := fun σ1 L1 => u D σ1 L1 } σ L
variable {st : Stmt} {sts : List Stmt} {t u : TS'}
theorem pss_nil' : PSs' X [] tNext' := lSs pss_nil fun D σ H ⟨σd, L, D', hs, hl, ht, k⟩ => k.nx _ _ _ _ ht .refl hs hl
theorem pss_cons' (h1 : PS' X st t) (h2 : PSs' X sts u) : PSs' X (st :: sts) (tSeq' t u) :=
  lSs (pss_cons h1 h2) fun D σ H ⟨σd, L, D', hs, hl, ht, k⟩ => ⟨σd, L, _, hs, hl, ht, fun σ1 L1 σ' H' h t1 s l => ⟨σ1, L1, D', s, l, h, k.mono t1⟩, k.rt, k.bk, k.ct⟩
theorem pss_one' (h1 : PS' X st t) : PSs' X [st] t := pss_one h1
theorem ps_pass' : PS' X (.Pass pos) tNext' := lS ps_pass fun D σ H ⟨σd, L, D', hs, hl, ht, k⟩ => k.nx _ _ _ _ ht .refl hs hl
def tBreak' : TS' := fun D σ L => D.bk σ L
theorem ps_break' : PS' X (.Break pos) tBreak' := lS ps_break fun D σ H ⟨σd, L, D', hs, hl, ht, k⟩ => k.bk _ _ _ _ ht .refl hs hl
def tCont' : TS' := fun D σ L => D.ct σ L
theorem ps_continue' : PS' X (.Continue pos) tCont' := lS ps_continue fun D σ H ⟨σd, L, D', hs, hl, ht, k⟩ => k.ct _ _ _ _ ht .refl hs hl
def tNever' : TS' := fun _ _ _ => False
theorem ps_never' : PS' X st tNever' := lS ps_never fun D σ H ⟨σd, L, D', hs, hl, ht, k⟩ => ht.elim
def tIfS' (c : TT') (t u : TS') : TS' := fun D σ L => c σ L (fun L1 => t D σ L1) (fun L1 => u D σ L1)
theorem ps_if' {c : Expr} {a b : List Stmt} {tc : TT'} (hc : PT' X c tc) (ha : PSs' X a t) (hb : PSs' X b u) : PS' X (.If c a b pos) (tIfS' tc t u) :=
  lS (ps_if hc ha hb) fun D σ H ⟨σd, L, D', hs, hl, ht, k⟩ => ⟨σd, L, _, _, hs, hl, ht, fun L1 H1 q t l => by
    refine iteT ?_
    exact ⟨σd, L1, D', hs.mono t, l, q, k.mono t⟩, fun L1 H1 q t l => by
    refine iteF ?_
    exact ⟨σd, L1, D', hs.mono t, l, q, k.mono t⟩⟩
/-! name op= e -/
def OpIp (K : PySem.W.Frag) (f : F2) (r : TIp) : Prop := OpD K f r
def tAug' (i : Nat) (t : TE') (f : F2) : TS' := fun D σ L => Nth σ i fun x => t σ L fun y L1 => f x y L1 fun z L2 => D.nx (σ.set i (some z)) L2
theorem ps_aug' {i : Nat} {x : Str} {op : Operator} {f : F2} {ti : TIp} {pos' : Pos} (hN : X.N.Nodup) (od : OpD X.K f ti) (ho : PIp X op ti) (he : PE' X e te) (hi : X.N[i]? = some x := by rfl) (hx : Loc X.env.scope x := by first | exact Or.inl rfl | exact Or.inr rfl)
    (hf : X.fn x = true ∨ X.env.scope.names.lookup x = some .local := by first | exact .inl rfl | exact .inr rfl | assumption) : PS' X (.AugAssign (.Name x pos') op e pos) (tAug' i te f) :=
  lS (ps_aug hN hi hx he ho hf) fun D σ H ⟨σd, L, D', hs, hl, ht, k⟩ => by
    obtain ⟨d, v, e1, r, q⟩ := Nth.get hs ht
    exact ⟨v, e1, σd, L, _, hs, hl, q, fun d2 L1 v2 H1 h1 t1 r1 l1 => od _ _ _ _ _ _ _ _ (r.mono t1) r1 l1 h1 fun z L2 vz H2 h2 t2 r2 l2 => k.nx _ _ _ _ h2 (t1.trans t2) ((hs.mono (t1.trans t2)).set r2 i) l2⟩
theorem od_ipadd {K : PySem.W.Frag} : OpD K (fI fun i j => .int (i + j)) (ipI fun i j => i + j) := fun d1 d2 x y L H Φ Q r1 r2 l h k => by
  cases r1 <;> cases r2 <;> first
    | exact (show False from h).elim
    | exact ⟨_, _, rfl, rfl, k _ _ _ _ h .refl .int l⟩
theorem od_ipsub {K : PySem.W.Frag} : OpD K (fI fun i j => .int (i - j)) (ipI fun i j => i - j) := fun d1 d2 x y L H Φ Q r1 r2 l h k => by
  cases r1 <;> cases r2 <;> first
    | exact (show False from h).elim
    | exact ⟨_, _, rfl, rfl, k _ _ _ _ h .refl .int l⟩
/-! o.f = e -/
def putD (C : Addr) (f : Nat) (o v : D) (L : LL) (k : LL → Prop) : Prop := match o with
  | .ref a => ∃ fs L', Chg L a (.ins C fs) (.ins C (putN f v fs)) L' ∧ Nat.ble fs.length 900 = true ∧ k L'
  | _ => False
def tFldS' (C : Addr) (f : Nat) (to tv : TE') : TS' := fun D σ L => tv σ L fun v L1 => to σ L1 fun o L2 => putD C f o v L2 fun L3 => D.nx σ L3
theorem ps_fld' {C : Addr} {f : Nat} {x : Str} {value : Expr} {tv : TE'} {pos' : Pos} (cl : Cls X.K C) (na : NoAttr X.K C x) (ha : PE' X e te) (hv : PE' X value tv) (hx : fname f = x := by rfl) (hf : f < fnames.length := by decide)
    (hs : swapsWith value (some (.Attribute e x pos')) pos.line X.env = pure false := by rfl) : PS' X (.Assign [.Attribute e x pos'] value pos) (tFldS' C f te tv) :=
  lS (ps_fld ha hv hs) fun D σ H ⟨σd, L, D', hs, hl, ht, k⟩ => ⟨σd, L, _, hs, hl, ht, fun d L1 v H1 h1 t1 r1 l1 => ⟨σd, L1, _, hs.mono t1, l1, h1, fun o L2 vo H2 h2 t2 r2 l2 => by
    cases r2 with
    | ref =>
      obtain ⟨fs, L', c, z, q⟩ := (show ∃ fs, _ from h2)
      obtain ⟨dx, gs, e1, r⟩ := l2.has c.has
      have t3 : TK X.K H2 (upd H2 _ (.ins C dx (putF x v gs))) := TK.chg e1 trivial
      have zz : fs.length ≤ 900 := Nat.le_of_ble_eq_true z
      refine ⟨_, C, dx, gs, rfl, e1, cl, na, by rw [← r.length]; omega, k.nx _ _ _ _ q ((t1.trans t2).trans t3) (hs.mono ((t1.trans t2).trans t3)) (l2.chg c rfl e1 trivial ⟨dx, _, upd_same, ?_⟩)⟩
      have z2 := (r.put hf (r1.mono t2)).mono t3
      rw [hx] at z2
      exact z2
    | _ => exact (show False from h2).elim⟩⟩
end
end DL

namespace DL
open PySem PySem.Spec PyProof.Rows L2
/-! ### weakening -/
inductive Sub : Sl → Sl → Prop
  | nil : Sub [] []
  | any {x σ τ} : Sub σ τ → Sub (x :: σ) (none :: τ)
  | same {x y σ τ} : x = y → Sub σ τ → Sub (x :: σ) (y :: τ)
theorem SR.sub {K : PySem.W.Frag} {H : Hp} : ∀ {σd τ : Sl} {σ : L2.St}, SR K H σd σ → Sub σd τ → SR K H τ σ
  | _, _, _, .nil, .nil => .nil
  | _, _, _, .no r, .any s => .no (SR.sub r s)
  | _, _, _, .yes _ r, .any s => .no (SR.sub r s)
  | _, _, _, .no r, .same e s => by subst e; exact .no (SR.sub r s)
  | _, _, _, .yes a r, .same e s => by subst e; exact .yes a (SR.sub r s)
theorem Sub.refl : ∀ σ : Sl, Sub σ σ
  | [] => .nil
  | _ :: r => .same rfl (Sub.refl r)
/-- from here to an assertion -/
def To (σ : Sl) (L : LL) (W : Sl → LL → Prop) : Prop := ∃ σ1 L1, Sub σ σ1 ∧ Cov L L1 ∧ W σ1 L1
theorem To.mk {σ σ1 : Sl} {L L1 : LL} {W : Sl → LL → Prop} (a : Sub σ σ1) (b : Cov L L1) (c : W σ1 L1) : To σ L W := ⟨σ1, L1, a, b, c⟩
/-! ### while -/
@[irreducible] def Nxt (W : Nat → Sl → LL → Prop) (m : Nat) : Sl → LL → Prop := fun σ' L' => ∃ m', m' < m ∧ To σ' L' (W m')
theorem Nxt.elim {W : Nat → Sl → LL → Prop} {m : Nat} {σ : Sl} {L : LL} (h : Nxt W m σ L) : ∃ m', m' < m ∧ To σ L (W m') := by
  unfold Nxt at h
  exact h
@[irreducible] def Nx1 (W : Nat → Sl → LL → Prop) (i : Nat) : Sl → LL → Prop := fun σ' L' => To σ' L' (W (i + 1))
theorem Nx1.elim {W : Nat → Sl → LL → Prop} {m : Nat} {σ : Sl} {L : LL} (h : Nx1 W m σ L) : To σ L (W (m + 1)) := by
  unfold Nx1 at h
  exact h
@[irreducible] def WhileI (c : TT') (tb : TS') (D : EndsD) (σ : Sl) (L : LL) : Prop := ∃ W : Nat → Sl → LL → Prop, (∃ m, To σ L (W m)) ∧ ∀ m σ L, W m σ L →
  c σ L (fun L1 => tb { D with nx := Nxt W m, ct := Nxt W m, bk := D.nx } σ L1) (fun L1 => D.nx σ L1)
def tWhile' (c : TT') (tb : TS') : TS' := fun D σ L => WhileI c tb D σ L
section
variable {X : Cx} {pos : Pos} {e : Expr} {es : List Expr} {te ta tb : TE'}
theorem ps_while' {c : Expr} {body : List Stmt} {tc : TT'} {tb : TS'} (hp : PassesOwn (model X.prog X.w) X.A X.env X.xe) (hc : PT' X c tc) (hb : PSs' X body tb) : PS' X (.While c body [] pos) (tWhile' tc tb) :=
  lS (ps_while hp hc hb) fun D σ H ⟨σd, L, D', hs, hl, ht, k⟩ => by
    unfold tWhile' WhileI at ht
    obtain ⟨W, ⟨m0, σ1, L1, s1, c1, w1⟩, turn⟩ := ht
    refine ⟨fun m σ' H' => ∃ σd' L', SR X.K H' σd' σ' ∧ HL X.K H' L' ∧ W m σd' L' ∧ TK X.K H H', ⟨m0, σ1, L1, hs.sub s1, hl.cov c1, w1, .refl⟩, ?_⟩
    rintro m σ' H' ⟨σd', L', hs', hl', w', tk⟩
    refine ⟨σd', L', _, _, hs', hl', turn m σd' L' w', fun L2 H2 q t l => ?_, fun L2 H2 q t l => ?_⟩
    · refine iteT ?_
      refine ⟨fun σ3 H3 => ∃ m', m' < m ∧ ∃ σd' L', SR X.K H3 σd' σ3 ∧ HL X.K H3 L' ∧ W m' σd' L' ∧ TK X.K H H3, fun σ3 H3 h => h, ?_⟩
      have again : ∀ σd3 L3 σ3 H3, Nxt W m σd3 L3 → TK X.K H2 H3 → SR X.K H3 σd3 σ3 → HL X.K H3 L3 → ∃ m', m' < m ∧ ∃ σd' L', SR X.K H3 σd' σ3 ∧ HL X.K H3 L' ∧ W m' σd' L' ∧ TK X.K H H3 := fun σd3 L3 σ3 H3 h t3 s3 l3 => by
        obtain ⟨m', hm, σ4, L4, s4, c4, w4⟩ := h.elim
        exact ⟨m', hm, σ4, L4, s3.sub s4, l3.cov c4, w4, (tk.trans t).trans t3⟩
      exact ⟨σd', L2, _, hs'.mono t, l, q, again, (k.mono (tk.trans t)).rt, (k.mono (tk.trans t)).nx, again⟩
    · refine iteF ?_
      exact (k.mono tk).nx _ _ _ _ q t (hs'.mono t) l
/-! ### what is walked: the items, what stays -/
abbrev TI' := Sl → LL → (List D → (LL → Prop) → LL → Prop) → Prop
structure ItR (K : PySem.W.Frag) (H0 : Hp) (items : List D) (st : LL → Prop) (J : It) : Prop where
  go : ∀ i L H, TK K H0 H → HL K H L → st L → i < items.length → J.go i H
  yld : ∀ i L H x H' d, TK K H0 H → HL K H L → st L → items[i]? = some d → J.yld i H x H' → TK K H H' ∧ DR K H' d x ∧ HL K H' L
  stop : ∀ L H, TK K H0 H → HL K H L → st L → J.stop items.length H
def liftI (K : PySem.W.Frag) (w : TI') : TI := fun σ H R => ∃ σd L R', SR K H σd σ ∧ HL K H L ∧ w σd L R' ∧ ∀ items st L' J H', R' items st L' → ItR K H' items st J → TK K H H' → HL K H' L' → R J H'
abbrev PI' (X : Cx) (tg iter : Expr) (w : TI') : Prop := PI X tg iter (liftI X.K w)
theorem lI {tg iter : Expr} {w : TI} {w' : TI'} (h : PI X tg iter w) (f : ∀ σ H R, liftI X.K w' σ H R → w σ H R) : PI' X tg iter w' := ⟨fun pins s σ H R I q => h.run pins s σ H R I (f σ H R q)⟩
@[irreducible] def ForI (items : List D) (st : LL → Prop) (g : TG') (tb : TS') (D : EndsD) (σ : Sl) (L : LL) : Prop := ∃ W : Nat → Sl → LL → Prop, To σ L (W 0) ∧
  (∀ i σ L d, W i σ L → items[i]? = some d → st L ∧ g d σ L fun σ2 L2 => tb { D with nx := Nx1 W i, ct := Nx1 W i, bk := D.nx } σ2 L2) ∧ (∀ σ L, W items.length σ L → st L ∧ D.nx σ L)
def tFor' (w : TI') (g : TG') (tb : TS') : TS' := fun D σ L => w σ L fun items st L1 => ForI items st g tb D σ L1
theorem ps_for' {tg iter : Expr} {body : List Stmt} {w : TI'} {g : TG'} {tb : TS'} (hp : PassesOwn (model X.prog X.w) X.A X.env X.xe) (hc : X.calm = true) (hi : PI' X tg iter w) (hg : PG' X tg g) (hb : PSs' X body tb)
    (hs : ∀ x, foldedSetIterable iter X.env x = pure x := by intro _; rfl) : PS' X (.For tg iter body [] pos) (tFor' w g tb) :=
  lS (ps_for hp hc hi hg hb hs) fun D σ H ⟨σd, L, D', hs, hl, ht, k⟩ => ⟨σd, L, _, hs, hl, ht, fun items st L1 J H1 h1 J1 t1 l1 => by
    unfold ForI at h1
    obtain ⟨W, ⟨σ1, L2, s1, c1, w1⟩, turn, done⟩ := h1
    refine ⟨fun i m σ' H' => m = items.length - i ∧ i ≤ items.length ∧ ∃ σd' L', SR X.K H' σd' σ' ∧ HL X.K H' L' ∧ W i σd' L' ∧ TK X.K H1 H', ⟨items.length, by simp, Nat.zero_le _, σ1, L2, (hs.mono t1).sub s1, l1.cov c1, w1, .refl⟩, ?_⟩
    rintro i m σ' H' ⟨rfl, hi, σd', L', hs', hl', w', tk⟩
    by_cases hlt : i < items.length
    · obtain ⟨d, hd⟩ : ∃ d, items[i]? = some d := ⟨items[i], List.getElem?_eq_getElem hlt⟩
      obtain ⟨hst, hg'⟩ := turn i σd' L' d w' hd
      refine .inr ⟨J1.go i L' H' tk hl' hst hlt, fun σ3 H3 => ∃ σd' L', SR X.K H3 σd' σ3 ∧ HL X.K H3 L' ∧ W (i + 1) σd' L' ∧ TK X.K H1 H3, fun σ3 H3 h => ⟨items.length - (i + 1), by omega, rfl, hlt, h⟩, fun x H2 hy => ?_⟩
      obtain ⟨t2, r2, l2⟩ := J1.yld i L' H' x H2 d tk hl' hst hd hy
      refine ⟨d, σd', L', _, r2, hs'.mono t2, l2, hg', fun σd3 L3 σ3 H3 q3 t3 s3 l3 => ?_⟩
      have again : ∀ σd4 L4 σ4 H4, Nx1 W i σd4 L4 → TK X.K H3 H4 → SR X.K H4 σd4 σ4 → HL X.K H4 L4 → ∃ σd' L', SR X.K H4 σd' σ4 ∧ HL X.K H4 L' ∧ W (i + 1) σd' L' ∧ TK X.K H1 H4 := fun σd4 L4 σ4 H4 h t4 s4 l4 => by
        obtain ⟨σ5, L5, s5, c5, w5⟩ := h.elim
        exact ⟨σ5, L5, s4.sub s5, l4.cov c5, w5, ((tk.trans t2).trans t3).trans t4⟩
      have kk := k.mono (t1.trans ((tk.trans t2).trans t3))
      exact ⟨σd3, L3, _, s3, l3, q3, again, kk.rt, kk.nx, again⟩
    · have e : i = items.length := by omega
      subst e
      obtain ⟨hst, q⟩ := done σd' L' w'
      exact .inl ⟨J1.stop L' H' tk hl' hst, (k.mono (t1.trans tk)).nx _ _ _ _ q .refl hs' hl'⟩⟩
/-! over a list, a tuple, a range -/
theorem itr_list {K : PySem.W.Frag} {H0 : Hp} {a : Addr} {ds : List D} : ItR K H0 ds (fun L => HasL L a ds) (Itl K a) where
  go := fun i L H _ l st hi => by
    obtain ⟨vs, e, r⟩ := l.seq st
    have : i < vs.length := by rw [← r.length]; exact hi
    exact ⟨vs, vs[i], e, List.getElem?_eq_getElem this⟩
  yld := fun i L H x H' d _ l st hd hy => by
    obtain ⟨vs, e, r⟩ := l.seq st
    obtain ⟨e1, hy⟩ := hy
    subst e1
    obtain ⟨v, hv, rv⟩ := r.get hd
    have e2 : x = v := Option.some.inj ((hy vs e).symm.trans hv)
    subst e2
    exact ⟨.refl, rv, l⟩
  stop := fun L H _ l st => by
    obtain ⟨vs, e, r⟩ := l.seq st
    exact ⟨vs, e, by rw [r.length]; exact Nat.le_refl _⟩
theorem itr_tup {K : PySem.W.Frag} {H0 : Hp} {a : Addr} {ds : List D} {vs : List V} (s : SqT K H0 a vs) (r : DRs K H0 ds vs) : ItR K H0 ds (fun _ => True) (Itt K a) where
  go := fun i L H t l st hi => by
    have : i < vs.length := by rw [← r.length]; exact hi
    exact ⟨vs, vs[i], t.1 _ _ s, List.getElem?_eq_getElem this⟩
  yld := fun i L H x H' d t l st hd hy => by
    obtain ⟨e1, hy⟩ := hy
    subst e1
    obtain ⟨v, hv, rv⟩ := r.get hd
    have e2 : x = v := Option.some.inj ((hy vs (t.1 _ _ s)).symm.trans hv)
    subst e2
    exact ⟨.refl, rv.mono t, l⟩
  stop := fun L H t l st => ⟨vs, t.1 _ _ s, by rw [r.length]; exact Nat.le_refl _⟩
/-- for x in a list or a tuple -/
def iLst' (t : TE') : TI' := fun σ L R => t σ L fun d L1 => match d with
  | .ref a => ∃ ds, HasL L1 a ds ∧ R ds (fun L => HasL L a ds) L1
  | _ => False
def iTup' (t : TE') : TI' := fun σ L R => t σ L fun d L1 => match d with
  | .tup ds => R ds (fun _ => True) L1
  | _ => False
theorem pi_list' {tg : Expr} (h : PE' X e te) : PI' X tg e (iLst' te) := lI (pi_list h) fun σ H R ⟨σd, L, R', hs, hl, ht, k⟩ => ⟨σd, L, _, hs, hl, ht, fun d L1 v H1 h1 t1 r1 l1 => by
  cases r1 with
  | ref =>
    obtain ⟨ds, hh, q⟩ := (show ∃ ds, _ from h1)
    obtain ⟨vs, e, r⟩ := l1.seq hh
    exact ⟨_, rfl, ⟨vs, e⟩, k _ _ _ _ _ q itr_list t1 l1⟩
  | _ => exact (show False from h1).elim⟩
theorem pi_tup' {tg : Expr} (h : PE' X e te) : PI' X tg e (iTup' te) := lI (pi_tup h) fun σ H R ⟨σd, L, R', hs, hl, ht, k⟩ => ⟨σd, L, _, hs, hl, ht, fun d L1 v H1 h1 t1 r1 l1 => by
  cases r1 with
  | tup s r => exact ⟨_, rfl, ⟨_, s⟩, k _ _ _ _ _ h1 (itr_tup s r) t1 l1⟩
  | _ => exact (show False from h1).elim⟩
/-- lo, lo + 1, .. -/
def rgD (lo hi : Int) : List D := (List.range (hi - lo).toNat).map fun i => .int (lo + (i : Nat))
theorem rgD_length (lo hi : Int) : (rgD lo hi).length = (hi - lo).toNat := by unfold rgD; rw [List.length_map, List.length_range]
theorem rgD_get {lo hi : Int} {i : Nat} {d : D} (h : (rgD lo hi)[i]? = some d) : i < (hi - lo).toNat ∧ d = .int (lo + i) := by
  unfold rgD at h
  rw [List.getElem?_map] at h
  cases e : (List.range (hi - lo).toNat)[i]? with
  | none => rw [e] at h; cases h
  | some j =>
    rw [e] at h
    obtain ⟨h1, h2⟩ := List.getElem?_eq_some_iff.mp e
    rw [List.getElem_range] at h2
    rw [List.length_range] at h1
    subst h2
    exact ⟨h1, (Option.some.inj h).symm⟩
theorem itr_range {K : PySem.W.Frag} {H0 : Hp} {lo hi : Int} : ItR K H0 (rgD lo hi) (fun _ => True) (Itr lo (hi - lo).toNat) where
  go := fun i L H _ l st hi => by rw [rgD_length] at hi; exact hi
  yld := fun i L H x H' d _ l st hd hy => by
    obtain ⟨e1, e2⟩ := hy
    subst e1 e2
    rw [(rgD_get hd).2]
    exact ⟨.refl, .int, l⟩
  stop := fun L H _ l st => by rw [rgD_length]; exact Nat.le_refl _
def rgOk (lo hi : Int) : Prop := -(2 ^ 62) ≤ lo ∧ lo < 2 ^ 62 ∧ -(2 ^ 62) ≤ hi ∧ hi < 2 ^ 62
def one (ds : List D) (k : D → Prop) : Prop := match ds with
  | [d] => k d
  | _ => False
def two (ds : List D) (k : D → D → Prop) : Prop := match ds with
  | [d, e] => k d e
  | _ => False
def three (ds : List D) (k : D → D → D → Prop) : Prop := match ds with
  | [d, e, f] => k d e f
  | _ => False
theorem one_dr {K : PySem.W.Frag} {H : Hp} {ds : List D} {vs : List V} {k : D → Prop} (r : DRs K H ds vs) (h : one ds k) : ∃ d v, ds = [d] ∧ vs = [v] ∧ DR K H d v ∧ k d := by
  match ds, r, h with
  | [_], .cons a .nil, h => exact ⟨_, _, rfl, rfl, a, h⟩
  | [], _, h => exact (show False from h).elim
  | _ :: _ :: _, _, h => exact (show False from h).elim
theorem two_dr {K : PySem.W.Frag} {H : Hp} {ds : List D} {vs : List V} {k : D → D → Prop} (r : DRs K H ds vs) (h : two ds k) : ∃ d e v u, ds = [d, e] ∧ vs = [v, u] ∧ DR K H d v ∧ DR K H e u ∧ k d e := by
  match ds, r, h with
  | [_, _], .cons a (.cons b .nil), h => exact ⟨_, _, _, _, rfl, rfl, a, b, h⟩
  | [], _, h => exact (show False from h).elim
  | [_], _, h => exact (show False from h).elim
  | _ :: _ :: _ :: _, _, h => exact (show False from h).elim
theorem three_dr {K : PySem.W.Frag} {H : Hp} {ds : List D} {vs : List V} {k : D → D → D → Prop} (r : DRs K H ds vs) (h : three ds k) : ∃ d e f v u w, ds = [d, e, f] ∧ vs = [v, u, w] ∧ DR K H d v ∧ DR K H e u ∧ DR K H f w ∧ k d e f := by
  match ds, r, h with
  | [_, _, _], .cons a (.cons b (.cons c .nil)), h => exact ⟨_, _, _, _, _, _, rfl, rfl, a, b, c, h⟩
  | [], _, h => exact (show False from h).elim
  | [_], _, h => exact (show False from h).elim
  | [_, _], _, h => exact (show False from h).elim
  | _ :: _ :: _ :: _ :: _, _, h => exact (show False from h).elim
theorem int_dr {K : PySem.W.Frag} {H : Hp} {d : D} {v : V} {k : Int → Prop} (r : DR K H d v) (h : intD d k) : ∃ i, d = .int i ∧ v = .int i ∧ k i := by
  cases r with
  | int => exact ⟨_, rfl, rfl, h⟩
  | _ => exact (show False from h).elim
def iRng1' (t : TA') : TI' := fun σ L R => t σ L fun ds L1 => one ds fun d => intD d fun j => rgOk 0 j ∧ R (rgD 0 j) (fun _ => True) L1
def iRng2' (t : TA') : TI' := fun σ L R => t σ L fun ds L1 => two ds fun d e => intD d fun i => intD e fun j => rgOk i j ∧ R (rgD i j) (fun _ => True) L1
variable {a b c : Expr} {tA : TA'}
theorem pi_range1' {tg : Expr} {p : Pos} (hg : Gl X "range") (hm : X.mg "range" = none) (ha : PA' X [a] tA) (hs : starEach [a] X.env = [(false, eval a X.env)] := by rfl) : PI' X tg (.Call (.Name "range" p) [a] [] pos) (iRng1' tA) :=
  lI (pi_range1 hg hm ha hs) fun σ H R ⟨σd, L, R', hs, hl, ht, k⟩ => ⟨σd, L, _, hs, hl, ht, fun ds L1 vs H1 h1 t1 r1 l1 => by
    obtain ⟨d, v, rfl, rfl, rd, q⟩ := one_dr r1 h1
    obtain ⟨j, rfl, rfl, ⟨_, _, z1, z2⟩, q⟩ := int_dr rd q
    refine ⟨j, rfl, z1, z2, ?_⟩
    have z := k _ _ _ (Itr 0 (j - 0).toNat) _ q itr_range t1 l1
    rw [Int.sub_zero] at z
    exact z⟩
theorem pi_range2' {tg : Expr} {p : Pos} (hg : Gl X "range") (hm : X.mg "range" = none) (ha : PA' X [a, b] tA) (hs : starEach [a, b] X.env = [(false, eval a X.env), (false, eval b X.env)] := by rfl) (hs2 : starEach [b] X.env = [(false, eval b X.env)] := by rfl) :
    PI' X tg (.Call (.Name "range" p) [a, b] [] pos) (iRng2' tA) :=
  lI (pi_range2 hg hm ha hs hs2) fun σ H R ⟨σd, L, R', hs, hl, ht, k⟩ => ⟨σd, L, _, hs, hl, ht, fun ds L1 vs H1 h1 t1 r1 l1 => by
    obtain ⟨d, e, v, u, rfl, rfl, rd, re, q⟩ := two_dr r1 h1
    obtain ⟨i, rfl, rfl, q⟩ := int_dr rd q
    obtain ⟨j, rfl, rfl, z, q⟩ := int_dr re q
    exact ⟨i, j, rfl, z, k _ _ _ _ _ q itr_range t1 l1⟩⟩
/-- i, i - 1, .. above j -/
def rgDn (lo hi : Int) : List D := (List.range (lo - hi).toNat).map fun i => .int (lo - (i : Nat))
theorem rgDn_length (lo hi : Int) : (rgDn lo hi).length = (lo - hi).toNat := by unfold rgDn; rw [List.length_map, List.length_range]
theorem rgDn_get {lo hi : Int} {i : Nat} {d : D} (h : (rgDn lo hi)[i]? = some d) : i < (lo - hi).toNat ∧ d = .int (lo - i) := by
  unfold rgDn at h
  rw [List.getElem?_map] at h
  cases e : (List.range (lo - hi).toNat)[i]? with
  | none => rw [e] at h; cases h
  | some j =>
    rw [e] at h
    obtain ⟨h1, h2⟩ := List.getElem?_eq_some_iff.mp e
    rw [List.getElem_range] at h2
    rw [List.length_range] at h1
    subst h2
    exact ⟨h1, (Option.some.inj h).symm⟩
theorem itr_rangeDn {K : PySem.W.Frag} {H0 : Hp} {lo hi : Int} : ItR K H0 (rgDn lo hi) (fun _ => True) (Itc lo (-1) (lo - hi).toNat) where
  go := fun i L H _ l st hi => by rw [rgDn_length] at hi; exact hi
  yld := fun i L H x H' d _ l st hd hy => by
    obtain ⟨e1, e2⟩ := hy
    subst e1 e2
    rw [(rgDn_get hd).2]
    rw [show lo + (i : Int) * -1 = lo - i by omega]
    exact ⟨.refl, .int, l⟩
  stop := fun L H _ l st => by rw [rgDn_length]; exact Nat.le_refl _
/-- range(i, j, -1) -/
def iRngDn' (t : TA') : TI' := fun σ L R => t σ L fun ds L1 => three ds fun d e f => intD d fun i => intD e fun j => intD f fun c => c = -1 ∧ rgOk i j ∧ R (rgDn i j) (fun _ => True) L1
theorem pi_rangeDn' {tg : Expr} {p : Pos} (hg : Gl X "range") (hm : X.mg "range" = none) (ha : PA' X [a, b, c] tA)
    (hs : starEach [a, b, c] X.env = (false, eval a X.env) :: starEach [b, c] X.env := by rfl) (hpl : (backTo pos (starEach [b, c] X.env)).any (·.1) = false := by rfl) : PI' X tg (.Call (.Name "range" p) [a, b, c] [] pos) (iRngDn' tA) :=
  lI (pi_range3 hg hm ha hs hpl) fun σ H R ⟨σd, L, R', hs, hl, ht, k⟩ => ⟨σd, L, _, hs, hl, ht, fun ds L1 vs H1 h1 t1 r1 l1 => by
    obtain ⟨d, e, f, v, u, w, rfl, rfl, rd, re, rf, q⟩ := three_dr r1 h1
    obtain ⟨i, rfl, rfl, q⟩ := int_dr rd q
    obtain ⟨j, rfl, rfl, q⟩ := int_dr re q
    obtain ⟨c, rfl, rfl, rfl, ⟨z1, z2, z3, z4⟩, q⟩ := int_dr rf q
    exact ⟨i, j, -1, _, rfl, RgC.neg z1 z2 z3 z4, k _ _ _ _ _ q itr_rangeDn t1 l1⟩⟩
/-- enumerate(list) -/
def enumD (ds : List D) : List D := (List.range ds.length).map fun i => .tup [.int (i : Nat), ds.getD i .non]
theorem enumD_length (ds : List D) : (enumD ds).length = ds.length := by unfold enumD; rw [List.length_map, List.length_range]
theorem enumD_get {ds : List D} {i : Nat} {d : D} (h : (enumD ds)[i]? = some d) : ∃ e, ds[i]? = some e ∧ d = .tup [.int (i : Nat), e] := by
  have hl : i < ds.length := by
    have := (List.getElem?_eq_some_iff.mp h).1
    rw [enumD_length] at this
    exact this
  unfold enumD at h
  rw [List.getElem?_map, List.getElem?_range hl] at h
  refine ⟨ds[i], List.getElem?_eq_getElem hl, ?_⟩
  rw [← Option.some.inj h]
  simp [List.getD, List.getElem?_eq_getElem hl]
theorem itr_enum {K : PySem.W.Frag} {H0 : Hp} {a : Addr} {ds : List D} : ItR K H0 (enumD ds) (fun L => HasL L a ds) (Ite K a) where
  go := fun i L H _ l st hi => by
    rw [enumD_length] at hi
    obtain ⟨vs, e, r⟩ := l.seq st
    have : i < vs.length := by rw [← r.length]; exact hi
    exact ⟨vs, vs[i], e, List.getElem?_eq_getElem this⟩
  yld := fun i L H x H' d _ l st hd hy => by
    obtain ⟨vs, e, r⟩ := l.seq st
    obtain ⟨T, y, rfl, hT, rfl, hy⟩ := hy
    obtain ⟨de, h1, rfl⟩ := enumD_get hd
    obtain ⟨v, hv, rv⟩ := r.get h1
    have e2 : y = v := Option.some.inj ((hy vs e).symm.trans hv)
    subst e2
    exact ⟨TK.new hT, dr_newt hT (.cons .int (.cons rv .nil)), l.mono_new hT⟩
  stop := fun L H _ l st => by
    obtain ⟨vs, e, r⟩ := l.seq st
    exact ⟨vs, e, by rw [enumD_length, r.length]; exact Nat.le_refl _⟩
def iEnum' (t : TA') : TI' := fun σ L R => t σ L fun ds L1 => one ds fun d => match d with
  | .ref a => ∃ xs, HasL L1 a xs ∧ R (enumD xs) (fun L => HasL L a xs) L1
  | _ => False
theorem pi_enum' {p tpos : Pos} {elts : List Expr} {kk : Nat} (hg : Gl X "enumerate") (hm : X.mg "enumerate" = none) (ha : PA' X [e] tA) (hs : starEach [e] X.env = [(false, eval e X.env)] := by rfl) :
    PI' X (.Tuple elts kk tpos) (.Call (.Name "enumerate" p) [e] [] pos) (iEnum' tA) :=
  lI (pi_enum hg hm ha hs) fun σ H R ⟨σd, L, R', hs, hl, ht, k⟩ => ⟨σd, L, _, hs, hl, ht, fun ds L1 vs H1 h1 t1 r1 l1 => by
    obtain ⟨d, v, rfl, rfl, rd, q⟩ := one_dr r1 h1
    cases rd with
    | ref =>
      obtain ⟨xs, hh, q⟩ := (show ∃ xs, _ from q)
      obtain ⟨us, e, r⟩ := l1.seq hh
      exact ⟨_, us, rfl, e, k _ _ _ _ _ q itr_enum t1 l1⟩
    | _ => exact (show False from q).elim⟩
/-- zip(list, list) -/
def zipD (xs ys : List D) : List D := (xs.zip ys).map fun p => .tup [p.1, p.2]
theorem itr_zip {K : PySem.W.Frag} {H0 : Hp} {a b : Addr} {xs ys : List D} : ItR K H0 (zipD xs ys) (fun L => HasL L a xs ∧ HasL L b ys) (Itz K a b) where
  go := fun i L H _ l st hi => by
    unfold zipD at hi
    rw [List.length_map, List.length_zip] at hi
    obtain ⟨vs, e, r⟩ := l.seq st.1
    obtain ⟨us, e2, r2⟩ := l.seq st.2
    have h1 : i < vs.length := by rw [← r.length]; omega
    have h2 : i < us.length := by rw [← r2.length]; omega
    exact ⟨vs, us, vs[i], us[i], e, e2, List.getElem?_eq_getElem h1, List.getElem?_eq_getElem h2⟩
  yld := fun i L H x H' d _ l st hd hy => by
    obtain ⟨vs, e, r⟩ := l.seq st.1
    obtain ⟨us, e2, r2⟩ := l.seq st.2
    obtain ⟨T, y, z, rfl, hT, rfl, hy, hz⟩ := hy
    unfold zipD at hd
    rw [List.getElem?_map] at hd
    cases eq : (xs.zip ys)[i]? with
    | none => rw [eq] at hd; cases hd
    | some pq =>
      rw [eq] at hd
      obtain ⟨p1, p2⟩ := pq
      obtain ⟨g1, g2⟩ := List.getElem?_zip_eq_some.mp eq
      obtain ⟨v, hv, rv⟩ := r.get g1
      obtain ⟨u, hu, ru⟩ := r2.get g2
      have e3 : y = v := Option.some.inj ((hy vs e).symm.trans hv)
      have e4 : z = u := Option.some.inj ((hz us e2).symm.trans hu)
      subst e3 e4
      rw [← Option.some.inj hd]
      exact ⟨TK.new hT, dr_newt hT (.cons rv (.cons ru .nil)), l.mono_new hT⟩
  stop := fun L H _ l st => by
    obtain ⟨vs, e, r⟩ := l.seq st.1
    obtain ⟨us, e2, r2⟩ := l.seq st.2
    refine ⟨vs, us, e, e2, ?_⟩
    unfold zipD
    rw [List.length_map, List.length_zip, r.length, r2.length]
    omega
def iZip' (t : TA') : TI' := fun σ L R => t σ L fun ds L1 => two ds fun d e => match d, e with
  | .ref a, .ref b => ∃ xs, HasL L1 a xs ∧ ∃ ys, HasL L1 b ys ∧ R (zipD xs ys) (fun L => HasL L a xs ∧ HasL L b ys) L1
  | _, _ => False
theorem pi_zip' {e2 : Expr} {p tpos : Pos} {elts : List Expr} {kk : Nat} (hg : Gl X "zip") (hm : X.mg "zip" = none) (ha : PA' X [e, e2] tA)
    (hs : starEach [e, e2] X.env = (false, eval e X.env) :: starEach [e2] X.env := by rfl) (hpl : (backTo pos (starEach [e2] X.env)).any (·.1) = false := by rfl) :
    PI' X (.Tuple elts kk tpos) (.Call (.Name "zip" p) [e, e2] [] pos) (iZip' tA) :=
  lI (pi_zip hg hm ha hs hpl) fun σ H R ⟨σd, L, R', hs, hl, ht, k⟩ => ⟨σd, L, _, hs, hl, ht, fun ds L1 vs H1 h1 t1 r1 l1 => by
    obtain ⟨d, d2, v, v2, rfl, rfl, rd, rd2, q⟩ := two_dr r1 h1
    cases rd with
    | ref =>
      cases rd2 with
      | ref =>
        obtain ⟨xs, hh, ys, hh2, q⟩ := (show ∃ xs, _ from q)
        obtain ⟨us, e, r⟩ := l1.seq hh
        obtain ⟨ws, e3, r3⟩ := l1.seq hh2
        exact ⟨_, _, us, ws, rfl, e, e3, k _ _ _ _ _ q itr_zip t1 l1⟩
      | _ => exact (show False from q).elim
    | _ => exact (show False from q).elim⟩
end
end DL

namespace DL
open PySem PySem.Spec PyProof.Rows L2
/-! ### contracts -/
abbrev Ct := List D → LL → DK → Prop
def liftC (K : PySem.W.Frag) (c : Ct) : Sp := fun vs H Q _ => ∃ ds L Φ, DRs K H ds vs ∧ HL K H L ∧ c ds L Φ ∧ Kont K H Φ Q
/-- a def called by n values written, dd filling up -/
structure Fnd (P : Program) (w : World) (K : PySem.W.Frag) (mg : Str → Option Value) (base : Heap) (x : Str) (n : Nat) (dd : List D) (c : Ct) (k : Nat) : Prop where
  ex : ∃ f fd ps ds dvs, mg x = some (.ref f) ∧ PySem.W.keepIn K (.ref f) = true ∧ Binds K fd ps ds ∧ Vals dvs ds ∧ (∀ H, DRs K H dd dvs) ∧ FnOk P w K mg base CX0 k f fd ps (liftC K c)
/-- a method of the class at C -/
structure Mtd (P : Program) (w : World) (K : PySem.W.Frag) (mg : Str → Option Value) (base : Heap) (C : Addr) (m : Str) (dd : List D) (c : Ct) (k : Nat) : Prop where
  cl : Cls K C
  nf : ∀ i, i < fnames.length → fname i ≠ m
  ex : ∃ f fd ps ds dvs, Meth K C m f ∧ Binds K fd ps ds ∧ Vals dvs ds ∧ (∀ H, DRs K H dd dvs) ∧ FnOk P w K mg base CX0 k f fd ps (liftC K c)
/-- a class made by its __init__ -/
structure Mkd (P : Program) (w : World) (K : PySem.W.Frag) (mg : Str → Option Value) (base : Heap) (x : Str) (C : Addr) (dd : List D) (c : Ct) (k : Nat) : Prop where
  ex : ∃ f fd ps ds dvs, Mk K C f ∧ mg x = some (.ref C) ∧ Binds K fd ps ds ∧ Vals dvs ds ∧ (∀ H, DRs K H dd dvs) ∧ FnOk P w K mg base CX0 k f fd ps (liftC K c)
/-- called with keywords: g puts the positional and the keywords' values (and defaults) in the parameters' order -/
structure Fnk (P : Program) (w : World) (K : PySem.W.Frag) (mg : Str → Option Value) (base : Heap) (x : Str) (n : Nat) (ks : List Str) (g : List D → List D → List D) (c : Ct) (k : Nat) : Prop where
  ex : ∃ f fd ps gU gV, mg x = some (.ref f) ∧ PySem.W.keepIn K (.ref f) = true ∧ KBn K fd ps n ks gU gV ∧ (∀ H ds es vs us, DRs K H ds vs → DRs K H es us → ds.length = n → es.length = ks.length → DRs K H (g ds es) (gV vs us)) ∧ FnOk P w K mg base CX0 k f fd ps (liftC K c)
section
variable {X : Cx} {pos : Pos} {e o : Expr} {es : List Expr} {te ta tb : TE'} {t : TA'} {x : Str} {c : Ct} {k n : Nat} {dd : List D}
def tCall' (c : Ct) (dd : List D) (t : TA') : TE' := fun σ L Φ => t σ L fun ds L1 => c (ds ++ dd) L1 Φ
theorem DRs.app {K : PySem.W.Frag} {H : Hp} {ds es : List D} {vs us : List V} (a : DRs K H ds vs) (b : DRs K H es us) : DRs K H (ds ++ es) (vs ++ us) := a.append b
theorem lift_call {dvs : List V} {σ : L2.St} {H : Hp} {Q : VK} (hdd : ∀ H, DRs X.K H dd dvs) (h : liftE X.K (tCall' c dd t) σ H Q) : tCall (liftC X.K c) dvs E0 (liftA X.K t) σ H Q := by
  obtain ⟨σd, L, Φ, hs, hl, ht, k⟩ := h
  exact ⟨σd, L, _, hs, hl, ht, fun ds L1 vs H1 h1 t1 r1 l1 => ⟨_, L1, Φ, r1.append (hdd H1), l1, h1, k.mono t1⟩⟩
theorem pe_call' {p : Pos} (F : Fnd X.prog X.w X.K X.mg X.base x n dd c k) (hr : Room k X.A) (hg : Gl X x) (ha : PA' X (e :: es) t) (hd : (x == ("__debug__" : Str)) = false := by decide)
    (he : starEach (e :: es) X.env = (false, eval e X.env) :: starEach es X.env := by rfl) (hpl : (backTo pos (starEach es X.env)).any (·.1) = false := by rfl) : PE' X (.Call (.Name x p) (e :: es) [] pos) (tCall' c dd t) := by
  obtain ⟨f, fd, ps, ds, dvs, hm, hk, hb, hv, hdd, F⟩ := F.ex
  exact lE (pe_call F hr hg hm hk hb hv pass0 ha (hdb := hd) (he := he) (hpl := hpl)) fun σ H Q h => lift_call hdd h
def tCall0' (c : Ct) (dd : List D) : TE' := fun σ L Φ => c dd L Φ
theorem pe_call0' {p : Pos} (F : Fnd X.prog X.w X.K X.mg X.base x n dd c k) (hr : Room k X.A) (hg : Gl X x) (hd : (x == ("__debug__" : Str)) = false := by decide) : PE' X (.Call (.Name x p) [] [] pos) (tCall0' c dd) := by
  obtain ⟨f, fd, ps, ds, dvs, hm, hk, hb, hv, hdd, F⟩ := F.ex
  exact lE (pe_call0 F hr hg hm hk hb hv pass0 (hdb := hd)) fun σ H Q ⟨σd, L, Φ, hs, hl, ht, k⟩ => ⟨dd, L, Φ, hdd H, hl, ht, k⟩
def tMeth' (C : Addr) (c : Ct) (dd : List D) (to : TE') (t : TA') : TE' := fun σ L Φ => to σ L fun d L1 => match d with
  | .ref a => ∃ fs, Has L1 a (.ins C fs) ∧ t σ L1 fun ds L2 => c (.ref a :: (ds ++ dd)) L2 Φ
  | _ => False
theorem pe_meth' {C : Addr} {m : Str} {apos : Pos} {pl : Sem Bool} (F : Mtd X.prog X.w X.K X.mg X.base C m dd c k) (hr : Room k X.A) (he : PE' X o te) (ha : PA' X (e :: es) t)
    (hst : starEach (e :: es) X.env = (false, eval e X.env) :: starEach es X.env := by rfl) (hpl : (backTo pos (starEach es X.env)).any (·.1) = false := by rfl)
    (ht : eval (.Call (.Attribute o m apos) (e :: es) [] pos) X.env = (do
      let ov ← eval o X.env
      standAt apos.atName
      let (f, first) ← holding [ov] (getMethod ov m pl)
      callWith pos f first (backTo pos (starEach (e :: es) X.env)) (backToKw pos (keywordEach [] X.env))) := by rfl) : PE' X (.Call (.Attribute o m apos) (e :: es) [] pos) (tMeth' C c dd te t) := by
  obtain ⟨cl, nf, f, fd, ps, ds, dvs, hm, hb, hv, hdd, F⟩ := F
  exact lE (pe_meth he cl hm F hr hb hv pass0 ha hst hpl ht) fun σ H Q ⟨σd, L, Φ, hs, hl, ht, k⟩ => ⟨σd, L, _, hs, hl, ht, fun d L1 v H1 h1 t1 r1 l1 => by
    cases r1 with
    | ref =>
      obtain ⟨fs, hh, q⟩ := (show ∃ fs, _ from h1)
      obtain ⟨dx, gs, e1, r⟩ := l1.has hh
      exact ⟨_, dx, gs, rfl, e1, r.none_of nf, σd, L1, _, hs.mono t1, l1, q, fun ds L2 vs H2 h2 t2 r2 l2 => ⟨_, L2, Φ, .cons .ref (r2.append (hdd H2)), l2, h2, k.mono (t1.trans t2)⟩⟩
    | _ => exact (show False from h1).elim⟩
def tMeth0' (C : Addr) (c : Ct) (dd : List D) (to : TE') : TE' := fun σ L Φ => to σ L fun d L1 => match d with
  | .ref a => ∃ fs, Has L1 a (.ins C fs) ∧ c (.ref a :: dd) L1 Φ
  | _ => False
theorem pe_meth0' {C : Addr} {m : Str} {apos : Pos} {pl : Sem Bool} (F : Mtd X.prog X.w X.K X.mg X.base C m dd c k) (hr : Room k X.A) (he : PE' X o te)
    (ht : eval (.Call (.Attribute o m apos) [] [] pos) X.env = (do
      let ov ← eval o X.env
      standAt apos.atName
      let (f, first) ← holding [ov] (getMethod ov m pl)
      callWith pos f first (backTo pos (starEach [] X.env)) (backToKw pos (keywordEach [] X.env))) := by rfl) : PE' X (.Call (.Attribute o m apos) [] [] pos) (tMeth0' C c dd te) := by
  obtain ⟨cl, nf, f, fd, ps, ds, dvs, hm, hb, hv, hdd, F⟩ := F
  exact lE (pe_meth0 he cl hm F hr hb hv pass0 ht) fun σ H Q ⟨σd, L, Φ, hs, hl, ht, k⟩ => ⟨σd, L, _, hs, hl, ht, fun d L1 v H1 h1 t1 r1 l1 => by
    cases r1 with
    | ref =>
      obtain ⟨fs, hh, q⟩ := (show ∃ fs, _ from h1)
      obtain ⟨dx, gs, e1, r⟩ := l1.has hh
      exact ⟨_, dx, gs, rfl, e1, r.none_of nf, _, L1, Φ, .cons .ref (hdd H1), l1, q, k.mono t1⟩
    | _ => exact (show False from h1).elim⟩
def tMake' (C : Addr) (c : Ct) (dd : List D) (t : TA') : TE' := fun σ L Φ => t σ L fun ds L1 => ∀ p, c (.ref p :: (ds ++ dd)) ((p, .ins C []) :: L1) fun _ L2 => Φ (.ref p) L2
/-- what __init__ hands back is None: the contract's continuation is asked of it -/
def NonOnly (c : Ct) : Prop := ∀ ds L Φ, c ds L Φ → c ds L fun d L' => d = .non ∧ Φ d L'
theorem new_ins {K : PySem.W.Frag} {H : Hp} {L : LL} {p dx C : Addr} (l : HL K H L) (hp : H p = none) (hd : H dx = none) (hne : dx ≠ p) :
    TK K H (upd (upd H dx (.own p)) p (.ins C dx [])) ∧ HL K (upd (upd H dx (.own p)) p (.ins C dx [])) ((p, .ins C []) :: L) := by
  have h1 : (upd H dx (.own p)) p = none := by rw [upd_ne (Ne.symm hne)]; exact hp
  exact ⟨(TK.new hd).trans (TK.new h1), (l.mono_new hd).new h1 ⟨dx, [], upd_same, .nil⟩⟩
theorem pe_make' {C : Addr} {p : Pos} (F : Mkd X.prog X.w X.K X.mg X.base x C dd c k) (nn : NonOnly c) (hr : Room (k + 1) X.A) (hg : Gl X x) (ha : PA' X (e :: es) t) (hd : (x == ("__debug__" : Str)) = false := by decide)
    (he : starEach (e :: es) X.env = (false, eval e X.env) :: starEach es X.env := by rfl) (hpl : (backTo pos (starEach es X.env)).any (·.1) = false := by rfl) : PE' X (.Call (.Name x p) (e :: es) [] pos) (tMake' C c dd t) := by
  obtain ⟨f, fd, ps, ds, dvs, M, hm, hb, hv, hdd, F⟩ := F.ex
  exact lE (pe_make M F hr hg hm hb hv pass0 ha (hdb := hd) (he := he) (hpl := hpl)) fun σ H Q ⟨σd, L, Φ, hs, hl, ht, k⟩ => ⟨σd, L, _, hs, hl, ht, fun ds L1 vs H1 h1 t1 r1 l1 q dx hq hdx hne => by
    obtain ⟨t2, l2⟩ := new_ins (C := C) l1 hq hdx hne
    exact ⟨_, _, _, .cons .ref ((r1.append (hdd H1)).mono t2), l2, nn _ _ _ (h1 q), fun d L3 v H3 h3 t3 r3 l3 => by
      obtain ⟨rfl, h3⟩ := h3
      cases r3
      exact ⟨rfl, k _ _ _ _ h3 ((t1.trans t2).trans t3) .ref l3⟩⟩⟩
def tMake0' (C : Addr) (c : Ct) (dd : List D) : TE' := fun σ L Φ => ∀ p, c (.ref p :: dd) ((p, .ins C []) :: L) fun _ L2 => Φ (.ref p) L2
theorem pe_make0' {C : Addr} {p : Pos} (F : Mkd X.prog X.w X.K X.mg X.base x C dd c k) (nn : NonOnly c) (hr : Room (k + 1) X.A) (hg : Gl X x) (hd : (x == ("__debug__" : Str)) = false := by decide) : PE' X (.Call (.Name x p) [] [] pos) (tMake0' C c dd) := by
  obtain ⟨f, fd, ps, ds, dvs, M, hm, hb, hv, hdd, F⟩ := F.ex
  exact lE (pe_make0 M F hr hg hm hb hv pass0 (hdb := hd)) fun σ H Q ⟨σd, L, Φ, hs, hl, ht, k⟩ q dx hq hdx hne => by
    obtain ⟨t2, l2⟩ := new_ins (C := C) hl hq hdx hne
    exact ⟨_, _, _, .cons .ref ((hdd H).mono t2), l2, nn _ _ _ (ht q), fun d L3 v H3 h3 t3 r3 l3 => by
      obtain ⟨rfl, h3⟩ := h3
      cases r3
      exact ⟨rfl, k _ _ _ _ h3 (t2.trans t3) .ref l3⟩⟩
def PK' (X : Cx) (kws : List Keyword) (t : TA') : Prop := PK X kws (liftA X.K t)
theorem pk_nil' : PK' X [] tNil' := ⟨fun pos pins s σ H Q I ⟨σd, L, Φ, hs, hl, ht, k⟩ => pk_nil.run pos pins s σ H Q I (k _ _ _ _ ht .refl .nil hl)⟩
theorem pk_cons' {kws : List Keyword} {nm : Option Str} {kpos : Pos} (h : PE' X e te) (h2 : PK' X kws t) : PK' X (⟨nm, e, kpos⟩ :: kws) (tCons' te t) :=
  ⟨fun pos pins s σ H Q I ⟨σd, L, Φ, hs, hl, ht, k⟩ => (pk_cons h h2).run pos pins s σ H Q I ⟨σd, L, _, hs, hl, ht, fun d L1 v H1 h1 t1 r1 l1 => ⟨σd, L1, _, hs.mono t1, l1, h1, fun ds L2 vs H2 h2 t2 r2 l2 => k _ _ _ _ h2 (t1.trans t2) (.cons (r1.mono t2) r2) l2⟩⟩⟩
def tCallK' (n m : Nat) (g : List D → List D → List D) (c : Ct) (t tk : TA') : TE' := fun σ L Φ => t σ L fun ds L1 => tk σ L1 fun es L2 => ds.length = n ∧ es.length = m ∧ c (g ds es) L2 Φ
end
/-! ### the proof of a def -/
def startD (n : Nat) (ds : List D) : Sl := ds.map some ++ List.replicate (n - ds.length) none
theorem SR.nones {K : PySem.W.Frag} {H : Hp} : ∀ n : Nat, SR K H (List.replicate n none) (List.replicate n none)
  | 0 => .nil
  | n + 1 => .no (SR.nones n)
theorem SR.start {K : PySem.W.Frag} {H : Hp} {m : List (Option D)} {m' : L2.St} (t : SR K H m m') : ∀ {ds : List D} {vs : List V}, DRs K H ds vs → SR K H (ds.map some ++ m) (vs.map some ++ m')
  | _, _, .nil => t
  | _, _, .cons a r => .yes a (SR.start t r)
theorem sr_start {K : PySem.W.Frag} {H : Hp} {N : List Str} {ds : List D} {vs : List V} (r : DRs K H ds vs) : SR K H (startD N.length ds) (L2.start N vs) := by
  unfold startD L2.start
  rw [r.length]
  exact SR.start (SR.nones _) r
/-- the ends of a def's body -/
inductive Ret (L : LL) (k : LL → Prop) : Prop
  | mk (L2 : LL) : Cov L L2 → k L2 → Ret L k
def endD (Φ : DK) : EndsD := { nx := fun _ L => Ret L (Φ .non), rt := fun d L => Ret L (Φ d) }
section
variable {P : Program} {w : World} {K : PySem.W.Frag} {mg : Str → Option Value} {base : Heap} {x qual : Str} {params : Arguments} {body : List Stmt} {scope : Scope} {dvs : List V} {kws : List (Str × V)} {f : Addr} {fd : FuncData} {ps N : List Str} {k : Nat} {c : Ct} {t : TS'}
/-- what a def's body runs in -/
abbrev BX (P : Program) (w : World) (K : PySem.W.Frag) (mg : Str → Option Value) (base : Heap) (N : List Str) (qual : Str) (scope : Scope) (f : Addr) (cdv : Value) (A : Around) (outer : List Env) (s : Shared) (H : Hp) (E : XK) : Cx := (cxOf CX0 P w K mg base N qual scope f cdv A outer s H E).nox
theorem fnOkD (F : FunD K x qual params body scope dvs kws f fd) (S : FnScope N ps scope) (len : ∀ ds L Φ, c ds L Φ → ds.length = ps.length)
    (der : ∀ (cdv : Value) (A : Around) (outer : List Env) (s : Shared) (H : Hp) (E : XK), Room k (A.deeper (envOfC qual scope s.heap.objs.size f cdv)) → PSs' (BX P w K mg base N qual scope f cdv A outer s H E) body t)
    (rd : ∀ ds L Φ, c ds L Φ → t (endD Φ) (startD N.length ds) L) : FnOk P w K mg base CX0 (k + 1) f fd ps (liftC K c) := by
  refine F.ok S (fun vs H Q E ⟨ds, L, Φ, r, _, h, _⟩ => by rw [← r.length]; exact len ds L Φ h) fun cdv A outer s H vs Q E hr ⟨ds, L, Φ, r, l, h, q⟩ => ⟨_, PSs.nox (der cdv A outer s H E hr), _, L, endD Φ, sr_start r, l, rd ds L Φ h, ?_, ?_, ?_, ?_⟩
  · rintro σd L2 σ H2 ⟨L3, c3, h3⟩ t2 s2 l2
    exact q _ _ _ _ h3 t2 .non (l2.cov c3)
  · rintro d L2 v H2 ⟨L3, c3, h3⟩ t2 r2 l2
    exact q _ _ _ _ h3 t2 r2 (l2.cov c3)
  · intro _ _ _ _ h
    exact (show False from h).elim
  · intro _ _ _ _ h
    exact (show False from h).elim
end
end DL

namespace DL
open PySem PySem.Spec PyProof.Rows L2
/-! ### built-ins by values -/
abbrev FA := List D → LL → DK → Prop
def CD (K : PySem.W.Frag) (f : FA) (r : List V → Hp → VK → Prop) : Prop := ∀ (ds : List D) (vs : List V) (L : LL) (H : Hp) (Φ : DK) (Q : VK), DRs K H ds vs → HL K H L → f ds L Φ → Kont K H Φ Q → r vs H Q
def tCB' (f : FA) (t : TA') : TE' := fun σ L Φ => t σ L fun ds L1 => f ds L1 Φ
section
variable {X : Cx} {K : PySem.W.Frag} {pos : Pos} {e o : Expr} {es : List Expr} {te to ta tb : TE'} {t : TA'} {x : Str} {f : FA} {r : List V → Hp → VK → Prop} {id T : String}
theorem lift_cb (cd : CD X.K f r) {σ : L2.St} {H : Hp} {Q : VK} (h : liftE X.K (tCB' f t) σ H Q) : tCB r (liftA X.K t) σ H Q := by
  obtain ⟨σd, L, Φ, hs, hl, ht, k⟩ := h
  exact ⟨σd, L, _, hs, hl, ht, fun ds L1 vs H1 h1 t1 r1 l1 => cd _ _ _ _ _ _ r1 l1 h1 (k.mono t1)⟩
theorem pe_callB' {p : Pos} (cd : CD X.K f r) (hc : CallR X (.builtin id) r) (hg : Gl X x) (hm : X.mg x = none) (hv : bootBuiltins x = some (.builtin id)) (ha : PA' X (e :: es) t) (hn : x ≠ "__name__" := by decide) (hdb : (x == ("__debug__" : Str)) = false := by decide)
    (he : starEach (e :: es) X.env = (false, eval e X.env) :: starEach es X.env := by rfl) (hpl : (backTo pos (starEach es X.env)).any (·.1) = false := by rfl) : PE' X (.Call (.Name x p) (e :: es) [] pos) (tCB' f t) :=
  lE (pe_callB hc hg hm hv ha hn hdb he hpl) fun _ _ _ h => lift_cb cd h
theorem pe_callTy' {p : Pos} (cd : CD X.K f r) (hc : CallR X (.type T) r) (hg : Gl X x) (hm : X.mg x = none) (hv : bootBuiltins x = some (.type T)) (ha : PA' X (e :: es) t) (hn : x ≠ "__name__" := by decide) (hdb : (x == ("__debug__" : Str)) = false := by decide)
    (he : starEach (e :: es) X.env = (false, eval e X.env) :: starEach es X.env := by rfl) (hpl : (backTo pos (starEach es X.env)).any (·.1) = false := by rfl) : PE' X (.Call (.Name x p) (e :: es) [] pos) (tCB' f t) :=
  lE (pe_callTy hc hg hm hv ha hn hdb he hpl) fun _ _ _ h => lift_cb cd h
/-- len -/
def lenD (d : D) (L : LL) (k : Nat → Prop) : Prop := match d with
  | .ref a => ∃ ds, HasL L a ds ∧ k ds.length
  | .tup ds => k ds.length
  | .str x => x.length ≤ 1000000 ∧ k x.length
  | _ => False
def fLen : FA := fun ds L Φ => one ds fun d => lenD d L fun n => Φ (.int n) L
theorem cd_len : CD K fLen (fun xs H Q => ∃ x n, xs = [x] ∧ LenV K x H n ∧ Q (.int n) H) := fun ds vs L H Φ Q r l h k => by
  obtain ⟨d, v, rfl, rfl, rd, q⟩ := one_dr r h
  cases rd with
  | ref =>
    obtain ⟨xs, hh, q⟩ := (show ∃ xs, _ from q)
    obtain ⟨us, e, ru⟩ := l.seq hh
    exact ⟨_, us.length, rfl, .inl ⟨us, e, rfl⟩, by rw [← ru.length]; exact k _ _ _ _ q .refl .int l⟩
  | tup s tt => exact ⟨_, _, rfl, .inr ⟨_, s, rfl⟩, by rw [← tt.length]; exact k _ _ _ _ q .refl .int l⟩
  | str =>
    obtain ⟨z, q⟩ := (show _ ∧ _ from q)
    exact ⟨_, _, rfl, ⟨szl z, rfl⟩, k _ _ _ _ q .refl .int l⟩
  | _ => exact (show False from q).elim
/-- list(x), x a list or tuple -/
def fList : FA := fun ds L Φ => one ds fun d => starD d L fun xs => ∀ p, Φ (.ref p) ((p, .lst xs) :: L)
theorem cd_list : CD K fList (fun xs H Q => ∃ p ys, xs = [.ref p] ∧ (SqL K H p ys ∨ SqT K H p ys) ∧ ∀ l, H l = none → Q (.ref l) (upd H l (.lst ys))) := fun ds vs L H Φ Q r l h k => by
  obtain ⟨d, v, rfl, rfl, rd, q⟩ := one_dr r h
  cases rd with
  | ref =>
    obtain ⟨xs, hh, q⟩ := (show ∃ xs, _ from q)
    obtain ⟨us, e, ru⟩ := l.seq hh
    exact ⟨_, us, rfl, .inl e, fun p hp => k _ _ _ _ (q p) (TK.new hp) .ref (l.newl hp ru)⟩
  | tup s tt => exact ⟨_, _, rfl, .inr s, fun p hp => k _ _ _ _ ((show ∀ p, _ from q) p) (TK.new hp) .ref (l.newl hp tt)⟩
  | _ => exact (show False from q).elim
/-- tuple(x) -/
def fTuple : FA := fun ds L Φ => one ds fun d => starD d L fun xs => Φ (.tup xs) L
theorem cd_tuple : CD K fTuple (fun xs H Q => ∃ p ys, xs = [.ref p] ∧ ((SqL K H p ys ∧ ∀ l, H l = none → Q (.ref l) (upd H l (.tup ys))) ∨ (SqT K H p ys ∧ Q (.ref p) H))) := fun ds vs L H Φ Q r l h k => by
  obtain ⟨d, v, rfl, rfl, rd, q⟩ := one_dr r h
  cases rd with
  | ref =>
    obtain ⟨xs, hh, q⟩ := (show ∃ xs, _ from q)
    obtain ⟨us, e, ru⟩ := l.seq hh
    exact ⟨_, us, rfl, .inl ⟨e, fun p hp => k _ _ _ _ q (TK.new hp) (dr_newt hp ru) (l.mono_new hp)⟩⟩
  | tup s tt => exact ⟨_, _, rfl, .inr ⟨s, k _ _ _ _ q .refl (.tup s tt) l⟩⟩
  | _ => exact (show False from q).elim
/-- list(range(a, b)) -/
def tLstRg1' (t : TE') : TE' := fun σ L Φ => t σ L fun d L1 => intD d fun n => (n ≤ 1000000 ∧ -1000000 ≤ n) ∧ ∀ p, Φ (.ref p) ((p, .lst (rgD 0 n)) :: L1)
def tLstRg2' (t u : TE') : TE' := fun σ L Φ => t σ L fun d L1 => intD d fun i => u σ L1 fun d2 L2 => intD d2 fun j => (i ≤ 1000000 ∧ 0 ≤ i ∧ j ≤ 1000000 ∧ -1000000 ≤ j) ∧ ∀ p, Φ (.ref p) ((p, .lst (rgD i j)) :: L2)
theorem drs_rg {H : Hp} (i j : Int) : DRs K H (rgD i j) (rgV i j) := by
  unfold rgD rgV
  generalize List.range (j - i).toNat = l
  induction l with
  | nil => exact .nil
  | cons a r ih => exact .cons .int ih
variable {a b : Expr}
theorem pe_listRg1' {p p2 pos2 : Pos} (hc : X.calm = true) (hg : Gl X "list") (hm : X.mg "list" = none) (hg2 : Gl X "range") (hm2 : X.mg "range" = none) (ha : PE' X a ta)
    (na : starEach [a] X.env = (false, eval a X.env) :: starEach [] X.env := by rfl)
    (na2 : starEach [.Call (.Name "range" p2) [a] [] pos2] X.env = (false, eval (.Call (.Name "range" p2) [a] [] pos2) X.env) :: starEach [] X.env := by rfl) : PE' X (.Call (.Name "list" p) [.Call (.Name "range" p2) [a] [] pos2] [] pos) (tLstRg1' ta) :=
  lE (pe_listRg hc hg hm (prg_1 hg2 hm2 ha na) na2) fun σ H Q ⟨σd, L, Φ, hs, hl, ht, k⟩ => ⟨σd, L, _, hs, hl, ht, fun d L1 v H1 h1 t1 r1 l1 => by
    obtain ⟨n, rfl, rfl, ⟨z1, z2⟩, q⟩ := int_dr r1 h1
    refine ⟨n, rfl, ⟨by omega, by omega, by omega, by omega, by omega⟩, fun p hp => k _ _ _ _ (q p) (t1.trans (TK.new hp)) .ref (l1.newl hp (drs_rg 0 n))⟩⟩
theorem pe_listRg2' {p p2 pos2 : Pos} (hc : X.calm = true) (hg : Gl X "list") (hm : X.mg "list" = none) (hg2 : Gl X "range") (hm2 : X.mg "range" = none) (ha : PE' X a ta) (hb : PE' X b tb)
    (na : starEach [a, b] X.env = (false, eval a X.env) :: starEach [b] X.env := by rfl) (nb : starEach [b] X.env = (false, eval b X.env) :: starEach [] X.env := by rfl)
    (hp : (backTo pos2 (starEach [b] X.env)).any (·.1) = false := by rfl)
    (na2 : starEach [.Call (.Name "range" p2) [a, b] [] pos2] X.env = (false, eval (.Call (.Name "range" p2) [a, b] [] pos2) X.env) :: starEach [] X.env := by rfl) : PE' X (.Call (.Name "list" p) [.Call (.Name "range" p2) [a, b] [] pos2] [] pos) (tLstRg2' ta tb) :=
  lE (pe_listRg hc hg hm (prg_2 hg2 hm2 ha hb na nb hp) na2) fun σ H Q ⟨σd, L, Φ, hs, hl, ht, k⟩ => ⟨σd, L, _, hs, hl, ht, fun d L1 v H1 h1 t1 r1 l1 => by
    obtain ⟨i, rfl, rfl, q⟩ := int_dr r1 h1
    refine ⟨σd, L1, _, hs.mono t1, l1, q, fun d2 L2 v2 H2 h2 t2 r2 l2 => ?_⟩
    obtain ⟨j, rfl, rfl, ⟨z1, z2, z3, z4⟩, q⟩ := int_dr r2 h2
    refine ⟨i, j, rfl, rfl, ⟨by omega, by omega, by omega, by omega, by omega⟩, fun p hp => k _ _ _ _ (q p) ((t1.trans t2).trans (TK.new hp)) .ref (l2.newl hp (drs_rg i j))⟩⟩
/-- sum, max, min of a list of ints; of two ints -/
def intsL (d : D) (L : LL) (k : List Int → Prop) : Prop := match d with
  | .ref a => ∃ ds, HasL L a ds ∧ ∃ ns : List Int, ds = ns.map .int ∧ k ns
  | _ => False
theorem intsL_dr {H : Hp} {d : D} {v : V} {L : LL} {k : List Int → Prop} (r : DR K H d v) (l : HL K H L) (h : intsL d L k) : ∃ a ns, v = .ref a ∧ SqL K H a (ns.map V.int) ∧ k ns := by
  cases r with
  | ref =>
    obtain ⟨ds, hh, ns, rfl, q⟩ := (show ∃ ds, _ from h)
    obtain ⟨us, e, ru⟩ := l.seq hh
    have := ru.ints'
    subst this
    exact ⟨_, ns, rfl, e, q⟩
  | _ => exact (show False from h).elim
def fSum : FA := fun ds L Φ => one ds fun d => intsL d L fun ns => Φ (.int ns.sum) L
theorem cd_sum : CD K fSum (rSum K) := fun ds vs L H Φ Q r l h k => by
  obtain ⟨d, v, rfl, rfl, rd, q⟩ := one_dr r h
  obtain ⟨a, ns, rfl, e, q⟩ := intsL_dr rd l q
  exact ⟨a, ns, rfl, e, k _ _ _ _ q .refl .int l⟩
def fMaxL : FA := fun ds L Φ => one ds fun d => intsL d L fun ns => 0 < ns.length ∧ ∀ m, m ∈ ns → (∀ y, y ∈ ns → y ≤ m) → Φ (.int m) L
theorem cd_maxL : CD K fMaxL (rMax K) := fun ds vs L H Φ Q r l h k => by
  obtain ⟨d, v, rfl, rfl, rd, q⟩ := one_dr r h
  obtain ⟨a, ns, rfl, e, z, q⟩ := intsL_dr rd l q
  exact ⟨a, ns, rfl, e, z, fun m h1 h2 => k _ _ _ _ (q m h1 h2) .refl .int l⟩
def fMinL : FA := fun ds L Φ => one ds fun d => intsL d L fun ns => 0 < ns.length ∧ ∀ m, m ∈ ns → (∀ y, y ∈ ns → m ≤ y) → Φ (.int m) L
theorem cd_minL : CD K fMinL (rMin K) := fun ds vs L H Φ Q r l h k => by
  obtain ⟨d, v, rfl, rfl, rd, q⟩ := one_dr r h
  obtain ⟨a, ns, rfl, e, z, q⟩ := intsL_dr rd l q
  exact ⟨a, ns, rfl, e, z, fun m h1 h2 => k _ _ _ _ (q m h1 h2) .refl .int l⟩
def fMax2 : FA := fun ds L Φ => two ds fun d e => intD d fun i => intD e fun j => Φ (.int (if j > i then j else i)) L
theorem cd_max2 : CD K fMax2 (fun xs H Q => ∃ i j, xs = [.int i, .int j] ∧ Q (.int (if j > i then j else i)) H) := fun ds vs L H Φ Q r l h k => by
  obtain ⟨d, e, v, u, rfl, rfl, rd, re, q⟩ := two_dr r h
  obtain ⟨i, rfl, rfl, q⟩ := int_dr rd q
  obtain ⟨j, rfl, rfl, q⟩ := int_dr re q
  exact ⟨i, j, rfl, k _ _ _ _ q .refl .int l⟩
def fMin2 : FA := fun ds L Φ => two ds fun d e => intD d fun i => intD e fun j => Φ (.int (if j < i then j else i)) L
theorem cd_min2 : CD K fMin2 (fun xs H Q => ∃ i j, xs = [.int i, .int j] ∧ Q (.int (if j < i then j else i)) H) := fun ds vs L H Φ Q r l h k => by
  obtain ⟨d, e, v, u, rfl, rfl, rd, re, q⟩ := two_dr r h
  obtain ⟨i, rfl, rfl, q⟩ := int_dr rd q
  obtain ⟨j, rfl, rfl, q⟩ := int_dr re q
  exact ⟨i, j, rfl, k _ _ _ _ q .refl .int l⟩
def fAbs : FA := fun ds L Φ => one ds fun d => intD d fun i => Φ (.int (if i < 0 then -i else i)) L
theorem cd_abs : CD K fAbs (fun xs H Q => ∃ i, xs = [.int i] ∧ Q (.int (if i < 0 then -i else i)) H) := fun ds vs L H Φ Q r l h k => by
  obtain ⟨d, v, rfl, rfl, rd, q⟩ := one_dr r h
  obtain ⟨i, rfl, rfl, q⟩ := int_dr rd q
  exact ⟨i, rfl, k _ _ _ _ q .refl .int l⟩
def fInt : FA := fun ds L Φ => one ds fun d => match d with
  | .int i => Φ (.int i) L
  | .bl b => Φ (.int (if b then 1 else 0)) L
  | _ => False
theorem cd_int : CD K fInt (fun xs H Q => (∃ i, xs = [.int i] ∧ Q (.int i) H) ∨ ∃ k, xs = [.bl k] ∧ Q (.int (if k then 1 else 0)) H) := fun ds vs L H Φ Q r l h k => by
  obtain ⟨d, v, rfl, rfl, rd, q⟩ := one_dr r h
  cases rd with
  | int => exact .inl ⟨_, rfl, k _ _ _ _ q .refl .int l⟩
  | bl => exact .inr ⟨_, rfl, k _ _ _ _ q .refl .int l⟩
  | _ => exact (show False from q).elim
/-! isinstance -/
inductive Tn where
  | nn | bl | it | st | tp | ls | dc
def Tn.name : Tn → String
  | .nn => "NoneType" | .bl => "bool" | .it => "int" | .st => "str" | .tp => "tuple" | .ls => "list" | .dc => "dict"
def Tn.is : Tn → Tn → Bool
  | .bl, .bl => true | .bl, .it => true | .it, .it => true | .st, .st => true | .tp, .tp => true | .ls, .ls => true | .dc, .dc => true | .nn, .nn => true | _, _ => false
theorem kit_tn {K : PySem.W.Frag} : ∀ a b : Tn, PySem.W.kitOne K (.type a.name) (.type b.name) = some (a.is b) := fun a b => by
  cases a <;> cases b <;> exact kit_ty (by decide +kernel)
def tyD (d : D) (L : LL) (k : Tn → Prop) : Prop := match d with
  | .non => k .nn
  | .bl _ => k .bl
  | .int _ => k .it
  | .str _ => k .st
  | .tup _ => k .tp
  | .ref a => ∃ o, Has L a o ∧ (match o with
    | .lst _ => k .ls
    | .ro _ => k .ls
    | .dk _ => k .dc
    | .dt _ => k .dc
    | _ => False)
  | .ty _ => False
theorem tyD_x {H : Hp} {d : D} {v : V} {L : LL} {k : Tn → Prop} (r : DR K H d v) (l : HL K H L) (h : tyD d L k) : ∃ t : Tn, TyX K H v (.type t.name) ∧ k t := by
  cases r with
  | non => exact ⟨.nn, .base .non, h⟩
  | bl => exact ⟨.bl, .base (.bl _), h⟩
  | int => exact ⟨.it, .base (.int _), h⟩
  | str => exact ⟨.st, .base (.str _), h⟩
  | tup s _ =>
    refine ⟨.tp, ?_, h⟩
    rcases s with (s | ⟨ob, s⟩) | ⟨ob, its, n, hk, hc, _⟩
    · exact .base (.tup s)
    · exact .fTuple s
    · exact .kTuple hk hc
  | ref =>
    obtain ⟨ob, hh, q⟩ := (show ∃ ob, _ from h)
    cases ob with
    | lst ds =>
      obtain ⟨vs, e, _⟩ := l.has hh
      exact ⟨.ls, .base (.lst e), q⟩
    | ro ds =>
      obtain ⟨vs, e, _⟩ := l.has hh
      rcases e with ⟨ob, e⟩ | ⟨ob, its, n, hk, hc, _⟩
      · exact ⟨.ls, .base (.frz e), q⟩
      · exact ⟨.ls, .kList hk hc, q⟩
    | dk kvs =>
      obtain ⟨gs, e, _⟩ := l.has hh
      exact ⟨.dc, .base (.dK e), q⟩
    | dt kvs =>
      obtain ⟨gs, e, _⟩ := l.has hh
      exact ⟨.dc, .base (.dT e), q⟩
    | ins C fs => exact (show False from q).elim
    | xd fs => exact (show False from q).elim
    | gh P => exact (show False from q).elim
  | ty => exact (show False from h).elim
def tIsi' (c : Tn) (t : TE') : TE' := fun σ L Φ => t σ L fun d L1 => tyD d L1 fun tn => Φ (.bl (tn.is c)) L1
theorem pe_isi' {T : Str} {p pT : Pos} {c : Tn} (hg : Gl X "isinstance") (hm : X.mg "isinstance" = none) (hgT : Gl X T) (hmT : X.mg T = none) (hvT : bootBuiltins T = some (.type c.name)) (ha : PE' X e te) (hnT : T ≠ "__name__" := by decide) (hdT : (T == ("__debug__" : Str)) = false := by decide)
    (he : starEach [e, .Name T pT] X.env = (false, eval e X.env) :: starEach [.Name T pT] X.env := by rfl) (hpl : (backTo pos (starEach [.Name T pT] X.env)).any (·.1) = false := by rfl) : PE' X (.Call (.Name "isinstance" p) [e, .Name T pT] [] pos) (tIsi' c te) :=
  lE (pe_callB call_isi hg hm boot_isinstance (pa_cons (show PE X e (liftE X.K te) from ha) (pa_cons (pe_bltn (v := .ty c.name) hgT hmT hvT rfl hnT hdT) pa_nil) he) (he := he) (hpl := hpl)) fun σ H Q ⟨σd, L, Φ, hs, hl, ht, k⟩ => ⟨σd, L, _, hs, hl, ht, fun d L1 v H1 h1 t1 r1 l1 => by
    obtain ⟨tn, hty, q⟩ := tyD_x r1 l1 h1
    exact ⟨v, _, _, _, tn.is c, rfl, .ty _, hty, kit_tn tn c, k _ _ _ _ q t1 .bl l1⟩⟩
def tIsi2' (c c2 : Tn) (t : TE') : TE' := fun σ L Φ => t σ L fun d L1 => tyD d L1 fun tn => Φ (.bl (tn.is c || tn.is c2)) L1
theorem pe_isi2' {T T2 : Str} {p pT pT2 p3 : Pos} {x1} {c c2 : Tn} (hg : Gl X "isinstance") (hm : X.mg "isinstance" = none) (hgT : Gl X T) (hmT : X.mg T = none) (hvT : bootBuiltins T = some (.type c.name)) (hgT2 : Gl X T2) (hmT2 : X.mg T2 = none) (hvT2 : bootBuiltins T2 = some (.type c2.name)) (ha : PE' X e te)
    (hnT : T ≠ "__name__" := by decide) (hdT : (T == ("__debug__" : Str)) = false := by decide) (hnT2 : T2 ≠ "__name__" := by decide) (hdT2 : (T2 == ("__debug__" : Str)) = false := by decide)
    (he : starEach [e, .Tuple [.Name T pT, .Name T2 pT2] x1 p3] X.env = (false, eval e X.env) :: starEach [.Tuple [.Name T pT, .Name T2 pT2] x1 p3] X.env := by rfl) (hpl : (backTo pos (starEach [.Tuple [.Name T pT, .Name T2 pT2] x1 p3] X.env)).any (·.1) = false := by rfl) :
    PE' X (.Call (.Name "isinstance" p) [e, .Tuple [.Name T pT, .Name T2 pT2] x1 p3] [] pos) (tIsi2' c c2 te) :=
  lE (pe_callB call_isiT hg hm boot_isinstance (pa_cons (show PE X e (liftE X.K te) from ha) (pa_cons (pe_tup (pa_cons (pe_bltn (v := .ty c.name) hgT hmT hvT rfl hnT hdT) (pa_cons (pe_bltn (v := .ty c2.name) hgT2 hmT2 hvT2 rfl hnT2 hdT2) pa_nil))) pa_nil) he) (he := he) (hpl := hpl)) fun σ H Q ⟨σd, L, Φ, hs, hl, ht, k⟩ => ⟨σd, L, _, hs, hl, ht, fun d L1 v H1 h1 t1 r1 l1 => by
    refine ⟨(by show 2 ≤ sizeLine; decide), fun p hp => ?_⟩
    obtain ⟨tn, hty, q⟩ := tyD_x (r1.mono (TK.new hp)) (l1.mono_new hp) h1
    refine ⟨v, p, _, _, [.type c.name, .type c2.name], tn.is c || tn.is c2, rfl, upd_same, .cons (.ty _) (.cons (.ty _) .nil), hty, ?_, k _ _ _ _ q (t1.trans (TK.new hp)) .bl (l1.mono_new hp)⟩
    refine kitAny_cons (kit_tn tn c) (fun hb => ?_) fun hb => by rw [hb]; rfl
    rw [hb]
    exact kitAny_cons (kit_tn tn c2) (fun hb2 => by rw [hb2]; rfl) fun hb2 => by rw [hb2]; rfl⟩
/-! ### methods of lists -/
abbrev FM := D → List D → LL → DK → Prop
def MD (K : PySem.W.Frag) (f : FM) (r : V → List V → Hp → VK → Prop) : Prop := ∀ (d : D) (ds : List D) (x : V) (vs : List V) (L : LL) (H : Hp) (Φ : DK) (Q : VK), DR K H d x → DRs K H ds vs → HL K H L → f d ds L Φ → Kont K H Φ Q → r x vs H Q
/-- the receiver is a list, now -/
def isL (d : D) (L : LL) (k : Prop) : Prop := match d with
  | .ref a => ∃ ds, HasL L a ds ∧ k
  | _ => False
theorem isL_dr {H : Hp} {d : D} {v : V} {L : LL} {k : Prop} (r : DR K H d v) (l : HL K H L) (h : isL d L k) : tyV K "list" v H ∧ k := by
  cases r with
  | ref =>
    obtain ⟨ds, hh, q⟩ := (show ∃ ds, _ from h)
    obtain ⟨us, e, ru⟩ := l.seq hh
    exact ⟨.inl ⟨rfl, us, e⟩, q⟩
  | _ => exact (show False from h).elim
def tLM' (f : FM) (to : TE') (t : TA') : TE' := fun σ L Φ => to σ L fun d L1 => isL d L1 (t σ L1 fun ds L2 => f d ds L2 Φ)
def tLM0' (f : FM) (to : TE') : TE' := fun σ L Φ => to σ L fun d L1 => isL d L1 (f d [] L1 Φ)
variable {fm : FM} {rm : V → List V → Hp → VK → Prop} {name : Str} {apos : Pos}
theorem pe_lm' (md : MD X.K fm rm) (slot : Slot "list" name id) (hty : typeOf (.builtin id) = pure (.type "method_descriptor")) (hm : MtR X id rm) (ho : PE' X o to) (ha : PA' X (e :: es) t)
    (hbase : attributeBase o name X.env (eval o X.env) = eval o X.env := by rfl)
    (hfew : ((backTo pos (starEach (e :: es) X.env)).all (fun x => !x.1) && (backToKw pos (keywordEach [] X.env)).all (fun x => x.1.isSome)
      && decide ((e :: es).length + ([] : List Keyword).length + (if ([] : List Keyword).isEmpty then 0 else 1) < 30)) = true := by rfl)
    (hline : (apos.endLine == pos.line) = true := by rfl) (hs : starEach (e :: es) X.env = (false, eval e X.env) :: starEach es X.env := by rfl) (hplain : (backTo pos (starEach es X.env)).any (·.1) = false := by rfl) :
    PE' X (.Call (.Attribute o name apos) (e :: es) [] pos) (tLM' fm to t) :=
  lE (pe_bm PySem.F.plainAttrs_list slot hty hm ho ha hbase hfew hline hs hplain) fun σ H Q ⟨σd, L, Φ, hs, hl, ht, k⟩ => ⟨σd, L, _, hs, hl, ht, fun d L1 v H1 h1 t1 r1 l1 => by
    obtain ⟨ty, q⟩ := isL_dr r1 l1 h1
    exact ⟨ty, σd, L1, _, hs.mono t1, l1, q, fun ds L2 vs H2 h2 t2 r2 l2 => md _ _ _ _ _ _ _ _ (r1.mono t2) r2 l2 h2 (k.mono (t1.trans t2))⟩⟩
theorem pe_lm0' (md : MD X.K fm rm) (slot : Slot "list" name id) (hty : typeOf (.builtin id) = pure (.type "method_descriptor")) (hm : MtR X id rm) (ho : PE' X o to)
    (hbase : attributeBase o name X.env (eval o X.env) = eval o X.env := by rfl) (hline : (apos.endLine == pos.line) = true := by rfl) : PE' X (.Call (.Attribute o name apos) [] [] pos) (tLM0' fm to) :=
  lE (pe_bm0 PySem.F.plainAttrs_list slot hty hm ho hbase hline) fun σ H Q ⟨σd, L, Φ, hs, hl, ht, k⟩ => ⟨σd, L, _, hs, hl, ht, fun d L1 v H1 h1 t1 r1 l1 => by
    obtain ⟨ty, q⟩ := isL_dr r1 l1 h1
    exact ⟨ty, md _ _ _ _ _ _ _ _ r1 .nil l1 q (k.mono t1)⟩⟩
def fAppend : FM := fun d ds L Φ => match d with
  | .ref l => one ds fun y => ∃ xs L', Chg L l (.lst xs) (.lst (xs ++ [y])) L' ∧ xs.length ≤ 1000000 ∧ Φ .non L'
  | _ => False
theorem md_append : MD K fAppend rAppend := fun d ds x vs L H Φ Q r rs l h k => by
  cases r with
  | ref =>
    obtain ⟨y, v, rfl, rfl, ry, xs, L', c, z, q⟩ := one_dr rs h
    obtain ⟨us, e, ru⟩ := l.lst c.has
    obtain ⟨t2, l2⟩ := l.chgl c e (ru.append (.cons ry .nil))
    exact ⟨_, us, v, rfl, rfl, e, by rw [← ru.length]; exact szl' z, k _ _ _ _ q t2 .non l2⟩
  | _ => exact (show False from h).elim
def fExtend : FM := fun d ds L Φ => match d with
  | .ref l => one ds fun y => match y with
    | .ref b => ∃ zs, Has L b (.lst zs) ∧ ∃ xs L', Chg L l (.lst xs) (.lst (xs ++ zs)) L' ∧ xs.length + zs.length ≤ 1000000 ∧ Φ .non L'
    | _ => False
  | _ => False
theorem md_extend : MD K fExtend rExtend := fun d ds x vs L H Φ Q r rs l h k => by
  cases r with
  | ref =>
    obtain ⟨y, v, rfl, rfl, ry, q⟩ := one_dr rs h
    cases ry with
    | ref =>
      obtain ⟨zs, hb, xs, L', c, z, q⟩ := (show ∃ zs, _ from q)
      obtain ⟨us, e, ru⟩ := l.lst c.has
      obtain ⟨ws, e2, rw⟩ := l.lst hb
      obtain ⟨t2, l2⟩ := l.chgl c e (ru.append rw)
      exact ⟨_, _, us, ws, rfl, rfl, e, e2, by rw [← ru.length, ← rw.length]; exact szl z, k _ _ _ _ q t2 .non l2⟩
    | _ => exact (show False from q).elim
  | _ => exact (show False from h).elim
def fPop : FM := fun d ds L Φ => match d with
  | .ref l => ds = [] ∧ ∃ xs L', Chg L l (.lst xs) (.lst xs.dropLast) L' ∧ ∃ y, xs[xs.length - 1]? = some y ∧ Φ y L'
  | _ => False
theorem DRs.dropLast {H : Hp} : ∀ {ds : List D} {vs : List V}, DRs K H ds vs → DRs K H ds.dropLast vs.dropLast
  | _, _, .nil => .nil
  | _, _, .cons _ .nil => .nil
  | _, _, .cons a (.cons b r) => .cons a (DRs.dropLast (.cons b r))
theorem md_pop : MD K fPop rPop := fun d ds x vs L H Φ Q r rs l h k => by
  cases r with
  | ref =>
    obtain ⟨rfl, xs, L', c, y, hy, q⟩ := (show ds = [] ∧ _ from h)
    cases rs
    obtain ⟨us, e, ru⟩ := l.lst c.has
    obtain ⟨v, hv, rv⟩ := ru.get hy
    obtain ⟨t2, l2⟩ := l.chgl c e ru.dropLast
    exact ⟨_, us, v, rfl, rfl, e, by rw [← ru.length]; exact hv, k _ _ _ _ q t2 (rv.mono t2) l2⟩
  | _ => exact (show False from h).elim
def fReverse : FM := fun d ds L Φ => match d with
  | .ref l => ∃ xs L', Chg L l (.lst xs) (.lst xs.reverse) L' ∧ ds = [] ∧ Φ .non L'
  | _ => False
theorem md_reverse : MD K fReverse rReverse := fun d ds x vs L H Φ Q r rs l h k => by
  cases r with
  | ref =>
    obtain ⟨xs, L', c, rfl, q⟩ := (show ∃ xs, _ from h)
    cases rs
    obtain ⟨us, e, ru⟩ := l.lst c.has
    obtain ⟨t2, l2⟩ := l.chgl c e ru.reverse
    exact ⟨_, us, rfl, rfl, e, k _ _ _ _ q t2 .non l2⟩
  | _ => exact (show False from h).elim
end
end DL

namespace DL
open PySem PySem.Spec PyProof.Rows L2
/-! ### list comprehensions -/
def wipeD (σ : Sl) : List Nat → Sl
  | [] => σ
  | v :: vs => (wipeD σ vs).set v none
theorem SR.clear {K : PySem.W.Frag} {H : Hp} : ∀ {σd : Sl} {σ : L2.St} (i : Nat) (x : Option V), SR K H σd σ → SR K H (σd.set i none) (σ.set i x)
  | _, _, _, _, .nil => .nil
  | _, _, 0, _, .no q => .no q
  | _, _, 0, _, .yes _ q => .no q
  | _, _, i + 1, x, .no q => .no (SR.clear i x q)
  | _, _, i + 1, x, .yes a q => .yes a (SR.clear i x q)
theorem SR.wipe {K : PySem.W.Frag} {H : Hp} {σd : Sl} {σ : L2.St} (r : SR K H σd σ) : ∀ vs : List Nat, SR K H (wipeD σd vs) (L2.wipe σ vs)
  | [] => r
  | v :: vs => SR.clear v none (SR.wipe r vs)
theorem wipe_set {σ : L2.St} {i : Nat} {x : Option V} : ∀ {vs : List Nat}, i ∈ vs → L2.wipe (σ.set i x) vs = L2.wipe σ vs
  | v :: vs, h => by
    show (L2.wipe (σ.set i x) vs).set v none = (L2.wipe σ vs).set v none
    by_cases hv : i ∈ vs
    · rw [wipe_set hv]
    · have e : v = i := by
        rcases List.mem_cons.mp h with e | h
        · exact e.symm
        · exact absurd h hv
      subst e
      have : ∀ ws : List Nat, v ∉ ws → L2.wipe (σ.set v x) ws = (L2.wipe σ ws).set v x := by
        intro ws
        induction ws with
        | nil => intro _; rfl
        | cons u ws ih =>
          intro hn
          have h1 : v ≠ u := fun e => hn (by rw [e]; exact List.mem_cons_self)
          show (L2.wipe (σ.set v x) ws).set u none = ((L2.wipe σ ws).set u none).set v x
          rw [ih fun z => hn (List.mem_cons_of_mem _ z), List.set_comm _ _ h1]
      rw [this vs hv, List.set_set]
theorem wipe_wipe (σ : L2.St) (vs : List Nat) : L2.wipe (L2.wipe σ vs) vs = L2.wipe σ vs := by
  have aux : ∀ (us : List Nat) (τ : L2.St), (∀ u ∈ us, ∀ y : Nat, (List.set τ u none)[y]? = (show List (Option V) from τ)[y]?) → L2.wipe τ us = τ := by
    intro us
    induction us with
    | nil => intro τ _; rfl
    | cons u us ih =>
      intro τ hh
      show (L2.wipe τ us).set u none = τ
      rw [ih τ fun v hv => hh v (List.mem_cons_of_mem _ hv)]
      exact List.ext_getElem? (hh u List.mem_cons_self)
  refine aux vs _ fun u hu y => ?_
  have key : ∀ (ws : List Nat), u ∈ ws → ∀ y : Nat, ((L2.wipe σ ws).set u none)[y]? = (L2.wipe σ ws)[y]? := by
    intro ws
    induction ws with
    | nil => intro h; cases h
    | cons v ws ih =>
      intro h y
      show ((((L2.wipe σ ws).set v none).set u none))[y]? = ((L2.wipe σ ws).set v none)[y]?
      by_cases e : u = v
      · subst e
        rw [List.set_set]
      · have hw : u ∈ ws := by
          rcases List.mem_cons.mp h with e' | h
          · exact absurd e' e
          · exact h
        have z : (L2.wipe σ ws).set u none = L2.wipe σ ws := List.ext_getElem? (ih hw)
        rw [List.set_comm _ _ (Ne.symm e), z]
  exact key vs hu y
/-- a target of a comprehension: it stores own names alone -/
def OwnT (K : PySem.W.Frag) (vs : List Nat) (g : TG) (g' : TG') : Prop := ∀ (v : V) (σ : L2.St) (H : Hp) (Q : L2.St → Hp → Prop) (d : D) (σd : Sl) (L : LL) (Q' : Sl → LL → Prop), DR K H d v → SR K H σd σ → HL K H L → g' d σd L Q' →
  (∀ σd' L' σ', Q' σd' L' → L2.wipe σ' vs = L2.wipe σ vs → SR K H σd' σ' → HL K H L' → Q σ' H) → g v σ H Q
def OwnTs (K : PySem.W.Frag) (vs : List Nat) (g : TGs) (g' : TGs') : Prop := ∀ (us : List V) (σ : L2.St) (H : Hp) (Q : L2.St → Hp → Prop) (ds : List D) (σd : Sl) (L : LL) (Q' : Sl → LL → Prop), DRs K H ds us → SR K H σd σ → HL K H L → g' ds σd L Q' →
  (∀ σd' L' σ', Q' σd' L' → L2.wipe σ' vs = L2.wipe σ vs → SR K H σd' σ' → HL K H L' → Q σ' H) → g us σ H Q
section
variable {K : PySem.W.Frag} {vs : List Nat}
theorem own_name {i : Nat} (hi : i ∈ vs) : OwnT K vs (gName i) (gName' i) := fun v σ H Q d σd L Q' r hs l h k => k _ _ _ h (wipe_set hi) (hs.set r i) l
theorem own_nil : OwnTs K vs gNil gNil' := fun us σ H Q ds σd L Q' r hs l h k => by
  cases r with
  | nil => exact ⟨rfl, k _ _ _ h rfl hs l⟩
  | cons _ _ => exact (show False from h).elim
theorem own_cons {g : TG} {g' : TG'} {u : TGs} {u' : TGs'} (h1 : OwnT K vs g g') (h2 : OwnTs K vs u u') : OwnTs K vs (gCons g u) (gCons' g' u') := fun us σ H Q ds σd L Q' r hs l h k => by
  cases r with
  | nil => exact (show False from h).elim
  | cons r1 r2 => exact ⟨_, _, rfl, h1 _ _ _ _ _ _ _ _ r1 hs l h fun σd1 L1 σ1 q1 w1 s1 l1 => h2 _ _ _ _ _ _ _ _ r2 s1 l1 q1 fun σd2 L2 σ2 q2 w2 s2 l2 => k _ _ _ q2 (w2.trans w1) s2 l2⟩
theorem own_tup {n : Nat} {u : TGs} {u' : TGs'} (h : OwnTs K vs u u') : OwnT K vs (gTup K n u) (gTup' n u') := fun v σ H Q d σd L Q' r hs l q k => by
  cases r with
  | tup s t => exact ⟨_, _, rfl, s, by rw [← t.length]; exact (show _ ∧ _ from q).1, h _ _ _ _ _ _ _ _ t hs l (show _ ∧ _ from q).2 k⟩
  | _ => exact (show False from q).elim
end
@[irreducible] def NxL (W : Nat → LL → Prop) (i : Nat) (L : LL) : Prop := ∃ L6, Cov L L6 ∧ W (i + 1) L6
theorem NxL.elim {W : Nat → LL → Prop} {i : Nat} {L : LL} (h : NxL W i L) : ∃ L6, Cov L L6 ∧ W (i + 1) L6 := by
  unfold NxL at h
  exact h
@[irreducible] def LcI (items : List D) (st : LL → Prop) (g : TG') (tt : TT') (te : TE') (vs : List Nat) (p : Addr) (σ : Sl) (L : LL) (Φ : DK) : Prop := ∃ W : Nat → LL → Prop, (∃ L1, Cov ((p, .lst []) :: L) L1 ∧ W 0 L1) ∧
  (∀ i L d, W i L → items[i]? = some d → st L ∧ g d (wipeD σ vs) L fun σ2 L2 => tt σ2 L2 (fun L3 => te σ2 L3 fun y L4 => ∃ acc L5, Chg L4 p (.lst acc) (.lst (acc ++ [y])) L5 ∧ acc.length ≤ 1000000 ∧ NxL W i L5) (fun L3 => NxL W i L3)) ∧
  (∀ L, W items.length L → st L ∧ Φ (.ref p) L)
def tLc' (w : TI') (g : TG') (tt : TT') (te : TE') (vs : List Nat) : TE' := fun σ L Φ => w σ L fun items st L1 => ∀ p, LcI items st g tt te vs p σ L1 Φ
abbrev PTs' (X : Cx) (ifs : List Expr) (t : TT') : Prop := PTs X ifs (liftT X.K t)
def tYes' : TT' := fun _ L T _ => T L
section
variable {X : Cx} {pos spos : Pos} {w : TI'} {g' : TG'} {g : TG} {tt : TT'} {te : TE'} {elt tg iter : Expr} {ifs : List Expr} {scope : Scope} {own : List (Str × Nat)}
theorem pts_nil' : PTs' X [] tYes' := ⟨fun pins s σ H Q I ⟨σd, L, T, F, hs, hl, ht, k⟩ => pts_nil.run pins s σ H Q I (k.1 L H ht .refl hl)⟩
theorem pts_one' {c : Expr} {t : TT'} (h : PT' X c t) : PTs' X [c] t := pts_one h
theorem lift_lc {σ : L2.St} {H : Hp} {Q : VK} (og : OwnT X.K (own.map (·.2)) g g') (h : liftE X.K (tLc' w g' tt te (own.map (·.2))) σ H Q) : tLc (liftI X.K w) g (liftT X.K tt) (liftE X.K te) (own.map (·.2)) σ H Q := by
  obtain ⟨σd, L, Φ, hs, hl, ht, k⟩ := h
  refine ⟨σd, L, _, hs, hl, ht, fun items st L1 J H1 h1 J1 t1 l1 p hp => ?_⟩
  have h1 := h1 p
  unfold LcI at h1
  obtain ⟨W, ⟨L2, c2, w0⟩, turn, done⟩ := h1
  have tn : TK X.K H1 (upd H1 p (.lst [])) := TK.new hp
  refine ⟨fun i m H' => m = items.length - i ∧ i ≤ items.length ∧ ∃ L', HL X.K H' L' ∧ W i L' ∧ TK X.K H1 H', ⟨items.length, by simp, Nat.zero_le _, L2, (l1.newl hp .nil).cov c2, w0, tn⟩, ?_⟩
  rintro i m H' ⟨rfl, hi, L', hl', w', tk⟩
  by_cases hlt : i < items.length
  · obtain ⟨d, hd⟩ : ∃ d, items[i]? = some d := ⟨items[i], List.getElem?_eq_getElem hlt⟩
    obtain ⟨hst, hg'⟩ := turn i L' d w' hd
    refine .inr ⟨J1.go i L' H' tk hl' hst hlt, fun H3 => ∃ L', HL X.K H3 L' ∧ W (i + 1) L' ∧ TK X.K H1 H3, fun H3 h => ⟨items.length - (i + 1), by omega, rfl, hlt, h⟩, fun x H2 hy => ?_⟩
    obtain ⟨t2, r2, l2⟩ := J1.yld i L' H' x H2 d tk hl' hst hd hy
    have tt2 : TK X.K H1 H2 := tk.trans t2
    refine og _ _ _ _ _ _ _ _ r2 ((hs.mono (t1.trans tt2)).wipe _) l2 hg' fun σd3 L3 σ3 q3 w3 s3 l3 => ⟨w3.trans ?_, σd3, L3, _, _, s3, l3, q3, fun L4 H4 q4 t4 l4 => ?_, fun L4 H4 q4 t4 l4 => ?_⟩
    · exact wipe_wipe σ _
    · refine iteT ?_
      refine ⟨σd3, L4, _, s3.mono t4, l4, q4, fun y L5 vy H5 q5 t5 r5 l5 => ?_⟩
      obtain ⟨acc, L6, c6, z, q6⟩ := q5
      obtain ⟨L7, c7, w7⟩ := q6.elim
      obtain ⟨us, e, ru⟩ := l5.lst c6.has
      obtain ⟨t6, l6⟩ := l5.chgl c6 e (ru.append (.cons r5 .nil))
      exact ⟨us, e, by rw [← ru.length]; exact szl' z, L7, l6.cov c7, w7, ((tt2.trans t4).trans t5).trans t6⟩
    · refine iteF ?_
      obtain ⟨L7, c7, w7⟩ := q4.elim
      exact ⟨L7, l4.cov c7, w7, tt2.trans t4⟩
  · have e : i = items.length := by omega
    subst e
    obtain ⟨hst, q⟩ := done L' w'
    exact .inl ⟨J1.stop L' H' tk hl' hst, k _ _ _ _ q (t1.trans tk) .ref hl'⟩
theorem pe_lc' (hc : X.calm = true) (hN : X.N.Nodup) (hi : PI' X tg iter w) (ok : BlkOk X.N X.env.scope scope own) (og : OwnT X.K (own.map (·.2)) g g')
    (hg : ∀ (s : Shared) (H : Hp) (C : Addr) (cl : List (Str × Addr)) (fp : List Addr), PG (X.blk s H scope (compEnvC scope cl C X.env) fp) tg g) (ht : ∀ (s : Shared) (H : Hp) (C : Addr) (cl : List (Str × Addr)) (fp : List Addr), PTs' (X.blk s H scope (compEnvC scope cl C X.env) fp) ifs tt)
    (he : ∀ (s : Shared) (H : Hp) (C : Addr) (cl : List (Str × Addr)) (fp : List Addr), PE' (X.blk s H scope (compEnvC scope cl C X.env) fp) elt te) (hs : ∀ x, foldedSetIterable iter X.env x = pure x := by intro _; rfl) :
    PE' X (.ListComp elt [⟨tg, iter, ifs, 0⟩] scope pos) (tLc' w g' tt te (own.map (·.2))) :=
  lE (pe_lc hc hN hi ok hg ht he hs) fun σ H Q h => lift_lc og h
theorem ps_setLc' {i : Nat} {y : Str} {py : Pos} (hc : X.calm = true) (hN : X.N.Nodup) (hi : PI' X tg iter w) (ok : BlkOk X.N X.env.scope scope own) (og : OwnT X.K (own.map (·.2)) g g')
    (hg : ∀ (s : Shared) (H : Hp) (C : Addr) (cl : List (Str × Addr)) (fp : List Addr), PG (X.blk s H scope (compEnvC scope cl C X.env) fp) tg g) (ht : ∀ (s : Shared) (H : Hp) (C : Addr) (cl : List (Str × Addr)) (fp : List Addr), PTs' (X.blk s H scope (compEnvC scope cl C X.env) fp) ifs tt)
    (he : ∀ (s : Shared) (H : Hp) (C : Addr) (cl : List (Str × Addr)) (fp : List Addr), PE' (X.blk s H scope (compEnvC scope cl C X.env) fp) elt te)
    (hy : X.N[i]? = some y := by rfl) (hyl : X.env.scope.names.lookup y = some .local := by rfl)
    (hsw : swapsWith (.ListComp elt [⟨tg, iter, ifs, 0⟩] scope pos) (some (.Name y py)) spos.line X.env = pure true := by exact sw_true rfl rfl rfl (by decide +kernel)) (hs : ∀ x, foldedSetIterable iter X.env x = pure x := by intro _; rfl) :
    PS' X (.Assign [.Name y py] (.ListComp elt [⟨tg, iter, ifs, 0⟩] scope pos) spos) (tAsg' (tLc' w g' tt te (own.map (·.2))) (gName' i)) :=
  lS (ps_setLc hc hN hy hyl hsw hi ok hg ht he hs) fun D σ H ⟨σd, L, D', hs, hl, ht, k⟩ => by
    have z : liftE X.K (tLc' w g' tt te (own.map (·.2))) σ H (fun v H1 => gName i v σ H1 D.nx) := ⟨σd, L, _, hs, hl, ht, fun d L1 v H1 h1 t1 r1 l1 => k.nx _ _ _ _ h1 t1 ((hs.mono t1).set r1 i) l1⟩
    exact lift_lc og z
end
end DL

namespace DL
open PySem PySem.Spec PyProof.Rows L2
/-! ### contracts by a small part of the heap -/
inductive Pull : LL → LL → LL → Prop
  | nil {L} : Pull L [] L
  | cons {L a o o' L1 F R} : Sel L a o' L1 → o' = o → Pull L1 F R → Pull L ((a, o) :: F) R
theorem Pull.cov {L F R : LL} (p : Pull L F R) : Cov L (F ++ R) := by
  induction p with
  | nil => exact .refl
  | cons s e _ ih => exact .take s e ih
abbrev Sc := List D → LL → LL → DK → Prop
inductive CtOf (S : Sc) (ds : List D) (L : LL) (Φ : DK) : Prop
  | mk (F R : LL) : Pull L F R → S ds F R Φ → CtOf S ds L Φ
theorem nonly_of {S : Sc} (h : ∀ ds F R Φ, S ds F R Φ → S ds F R fun d L' => d = .non ∧ Φ d L') : NonOnly (CtOf S) := fun ds L Φ ⟨F, R, p, s⟩ => ⟨F, R, p, h _ _ _ _ s⟩
section
variable {P : Program} {w : World} {K : PySem.W.Frag} {mg : Str → Option Value} {base : Heap} {x qual : Str} {params : Arguments} {body : List Stmt} {scope : Scope} {dvs : List V} {kws : List (Str × V)} {f : Addr} {fd : FuncData} {ps N : List Str} {k : Nat} {S : Sc} {t : TS'}
theorem fnOkS (F : FunD K x qual params body scope dvs kws f fd) (sc : FnScope N ps scope) (len : ∀ ds F R Φ, S ds F R Φ → ds.length = ps.length)
    (der : ∀ (cdv : Value) (A : Around) (outer : List Env) (s : Shared) (H : Hp) (E : XK), Room k (A.deeper (envOfC qual scope s.heap.objs.size f cdv)) → PSs' (BX P w K mg base N qual scope f cdv A outer s H E) body t)
    (rd : ∀ ds F R Φ, S ds F R Φ → t (endD Φ) (startD N.length ds) (F ++ R)) : FnOk P w K mg base CX0 (k + 1) f fd ps (liftC K (CtOf S)) := by
  refine F.ok sc (fun vs H Q E ⟨ds, L, Φ, r, _, ⟨F, R, p, s⟩, _⟩ => by rw [← r.length]; exact len ds F R Φ s) fun cdv A outer s H vs Q E hr ⟨ds, L, Φ, r, l, ⟨F, R, p, hs⟩, q⟩ => ⟨_, PSs.nox (der cdv A outer s H E hr), _, F ++ R, endD Φ, sr_start r, l.cov p.cov, rd ds F R Φ hs, ?_, ?_, ?_, ?_⟩
  · rintro σd L2 σ H2 ⟨L3, c3, h3⟩ t2 s2 l2
    exact q _ _ _ _ h3 t2 .non (l2.cov c3)
  · rintro d L2 v H2 ⟨L3, c3, h3⟩ t2 r2 l2
    exact q _ _ _ _ h3 t2 r2 (l2.cov c3)
  · intro _ _ _ _ h
    exact (show False from h).elim
  · intro _ _ _ _ h
    exact (show False from h).elim
end
/-! ### loops by an invariant over data -/
/-- the state is that of some x -/
def WI {α : Type} (S : α → Sl) (F : α → LL) (I : α → Prop) (μ : α → Nat) : Nat → Sl → LL → Prop := fun m σ L => ∃ x, σ = S x ∧ L = F x ∧ I x ∧ m = μ x
theorem WhileI.inv {α : Type} {c : TT'} {tb : TS'} {D : EndsD} {σ : Sl} {L : LL} (S : α → Sl) (F : α → LL) (I : α → Prop) (μ : α → Nat) (x0 : α) (h1 : Sub σ (S x0)) (h2 : Cov L (F x0)) (h3 : I x0)
    (step : ∀ x, I x → c (S x) (F x) (fun L1 => tb { D with nx := Nxt (WI S F I μ) (μ x), ct := Nxt (WI S F I μ) (μ x), bk := D.nx } (S x) L1) (fun L1 => D.nx (S x) L1)) : WhileI c tb D σ L := by
  unfold WhileI
  refine ⟨WI S F I μ, ⟨μ x0, S x0, F x0, h1, h2, x0, rfl, rfl, h3, rfl⟩, ?_⟩
  rintro m σ L ⟨x, rfl, rfl, hx, rfl⟩
  exact step x hx
theorem Nxt.mk {α : Type} {S : α → Sl} {F : α → LL} {I : α → Prop} {μ : α → Nat} {m : Nat} {σ : Sl} {L : LL} (y : α) (h1 : Sub σ (S y)) (h2 : Cov L (F y)) (h3 : I y) (h4 : μ y < m) : Nxt (WI S F I μ) m σ L := by
  unfold Nxt
  exact ⟨μ y, h4, S y, F y, h1, h2, y, rfl, rfl, h3, rfl⟩
def FI {α : Type} (S : Nat → α → Sl) (F : Nat → α → LL) (I : Nat → α → Prop) : Nat → Sl → LL → Prop := fun i σ L => ∃ x, σ = S i x ∧ L = F i x ∧ I i x
theorem ForI.inv {α : Type} {items : List D} {st : LL → Prop} {g : TG'} {tb : TS'} {D : EndsD} {σ : Sl} {L : LL} (S : Nat → α → Sl) (F : Nat → α → LL) (I : Nat → α → Prop) (x0 : α) (h1 : Sub σ (S 0 x0)) (h2 : Cov L (F 0 x0)) (h3 : I 0 x0)
    (step : ∀ i x d, items[i]? = some d → I i x → st (F i x) ∧ g d (S i x) (F i x) fun σ2 L2 => tb { D with nx := Nx1 (FI S F I) i, ct := Nx1 (FI S F I) i, bk := D.nx } σ2 L2)
    (done : ∀ x, I items.length x → st (F items.length x) ∧ D.nx (S items.length x) (F items.length x)) : ForI items st g tb D σ L := by
  unfold ForI
  refine ⟨FI S F I, ⟨_, _, h1, h2, x0, rfl, rfl, h3⟩, ?_, ?_⟩
  · rintro i σ L d ⟨x, rfl, rfl, hx⟩ hd
    exact step i x d hd hx
  · rintro σ L ⟨x, rfl, rfl, hx⟩
    exact done x hx
theorem Nx1.mk {α : Type} {S : Nat → α → Sl} {F : Nat → α → LL} {I : Nat → α → Prop} {i : Nat} {σ : Sl} {L : LL} (y : α) (h1 : Sub σ (S (i + 1) y)) (h2 : Cov L (F (i + 1) y)) (h3 : I (i + 1) y) : Nx1 (FI S F I) i σ L := by
  unfold Nx1
  exact ⟨_, _, h1, h2, y, rfl, rfl, h3⟩
def LI {α : Type} (F : Nat → α → LL) (I : Nat → α → Prop) : Nat → LL → Prop := fun i L => ∃ x, L = F i x ∧ I i x
theorem LcI.inv {α : Type} {items : List D} {st : LL → Prop} {g : TG'} {tt : TT'} {te : TE'} {vs : List Nat} {p : Addr} {σ : Sl} {L : LL} {Φ : DK} (F : Nat → α → LL) (I : Nat → α → Prop) (x0 : α) (h2 : Cov ((p, .lst []) :: L) (F 0 x0)) (h3 : I 0 x0)
    (step : ∀ i x d, items[i]? = some d → I i x → st (F i x) ∧ g d (wipeD σ vs) (F i x) fun σ2 L2 => tt σ2 L2 (fun L3 => te σ2 L3 fun y L4 => ∃ acc L5, Chg L4 p (.lst acc) (.lst (acc ++ [y])) L5 ∧ acc.length ≤ 1000000 ∧ NxL (LI F I) i L5) (fun L3 => NxL (LI F I) i L3))
    (done : ∀ x, I items.length x → st (F items.length x) ∧ Φ (.ref p) (F items.length x)) : LcI items st g tt te vs p σ L Φ := by
  unfold LcI
  refine ⟨LI F I, ⟨_, h2, x0, rfl, h3⟩, ?_, ?_⟩
  · rintro i L d ⟨x, rfl, hx⟩ hd
    exact step i x d hd hx
  · rintro L ⟨x, rfl, hx⟩
    exact done x hx
theorem NxL.mk {α : Type} {F : Nat → α → LL} {I : Nat → α → Prop} {i : Nat} {L : LL} (y : α) (h2 : Cov L (F (i + 1) y)) (h3 : I (i + 1) y) : NxL (LI F I) i L := by
  unfold NxL
  exact ⟨_, h2, y, rfl, h3⟩
end DL

namespace DL
open PySem PySem.Spec PyProof.Rows L2
section
variable {X : Cx} {pos : Pos} {e o : Expr} {es : List Expr} {te ta tb : TE'} {t : TA'} {x : Str} {c : Ct} {k n : Nat} {dd : List D}
/-! ### o.f as a target -/
def gFld (K : PySem.W.Frag) (ta : TE) (f : Str) : TG := fun y σ H Q => ta σ H fun x H2 => ∃ a C dx fs, x = .ref a ∧ H2 a = some (.ins C dx fs) ∧ Cls K C ∧ NoAttr K C f ∧ fs.length < 1000 ∧ Q σ (upd H2 a (.ins C dx (putF f y fs)))
theorem pg_fld {f : Str} {ta : TE} (ha : PE X o ta) : PG X (.Attribute o f pos) (gFld X.K ta f) := by
  refine ⟨fun pins s σ H v u Q I r h => ?_⟩
  rw [PySem.assign_Attribute]
  refine wpAny_bind (wpAny_holding (thn (ha.run pins s σ H _ I h) fun ov s1 ⟨x, H1, I1, rx, a, C, dx, fs, ex, ea, c, n, l, q⟩ => ?_))
  subst ex
  obtain rfl : ov = Value.ref a := rx
  refine wpAny_bind (wpAny_standAt (wpAny_bind (wpAny_holding ?_)))
  exact setattr_ok I1 ea c n l r fun s2 I2 => wpAny_release ⟨σ, _, I2, q⟩
def gFld' (C : Addr) (f : Nat) (to : TE') : TG' := fun v σ L k => to σ L fun o L1 => putD C f o v L1 fun L2 => k σ L2
theorem pg_fld' {C : Addr} {f : Nat} {x : Str} (cl : Cls X.K C) (na : NoAttr X.K C x) (ha : PE' X e te) (hx : fname f = x := by rfl) (hf : f < fnames.length := by decide) : PG' X (.Attribute e x pos) (gFld' C f te) :=
  lG (pg_fld ha) fun v σ H Q ⟨d, σd, L, Q', r, hs, hl, h, k⟩ => ⟨σd, L, _, hs, hl, h, fun o L1 vo H1 h1 t1 r1 l1 => by
    cases r1 with
    | ref =>
      obtain ⟨fs, L', c, z, q⟩ := (show ∃ fs, _ from h1)
      obtain ⟨dx, gs, e1, rr⟩ := l1.has c.has
      have t3 : TK X.K H1 (upd H1 _ (.ins C dx (putF x v gs))) := TK.chg e1 trivial
      have zz : fs.length ≤ 900 := Nat.le_of_ble_eq_true z
      refine ⟨_, C, dx, gs, rfl, e1, cl, na, by rw [← rr.length]; omega, k _ _ _ _ q (t1.trans t3) (hs.mono (t1.trans t3)) (l1.chg c rfl e1 trivial ⟨dx, _, upd_same, ?_⟩)⟩
      have z2 := (rr.put hf (r.mono t1)).mono t3
      rw [hx] at z2
      exact z2
    | _ => exact (show False from h1).elim⟩
/-! ### calls with keywords -/
theorem pe_callK' {p : Pos} {ks : List Str} {kws : List Keyword} {tk : TA'} {g : List D → List D → List D} (F : Fnk X.prog X.w X.K X.mg X.base x n ks g c k) (hr : Room k X.A) (hg : Gl X x) (ha : PA' X (e :: es) t) (hkw : PK' X kws tk)
    (hall : (backToKw pos (keywordEach kws X.env)).all (·.1.isSome) = true := by rfl) (hks : (backToKw pos (keywordEach kws X.env)).filterMap (·.1) = ks := by rfl)
    (hdb : (x == ("__debug__" : Str)) = false := by decide) (he : starEach (e :: es) X.env = (false, eval e X.env) :: starEach es X.env := by rfl)
    (hpl : ((backTo pos (starEach (e :: es) X.env)).any (·.1) || (backToKw pos (keywordEach kws X.env)).any (·.1.isNone)) = false := by rfl) {m : Nat} (hm : ks.length = m := by rfl) :
    PE' X (.Call (.Name x p) (e :: es) kws pos) (tCallK' n m g c t tk) := by
  subst hm
  obtain ⟨f, fd, ps, gU, gV, hm, hk, hb, hg2, F⟩ := F.ex
  exact lE (pe_callN F hr hg hm hk hb pass0 ha hkw hall hks hdb he hpl) fun σ H Q ⟨σd, L, Φ, hs, hl, ht, k⟩ => ⟨σd, L, _, hs, hl, ht, fun ds L1 vs H1 h1 t1 r1 l1 => ⟨σd, L1, _, hs.mono t1, l1, h1, fun us L2 ws H2 h2 t2 r2 l2 => by
    obtain ⟨q1, q2, q3⟩ := h2
    exact ⟨r1.length.symm.trans q1, r2.length.symm.trans q2, _, L2, Φ, hg2 _ _ _ _ _ (r1.mono t2) r2 q1 q2, l2, q3, k.mono (t1.trans t2)⟩⟩⟩
theorem pe_callN0 {f : Addr} {fd : FuncData} {ps : List Str} {sp : Sp} {CX : CXT} {E : XK} {p : Pos} {ks : List Str} {kws : List Keyword} {tk : TA} {g : List Value → List Value → List Value} {gV : List V → List V → List V} (F : FnOk X.prog X.w X.K X.mg X.base CX k f fd ps sp) (hr : Room k X.A) (hg : Gl X x) (hm : X.mg x = some (.ref f)) (hk : PySem.W.keepIn X.K (.ref f) = true) (hb : KBn X.K fd ps 0 ks g gV) (hx : Passes CX X E)
    (hkw : PK X kws tk) (hall : (backToKw pos (keywordEach kws X.env)).all (·.1.isSome) = true := by rfl) (hks : (backToKw pos (keywordEach kws X.env)).filterMap (·.1) = ks := by rfl)
    (hdb : (x == ("__debug__" : Str)) = false := by decide)
    (hpl : ((backTo pos (starEach [] X.env)).any (·.1) || (backToKw pos (keywordEach kws X.env)).any (·.1.isNone)) = false := by rfl) :
    PE X (.Call (.Name x p) [] kws pos) (tCallN 0 ks.length sp gV E tNil tk) := by
  refine ⟨fun pins s σ H Q I h => ?_⟩
  refine wpAny_Call_Name_kw (ld_glob I hg hm ?_ hdb)
  refine PySem.W.callWith_KW0 (h₀ := X.base) I.ok.mod.kin hk hall ?_ hpl
  refine thn (hkw.run pos pins s σ H _ I h) fun ws s2 ⟨zs, H2, I2, rz, l1, l2, q2⟩ => ⟨I2.kIn, ?_⟩
  rw [hks]
  exact run_fnN F hr hb hx I2 .nil rz l1 l2 q2
def tCallK0' (m : Nat) (g : List D → List D → List D) (c : Ct) (tk : TA') : TE' := fun σ L Φ => tk σ L fun es L2 => es.length = m ∧ c (g [] es) L2 Φ
theorem pe_callK0' {p : Pos} {ks : List Str} {kws : List Keyword} {tk : TA'} {g : List D → List D → List D} (F : Fnk X.prog X.w X.K X.mg X.base x 0 ks g c k) (hr : Room k X.A) (hg : Gl X x) (hkw : PK' X kws tk)
    (hall : (backToKw pos (keywordEach kws X.env)).all (·.1.isSome) = true := by rfl) (hks : (backToKw pos (keywordEach kws X.env)).filterMap (·.1) = ks := by rfl)
    (hdb : (x == ("__debug__" : Str)) = false := by decide)
    (hpl : ((backTo pos (starEach [] X.env)).any (·.1) || (backToKw pos (keywordEach kws X.env)).any (·.1.isNone)) = false := by rfl) {m : Nat} (hm : ks.length = m := by rfl) :
    PE' X (.Call (.Name x p) [] kws pos) (tCallK0' m g c tk) := by
  subst hm
  obtain ⟨f, fd, ps, gU, gV, hm, hk, hb, hg2, F⟩ := F.ex
  exact lE (pe_callN0 F hr hg hm hk hb pass0 hkw hall hks hdb hpl) fun σ H Q ⟨σd, L, Φ, hs, hl, ht, k⟩ => ⟨σd, L, _, hs, hl, ht, fun us L2 ws H2 h2 t2 r2 l2 => by
    obtain ⟨q2, q3⟩ := h2
    exact ⟨rfl, r2.length.symm.trans q2, _, L2, Φ, hg2 _ _ _ _ _ .nil r2 rfl q2, l2, q3, k.mono t2⟩⟩
/-! two targets -/
def tAsg2' (t : TE') (g1 g2 : TG') : TS' := fun D σ L => t σ L fun d L1 => g1 d σ L1 fun σ1 L2 => g2 d σ1 L2 D.nx
theorem ps_asg2' {t1 t2 : Expr} {g1 g2 : TG'} (he : PE' X e te) (h1 : PG' X t1 g1) (h2 : PG' X t2 g2) (ha : (assignEach [t1, t2] X.env).map (·.2) = [assign t1 X.env, assign t2 X.env] := by rfl) (hw : swappedStores [t1, t2] e X.env = pure none := by rfl) :
    PS' X (.Assign [t1, t2] e pos) (tAsg2' te g1 g2) :=
  lS (ps_asg2 he h1 h2 ha hw) fun D σ H ⟨σd, L, D', hs, hl, ht, k⟩ => ⟨σd, L, _, hs, hl, ht, fun d L1 v H1 h1 t1 r1 l1 => ⟨d, σd, L1, _, r1, hs.mono t1, l1, h1, fun σ2 L2 σ3 H2 h2 t2 s2 l2 => ⟨d, σ2, L2, _, r1.mono t2, s2, l2, h2, KontG.mono (t1.trans t2) k.nx⟩⟩⟩
/-! o.f op= e -/
def tFldAug' (C : Addr) (f : Nat) (to tv : TE') (g : F2) : TS' := fun D σ L => to σ L fun o L1 => match o with
  | .ref a => ∃ fs, Has L1 a (.ins C fs) ∧ getF f fs fun x => tv σ L1 fun y L2 => g x y L2 fun z L3 => putD C f (.ref a) z L3 fun L4 => D.nx σ L4
  | _ => False
theorem ps_fldaug' {C : Addr} {f : Nat} {x : Str} {value : Expr} {tv : TE'} {tpos : Pos} {op : Operator} {g : F2} {rd : V → V → Hp → VK → Prop} (cl : Cls X.K C) (na : NoAttr X.K C x) (od : OpD X.K g rd) (hop : InOp X op rd) (ha : PE' X e te) (hv : PE' X value tv) (hx : fname f = x := by rfl) (hf : f < fnames.length := by decide) :
    PS' X (.AugAssign (.Attribute e x tpos) op value pos) (tFldAug' C f te tv g) :=
  lS (ps_fldaug ha hv hop) fun D σ H ⟨σd, L, D', hs, hl, ht, k⟩ => ⟨σd, L, _, hs, hl, ht, fun o L1 vo H1 h1 t1 r1 l1 => by
    cases r1 with
    | @ref a =>
      obtain ⟨fs, hh, q⟩ := (show ∃ fs, _ from h1)
      obtain ⟨dx, gs, e1, rr⟩ := l1.has hh
      unfold getF at q
      cases eg : getN f fs with
      | none => rw [eg] at q; exact (show False from q).elim
      | some d =>
        rw [eg] at q
        obtain ⟨v, ev, rv⟩ := rr.get hf eg
        rw [hx] at ev
        refine ⟨a, C, dx, gs, v, rfl, e1, cl, na, ev, σd, L1, _, hs.mono t1, l1, q, fun y L2 vy H2 h2 t2 r2 l2 => od _ _ _ _ _ _ _ _ (rv.mono t2) r2 l2 h2 fun z L3 vz H3 h3 t3 r3 l3 => ?_⟩
        obtain ⟨fs', L', c, z, q⟩ := (show ∃ fs, _ from h3)
        obtain ⟨dx', gs', e1', rr'⟩ := l3.has c.has
        have t4 : TK X.K H3 (upd H3 _ (.ins C dx' (putF x vz gs'))) := TK.chg e1' trivial
        have zz : fs'.length ≤ 900 := Nat.le_of_ble_eq_true z
        have tt := ((t1.trans t2).trans t3).trans t4
        refine ⟨dx', gs', e1', by rw [← rr'.length]; omega, k.nx _ _ _ _ q tt (hs.mono tt) (l3.chg c rfl e1' trivial ⟨dx', _, upd_same, ?_⟩)⟩
        have z2 := (rr'.put hf r3).mono t4
        rw [hx] at z2
        exact z2
    | _ => exact (show False from h1).elim⟩
theorem od_inadd {K : PySem.W.Frag} : OpD K (fI fun i j => .int (i + j)) rAdd := fun d1 d2 x y L H Φ Q r1 r2 l h k => by
  cases r1 <;> cases r2 <;> first
    | exact (show False from h).elim
    | exact ⟨_, _, rfl, rfl, k _ _ _ _ h .refl .int l⟩
theorem od_insub {K : PySem.W.Frag} : OpD K (fI fun i j => .int (i - j)) rSub := fun d1 d2 x y L H Φ Q r1 r2 l h k => by
  cases r1 <;> cases r2 <;> first
    | exact (show False from h).elim
    | exact ⟨_, _, rfl, rfl, k _ _ _ _ h .refl .int l⟩
end
end DL

/-! what is walked: lists and tuples in one rule; enumerate over a tuple -/
namespace DL
open PySem PySem.Spec PyProof.Rows L2
section
variable {X : Cx} {tg : Expr}
def iSeqV (K : PySem.W.Frag) (tl : TE) : TI := fun σ H R => tl σ H fun x H1 => ∃ a, x = .ref a ∧ (((∃ xs, SqL K H1 a xs) ∧ R (Itl K a) H1) ∨ ((∃ xs, SqT K H1 a xs) ∧ R (Itt K a) H1))
theorem pi_seqV {l : Expr} {tl : TE} (hl : PE X l tl) : PI X tg l (iSeqV X.K tl) := by
  refine ⟨fun pins s σ H R I h => ?_⟩
  refine thn (hl.run pins s σ H _ I h) fun v s1 ⟨x, H1, I1, r1, a, e, q1⟩ => ?_
  subst e
  cases r1
  have fr : ∀ b ∈ [s1.heap.objs.size], FpOk X pins H1 b := fun b hb => by
    have e : b = s1.heap.objs.size := by simpa using hb
    subst e
    exact I1.fpOk (Nat.le_refl _) (I1.hok.fresh (Nat.le_refl _))
  rcases q1 with ⟨⟨xs, hq⟩, q⟩ | ⟨⟨xs, hq⟩, q⟩
  · obtain ⟨its, rv, p, hz⟩ := I1.list hq
    refine wpAny_pyIter_list p.isList ?_
    exact ⟨s1.heap.objs.size, [s1.heap.objs.size], _, _, H1, rfl, I1.kept (t' := s1.toks) fun b o e => Heap.get?_push_of_some _ e, turn_list a _, ⟨_, Heap.get?_push_size _ rfl, rfl, rfl⟩, fr, q⟩
  · obtain ⟨its, rv, p, hz⟩ := I1.tuple hq
    refine wpAny_pyIter_tuple (show s1.heap.IsTuple a its.toArray from p) ?_
    exact ⟨s1.heap.objs.size, [s1.heap.objs.size], _, _, H1, rfl, I1.kept (t' := s1.toks) fun b o e => Heap.get?_push_of_some _ e, turn_tuple a _, ⟨_, Heap.get?_push_size _ rfl, rfl, rfl⟩, fr, q⟩
end
/-! enumerate(tuple) -/
theorem meets_enum1 {v : Value} {o : Obj} {H : Heap → Prop} (B : Begins v o H) :
    Meets (Builtin.«enumerate.__new__» ⟨[.type "enumerate", v], []⟩) (fun _ R s => H s.heap ∧
      R (.ok (.ret (.ref (s.heap.push o).objs.size))) { s with heap := (s.heap.push o).push { cls := .type "enumerate", data := .fields #[.none, .bool false, .ref s.heap.objs.size, rawInt 0, .none, .none] } }) :=
  .of_wp fun prog w A R s h => by
    obtain ⟨hp, g, d, tk, os⟩ := s; obtain ⟨h1, h⟩ := h
    have hsub := sub_enumerate
    have q1 : ∀ {A' : Around} {E : Value → Shared → Prop} {Q : Value → Shared → Prop}, Q (.ref hp.objs.size) ⟨hp.push o, g, d, tk, os⟩ → wpAny (model prog w) A' (pyIter v) Q E ⟨hp, g, d, tk, os⟩ :=
      fun q => B.iter prog w _ _ ⟨hp, g, d, tk, os⟩ _ h1 q
    wp_walk using q1
    refine wpAny_stack_any fun st => wpAny_pure ?_
    split
    · rename_i c _ _ _ _ _
      cases (c == Value.type "enumerate")
      · wp_walk using q1
        exact ⟨_, rfl, h⟩
      · wp_walk using q1
        exact ⟨_, rfl, h⟩
    · wp_walk using q1
      exact ⟨_, rfl, h⟩
section
variable {prog : Program} {w : World} {A : Around} {E : Value → Shared → Prop} {s : Shared}
theorem enum_begins1 {v : Value} {o : Obj} {H : Heap → Prop} {Q : Value → Shared → Prop} (B : Begins v o H) (h1 : H s.heap)
    (h : ∀ h', IsEnum h' (s.heap.objs.size + 1) s.heap.objs.size 0 .none → h'.get? s.heap.objs.size = some o → h'.objs.size = s.heap.objs.size + 2 →
      (∀ b o, s.heap.get? b = some o → h'.get? b = some o) → Q (.ref (s.heap.objs.size + 1)) { s with heap := h' }) :
    wpAny (model prog w) A (call (.type "enumerate") [v]) Q E s := by
  refine callType_new F.called_enumerate (by decide) (F.typeCall_enumerate_1 _) (F.newCall_enumerate_1 _) (fun obj => F.args_object_init_2 obj _) F.entry_enumerate_new
    (meets_enum1 B) ⟨h1, ?_⟩
  have hz : (s.heap.push o).objs.size = s.heap.objs.size + 1 := Heap.size_push ..
  show _ ∧ _
  rw [hz]
  have he : IsEnum ((s.heap.push o).push { cls := .type "enumerate", data := .fields #[.none, .bool false, .ref s.heap.objs.size, rawInt 0, .none, .none] }) (s.heap.objs.size + 1) s.heap.objs.size 0 .none := by
    have := Heap.get?_push_size (s.heap.push o) (o := { cls := .type "enumerate", data := .fields #[.none, .bool false, .ref s.heap.objs.size, rawInt 0, .none, .none] }) rfl
    rw [hz] at this; exact this
  refine ⟨⟨_, he, rfl⟩, h _ he (Heap.get?_push_of_some _ (Heap.get?_push_size _ B.free)) (by rw [Heap.size_push, hz]) fun b o x => Heap.get?_push_of_some _ (Heap.get?_push_of_some _ x)⟩
end
def IteT (K : PySem.W.Frag) (a : Addr) : It :=
  ⟨fun i H => ∃ (xs : List V) (x : V), SqT K H a xs ∧ xs[i]? = some x, fun i H v H' => ∃ T x, v = .ref T ∧ H T = none ∧ H' = upd H T (.tup [.int (i : Nat), x]) ∧ ∀ xs, SqT K H a xs → xs[i]? = some x, fun i H => ∃ xs : List V, SqT K H a xs ∧ xs.length ≤ i⟩
theorem turn_enumT {P : Program} {w : World} {K : PySem.W.Frag} {elts : List Expr} {kk : Nat} {tpos : Pos} (a e it : Addr) (hai : a ≠ it) (hae : a ≠ e) :
    Turn P w K (.Tuple elts kk tpos) (IteT K a) [e, it] e (fun i h => (∃ old, IsEnum h e it ((i : Nat) : Int) old) ∧ h.IsTupleIter it a i ∧ e ≠ it) where
  mem := by simp
  obj := fun i h st b hb => by
    obtain ⟨⟨old, he⟩, ⟨o, ho, hc, hd⟩, _⟩ := st
    have e' : b = e ∨ b = it := by simpa using hb
    rcases e' with z | z
    · rw [z]; exact ⟨_, he, fun v q => nomatch q⟩
    · rw [z]; exact ⟨o, ho, fun v q => by rw [hd] at q; cases q⟩
  keep := fun i h h' st k => let ⟨⟨old, he⟩, hi, hne⟩ := st; ⟨⟨old, k e (by simp) _ he⟩, hi.at fun o q => k it (by simp) o q, hne⟩
  item := by
    intro X hP hw hK hc i pins s σ H E I hf st hg
    subst hP hw hK
    obtain ⟨⟨old, he⟩, hit, hne⟩ := st
    obtain ⟨xs, x, hq, hx⟩ := hg
    obtain ⟨its, rv, p, hz⟩ := I.tuple hq
    obtain ⟨u, hu, ru⟩ := rv.get hx
    have hel : e < s.heap.objs.size := Heap.lt_size he
    have hil : it < s.heap.objs.size := by obtain ⟨_, q, _⟩ := hit; exact Heap.lt_size q
    have Dr := Draws.tuple (prog := X.prog) (w := X.w) (A := X.A.in1) (I.ok.hd hc) it a hai its.toArray
    refine wpAny_pyNext_enum_itemD Dr he ⟨hit, p⟩ (by
      have := (List.getElem?_eq_some_iff.mp hu).1
      simpa using this) hne (by simp [hne, hae.symm]) fun x' h' tk hx' ho hit' hT hsz hk => ?_
    have ex : x' = u := by
      have q := hx'.symm.trans (show its.toArray[i]? = some u by simpa using hu)
      exact Option.some.inj q
    subst ex
    refine ⟨_, rfl, wpAny_letOwnedTupleGo_enum (s := { s with heap := h', toks := tk + 1 }) ho fun h'' he' sb => ?_⟩
    have hT2 : h''.get? s.heap.objs.size = some { cls := .type "tuple", data := .seq #[.int i tk, x'] } := (sb.2 _ (Nat.ne_of_gt hel)).trans hT
    have new : ObjOk X.prog X.w (upd H s.heap.objs.size (.tup [.int (i : Nat), x])) h'' s.heap.objs.size (.tup [.int (i : Nat), x]) :=
      ⟨by show 2 ≤ sizeLine; decide, [.int i tk, x'], .cons ⟨_, rfl⟩ (.cons ru .nil), ⟨_, hT2, rfl, _, rfl⟩⟩
    have I1 : Inv X pins σ (upd H s.heap.objs.size (.tup [.int (i : Nat), x])) { s with heap := h'', toks := tk + 1 } :=
      I.turnedNew (ch := [e, it]) (fun b ob hb q => (sb.2 b (fun z => hb (by simp [z]))).trans (hk b ob (fun z => hb (by simp [z])) (fun z => hb (by simp [z])) q)) hf (Nat.le_refl _) new
    refine ⟨.ref s.heap.objs.size, _, I1, rfl, ⟨_, x, rfl, I.hok.fresh (Nat.le_refl _), rfl, fun ys hy => by rw [I.tuple_inj hy hq]; exact hx⟩, ⟨⟨x', ?_⟩, hit'.1.at fun o q => (sb.2 it (Ne.symm hne)).trans q, hne⟩, fun b hb => ?_⟩
    · have e1 : ((i + 1 : Nat) : Int) = (i : Int) + 1 := by omega
      rw [e1]; exact he'
    · have hb' : b < s.heap.objs.size := by
        have e' : b = e ∨ b = it := by simpa using hb
        rcases e' with z | z
        · rw [z]; exact hel
        · rw [z]; exact hil
      rw [upd_ne (Nat.ne_of_lt hb')]
      exact (hf b hb).1
  done := by
    intro X hP hw hK hc i pins s σ H E I hf st hg
    subst hP hw hK
    obtain ⟨⟨old, he⟩, hit, hne⟩ := st
    obtain ⟨xs, hq, hx⟩ := hg
    obtain ⟨its, rv, p, hz⟩ := I.tuple hq
    obtain ⟨f0, f1, f2, f3, f4, f5⟩ := hf it (by simp)
    have hl := rv.length
    have hT : s.TypeIs (.ref e) "enumerate" := ⟨_, he, rfl⟩
    unfold pyNext
    refine wpAny_bind (wpAny_attempt (wpAny_callSpecial?_slot (name := Str.ofString "__next__") hT F.slot_enumerate_next
      (wpAny_call_entry F.slot_enumerate_next hT F.entry_enumerate_next ?_ (F.args_enumerate_next_1 _))))
    show wpAny _ _ (field (.ref e) 2 >>= _) _ _ _
    refine wpAny_bind (wpAny_field he rfl (x := .ref it) rfl ?_)
    refine wpAny_bind (wpAny_nextOf_tuple_end (I.ok.hd hc) hit (show s.heap.IsTuple a its.toArray from p) (by simp; omega) fun h' x he' hx' => ?_)
    obtain ⟨o, ho, hc'⟩ := hx'
    refine wpAny_bind (wpAny_isInstance (T := "StopIteration") (b := true) ⟨o, ho, hc'⟩ isSubtype_stop ?_)
    exact wpAny_pure ⟨rfl, I.turned (t' := s.toks) (fun b o hb q => he' b o hb q) f0 f1 f3 f4 f5⟩
  self := fun A i s Q E st h => let ⟨⟨_, he⟩, _⟩ := st; wpAny_pyIter_enum he h
def iEnumV (K : PySem.W.Frag) (ta : TA) : TI := fun σ H R => ta σ H fun vs H1 => ∃ a xs, vs = [.ref a] ∧ ((SqL K H1 a xs ∧ R (Ite K a) H1) ∨ (SqT K H1 a xs ∧ R (IteT K a) H1))
theorem pi_enumV {X : Cx} {e : Expr} {ta : TA} {p pos tpos : Pos} {elts : List Expr} {kk : Nat} (hg : Gl X "enumerate") (hm : X.mg "enumerate" = none) (ha : PA X [e] ta) (hs : starEach [e] X.env = [(false, eval e X.env)] := by rfl) :
    PI X (.Tuple elts kk tpos) (.Call (.Name "enumerate" p) [e] [] pos) (iEnumV X.K ta) := by
  refine ⟨fun pins s σ H R I h => ?_⟩
  refine Call_ (ld_blt I hg hm boot_enumerate (PyProof.Rows.callWith_type1 (thn (ha.run pos pins s σ H _ I h) fun us s1 ⟨vs, H1, I1, r1, q1⟩ => ?_) hs rfl))
  obtain ⟨a, xs, ex, q⟩ := q1
  subst ex
  cases r1 with
  | cons r rr =>
    cases rr
    cases r
    have fr : ∀ b ∈ [s1.heap.objs.size + 1, s1.heap.objs.size], FpOk X pins H1 b := fun b hb => by
      have e' : b = s1.heap.objs.size + 1 ∨ b = s1.heap.objs.size := by simpa using hb
      have hle : s1.heap.objs.size ≤ b := by
        rcases e' with z | z
        · rw [z]; exact Nat.le_add_right _ _
        · rw [z]; exact Nat.le_refl _
      exact I1.fpOk hle (I1.hok.fresh hle)
    rcases q with ⟨hq, q⟩ | ⟨hq, q⟩
    · obtain ⟨its, rv, p', hz⟩ := I1.list hq
      refine call_enumerate_list p'.isList fun h' he hit hsz hk => wpAny_pyIter_enum he ?_
      have I2 : Inv X pins σ H1 { s1 with heap := h' } := I1.kept (t' := s1.toks) hk
      exact ⟨s1.heap.objs.size + 1, [s1.heap.objs.size + 1, s1.heap.objs.size], _, _, H1, rfl, I2, turn_enum a (s1.heap.objs.size + 1) s1.heap.objs.size, ⟨⟨.none, he⟩, hit, Nat.succ_ne_self _⟩, fr, q⟩
    · obtain ⟨its, rv, p', hz⟩ := I1.tuple hq
      obtain ⟨o1, ho1, _⟩ := id p'
      have hal : a < s1.heap.objs.size := Heap.lt_size ho1
      refine enum_begins1 (begins_tuple a its.toArray) (show s1.heap.IsTuple a its.toArray from p') fun h' he hit hsz hk => wpAny_pyIter_enum he ?_
      have I2 : Inv X pins σ H1 { s1 with heap := h' } := I1.kept (t' := s1.toks) hk
      exact ⟨s1.heap.objs.size + 1, [s1.heap.objs.size + 1, s1.heap.objs.size], _, _, H1, rfl, I2, turn_enumT a (s1.heap.objs.size + 1) s1.heap.objs.size (Nat.ne_of_lt hal) (Nat.ne_of_lt (Nat.lt_succ_of_lt hal)), ⟨⟨.none, he⟩, ⟨_, hit, rfl, rfl⟩, Nat.succ_ne_self _⟩, fr, q⟩
/-! the readings -/
section
variable {X : Cx} {pos : Pos} {e : Expr} {es : List Expr} {te : TE'} {tA : TA'}
def iSeq' (t : TE') : TI' := fun σ L R => t σ L fun d L1 => match d with
  | .ref a => ∃ ds, HasL L1 a ds ∧ R ds (fun L => HasL L a ds) L1
  | .tup ds => R ds (fun _ => True) L1
  | _ => False
theorem pi_seq' {tg : Expr} (h : PE' X e te) : PI' X tg e (iSeq' te) := lI (pi_seqV h) fun σ H R ⟨σd, L, R', hs, hl, ht, k⟩ => ⟨σd, L, _, hs, hl, ht, fun d L1 v H1 h1 t1 r1 l1 => by
  cases r1 with
  | ref =>
    obtain ⟨ds, hh, q⟩ := (show ∃ ds, _ from h1)
    obtain ⟨vs, e, r⟩ := l1.seq hh
    exact ⟨_, rfl, .inl ⟨⟨vs, e⟩, k _ _ _ _ _ q itr_list t1 l1⟩⟩
  | tup s r => exact ⟨_, rfl, .inr ⟨⟨_, s⟩, k _ _ _ _ _ h1 (itr_tup s r) t1 l1⟩⟩
  | _ => exact (show False from h1).elim⟩
theorem itr_enumT {K : PySem.W.Frag} {H0 : Hp} {a : Addr} {ds : List D} {vs : List V} (s : SqT K H0 a vs) (r : DRs K H0 ds vs) : ItR K H0 (enumD ds) (fun _ => True) (IteT K a) where
  go := fun i L H t l st hi => by
    rw [enumD_length] at hi
    have : i < vs.length := by rw [← r.length]; exact hi
    exact ⟨vs, vs[i], t.1 _ _ s, List.getElem?_eq_getElem this⟩
  yld := fun i L H x H' d t l st hd hy => by
    obtain ⟨T, y, rfl, hT, rfl, hy⟩ := hy
    obtain ⟨de, h1, rfl⟩ := enumD_get hd
    obtain ⟨v, hv, rv⟩ := r.get h1
    have e2 : y = v := Option.some.inj ((hy vs (t.1 _ _ s)).symm.trans hv)
    subst e2
    exact ⟨TK.new hT, dr_newt hT (.cons .int (.cons (rv.mono t) .nil)), l.mono_new hT⟩
  stop := fun L H t l st => ⟨vs, t.1 _ _ s, by rw [enumD_length, r.length]; exact Nat.le_refl _⟩
def iEnumA' (t : TA') : TI' := fun σ L R => t σ L fun ds L1 => one ds fun d => match d with
  | .ref a => ∃ xs, HasL L1 a xs ∧ R (enumD xs) (fun L => HasL L a xs) L1
  | .tup xs => R (enumD xs) (fun _ => True) L1
  | _ => False
theorem pi_enumA' {p tpos : Pos} {elts : List Expr} {kk : Nat} (hg : Gl X "enumerate") (hm : X.mg "enumerate" = none) (ha : PA' X [e] tA) (hs : starEach [e] X.env = [(false, eval e X.env)] := by rfl) :
    PI' X (.Tuple elts kk tpos) (.Call (.Name "enumerate" p) [e] [] pos) (iEnumA' tA) :=
  lI (pi_enumV hg hm ha hs) fun σ H R ⟨σd, L, R', hs, hl, ht, k⟩ => ⟨σd, L, _, hs, hl, ht, fun ds L1 vs H1 h1 t1 r1 l1 => by
    obtain ⟨d, v, rfl, rfl, rd, q⟩ := one_dr r1 h1
    cases rd with
    | ref =>
      obtain ⟨xs, hh, q⟩ := (show ∃ xs, _ from q)
      obtain ⟨us, e, r⟩ := l1.seq hh
      exact ⟨_, us, rfl, .inl ⟨e, k _ _ _ _ _ q itr_enum t1 l1⟩⟩
    | tup s r => exact ⟨_, _, rfl, .inr ⟨s, k _ _ _ _ _ q (itr_enumT s r) t1 l1⟩⟩
    | _ => exact (show False from q).elim⟩
end
end DL

namespace DL
open PySem PySem.Spec PyProof.Rows L2
/-- the exceptions of the program -/
inductive XT where
  | keys | question | answer | answers | order | lengths | blocks | number | heap | nothing | notfin | rowch | large | mismatch | paused
deriving DecidableEq
def XT.name : XT → String
  | .keys => "InvalidKeys" | .question => "InvalidQuestion" | .answer => "InvalidAnswer" | .answers => "InvalidAnswers" | .order => "InvalidOrder" | .lengths => "InvalidLengths" | .blocks => "InvalidBlocks" | .number => "InvalidNumber" | .heap => "InvalidHeap"
  | .nothing => "NothingAsked" | .notfin => "NotFinished" | .rowch => "RowChanged" | .large => "TooLarge" | .mismatch => "Mismatch" | .paused => "Paused"
/-- where the classes stand -/
structure Cl where
  Honest : Addr
  Told : Addr
  Known : Addr
  Sorting : Addr
  Joiner : Addr
  Amid : Addr
  Heapifying : Addr
  Numbering : Addr
  Tally : Addr
  BlockSort : Addr
  Stack : Addr
  Sorter : Addr
  LessSort : Addr
  KeySort : Addr
  Line : Addr
  xa : XT → Addr := fun _ => 0
  sortE : Addr := 0
  xts : List XT := []
  tb : Str × Option Str → Addr := fun _ => 0
/-! ### stops of the walk -/
theorem Br.t {T F : Prop} (h : T) : Br true T F := ⟨fun _ => h, fun z => by cases z⟩
theorem Br.f {T F : Prop} (h : F) : Br false T F := ⟨fun z => by (cases z), fun _ => h⟩
theorem Br.dec {p : Prop} [Decidable p] {T F : Prop} (h : p → T) (k : ¬ p → F) : Br (decide p) T F := ⟨fun z => h (of_decide_eq_true z), fun z => k (of_decide_eq_false z)⟩
theorem Br.ndec {p : Prop} [Decidable p] {T F : Prop} (h : ¬ p → T) (k : p → F) : Br (!decide p) T F := by
  refine ⟨fun z => h ?_, fun z => k ?_⟩
  · simpa using z
  · simpa using z
theorem Br.not {b : Bool} {T F : Prop} (h : Br b F T) : Br (!b) T F := by
  cases b
  · exact ⟨fun _ => h.2 rfl, fun z => by cases z⟩
  · exact ⟨fun z => (by cases z), fun _ => h.1 rfl⟩
end DL

namespace DL
open PySem PySem.Spec PyProof.Rows L2
/-! ### small facts of readings -/
theorem cutD_nat {xs : List D} {a b : Int} (i j : Nat) (ha : a = i) (hb : b = j) (h1 : i ≤ j) (h2 : j ≤ xs.length) : cutD xs (some a) (some b) = (xs.drop i).take (j - i) := by
  subst ha hb
  unfold cutD
  rw [HT.sIx_nat, HT.sIx_nat, Nat.min_eq_left h2, Nat.min_eq_left (Nat.le_trans h1 h2)]
theorem cutD_from {xs : List D} {a : Int} (i : Nat) (ha : a = i) (h1 : i ≤ xs.length) : cutD xs (some a) none = xs.drop i := by
  subst ha
  unfold cutD
  rw [HT.sIx_nat, HT.sIx_none, Nat.min_eq_left h1, List.take_of_length_le (by simp)]
theorem cutD_to {xs : List D} {b : Int} (j : Nat) (hb : b = j) (h2 : j ≤ xs.length) : cutD xs none (some b) = xs.take j := by
  subst hb
  unfold cutD
  rw [HT.sIx_nat, HT.sIx_none, Nat.min_eq_left h2]
  simp
theorem cutD_toAny {xs : List D} {b : Int} (j : Nat) (hb : b = j) : cutD xs none (some b) = xs.take j := by
  subst hb
  unfold cutD
  rw [HT.sIx_nat, HT.sIx_none]
  simp only [List.drop_zero, Nat.sub_zero]
  rcases Nat.le_total j xs.length with h | h
  · rw [Nat.min_eq_left h]
  · rw [Nat.min_eq_right h, List.take_of_length_le (Nat.le_refl _), List.take_of_length_le h]
theorem cutD_all {xs : List D} : cutD xs none none = xs := by
  unfold cutD
  rw [HT.sIx_none, HT.sIx_none]
  simp
theorem cutD_len {xs : List D} {a b : Option Int} : (cutD xs a b).length ≤ xs.length := by
  unfold cutD
  rw [List.length_take, List.length_drop]
  omega
theorem atI_of {α : Type} {xs : List α} {i : Int} {v : α} (j : Nat) (e : i = j) (h : xs[j]? = some v) : atI xs i = some v := by
  subst e
  exact atI_nat h
def dn (i : Nat) : D := .int i
theorem atI_dn {row : List Nat} {i : Int} (j : Nat) (e : i = j) (h : j < row.length) : atI (row.map dn) i = some (dn (row.getD j 0)) := by
  refine atI_of j e ?_
  rw [List.getElem?_map, List.getElem?_eq_getElem h]
  simp [List.getD, List.getElem?_eq_getElem h]
theorem atI_int {row : List Int} {i : Int} (j : Nat) (e : i = j) (h : j < row.length) : atI (row.map D.int) i = some (.int (row.getD j 0)) := by
  refine atI_of j e ?_
  rw [List.getElem?_map, List.getElem?_eq_getElem h]
  simp [List.getD, List.getElem?_eq_getElem h]
theorem ixN_of {n : Nat} {i : Int} (j : Nat) (e : i = j) (h : j < n) : ixN n i = some j := by
  subst e
  unfold ixN
  rw [if_pos (by omega), if_pos (by omega)]
  simp
theorem atI_lastD {α : Type} {xs : List α} {v : α} (h : xs[xs.length - 1]? = some v) : atI xs (-1) = some v := by
  unfold atI ixN
  have : 0 < xs.length := by
    rcases Nat.eq_zero_or_pos xs.length with z | z
    · rw [List.length_eq_zero_iff.mp z] at h; cases h
    · exact z
  rw [if_neg (by omega), if_pos (by omega)]
  show xs[(-1 + (xs.length : Int)).toNat]? = _
  rw [show (-1 + (xs.length : Int)).toNat = xs.length - 1 by omega]
  exact h
theorem Br.dec_t {p : Prop} [Decidable p] {T F : Prop} (hp : p) (h : T) : Br (decide p) T F := .dec (fun _ => h) fun z => (z hp).elim
theorem Br.dec_f {p : Prop} [Decidable p] {T F : Prop} (hp : ¬ p) (h : F) : Br (decide p) T F := .dec (fun z => (hp z).elim) fun _ => h
theorem Ret.int {L L2 : LL} {Φ : DK} {i j : Int} (c : Cov L L2) (h : Φ (.int i) L2) (e : i = j) : Ret L (Φ (.int j)) := by
  subst e
  exact ⟨L2, c, h⟩
theorem Ret.bl {L L2 : LL} {Φ : DK} {i j : Bool} (c : Cov L L2) (h : Φ (.bl i) L2) (e : i = j) : Ret L (Φ (.bl j)) := by
  subst e
  exact ⟨L2, c, h⟩
theorem Ret.eq {L L2 : LL} {Φ : DK} {i j : D} (c : Cov L L2) (h : Φ i L2) (e : i = j) : Ret L (Φ j) := by
  subst e
  exact ⟨L2, c, h⟩
end DL

namespace DL
open PySem PySem.Spec PyProof.Rows L2
theorem Sel.chg {L L1 : LL} {a : Addr} {o : LO} (o' : LO) (s : Sel L a o L1) : ∃ L5, Chg L a o o' L5 ∧ Sel L5 a o' L1 := by
  induction s with
  | here => exact ⟨_, .here, .here⟩
  | there _ ih =>
    obtain ⟨L5, c, s⟩ := ih
    exact ⟨_, .there c, .there s⟩
theorem Cov.chg {L M : LL} {a : Addr} {o : LO} (o' : LO) (c : Cov L ((a, o) :: M)) : ∃ L5, Chg L a o o' L5 ∧ Cov L5 ((a, o') :: M) := by
  generalize e : (a, o) :: M = N at c
  induction c with
  | refl => subst e; exact ⟨_, .here, .refl⟩
  | drop _ ih =>
    obtain ⟨L5, c, s⟩ := ih e
    exact ⟨_, .there c, .drop s⟩
  | take s eq c _ =>
    cases e
    subst eq
    obtain ⟨L5, c5, s5⟩ := s.chg o'
    exact ⟨L5, c5, .take s5 rfl c⟩
/-- [te for g in items], each item by itself, the heap kept -/
theorem LcI.pure {α : Type} {items : List D} {st : LL → Prop} {g : TG'} {te : TE'} {vs : List Nat} {p : Addr} {σ : Sl} {L : LL} {Φ : DK} (xs : List α) (toD out : α → D) (hi : items = xs.map toD) (hs : ∀ acc, st ((p, .lst acc) :: L)) (hz : xs.length ≤ 1000000)
    (step : ∀ x ∈ xs, ∀ (acc : List D) (Ψ : DK), (∀ L', Cov L' ((p, .lst acc) :: L) → Ψ (out x) L') → g (toD x) (wipeD σ vs) ((p, .lst acc) :: L) fun σ2 L2 => te σ2 L2 Ψ) (done : Φ (.ref p) ((p, .lst (xs.map out)) :: L)) : LcI items st g tYes' te vs p σ L Φ := by
  subst hi
  refine LcI.inv (α := Unit) (fun i _ => (p, .lst ((xs.take i).map out)) :: L) (fun _ _ => True) () .refl trivial ?_ ?_
  · intro i u d hd _
    refine ⟨hs _, ?_⟩
    rw [List.getElem?_map] at hd
    obtain ⟨x, hx, rfl⟩ := Option.map_eq_some_iff.mp hd
    have hlt : i < xs.length := (List.getElem?_eq_some_iff.mp hx).1
    refine step x (List.mem_of_getElem? hx) _ _ fun L' c' => ?_
    obtain ⟨L5, c5, v5⟩ := c'.chg (.lst ((xs.take i).map out ++ [out x]))
    refine ⟨_, L5, c5, ?_, ?_⟩
    · rw [List.length_map, List.length_take]
      omega
    · refine NxL.mk () ?_ trivial
      have e : (xs.take i).map out ++ [out x] = (xs.take (i + 1)).map out := by
        rw [List.take_add_one, hx]
        simp
      rw [← e]
      exact v5
  · intro u _
    refine ⟨hs _, ?_⟩
    rw [List.length_map, List.take_length]
    exact done
theorem mulOk_r {i j : Int} (h1 : -(2 ^ 64) < j) (h2 : j < 2 ^ 64) : MulOk i j := .inl (.inr ⟨h1, h2⟩)
theorem mulOk_l {i j : Int} (h1 : -(2 ^ 64) < i) (h2 : i < 2 ^ 64) : MulOk i j := .inl (.inl ⟨h1, h2⟩)
theorem divOk_of {j : Int} (h1 : 0 < j) (h2 : j < 2 ^ 100) : DivOk j := by
  refine ⟨h1, ?_⟩
  have : j.natAbs.log2 < 100 := by
    have h3 : j.natAbs < 2 ^ 100 := by omega
    rcases Nat.eq_zero_or_pos j.natAbs with z | z
    · rw [z]; decide
    · exact (Nat.log2_lt (by omega)).mpr h3
  omega
theorem eqvAll_ints : ∀ xs ys : List Int, PyData.eqvAll (xs.map .int) (ys.map .int) = decide (xs = ys)
  | [], [] => by simp [PyData.eqvAll]
  | [], y :: ys => by simp [PyData.eqvAll]
  | x :: xs, [] => by simp [PyData.eqvAll]
  | x :: xs, y :: ys => by
    simp only [List.map_cons, PyData.eqvAll, PyData.eqv, eqvAll_ints xs ys]
    by_cases h : x = y
    · subst h; simp
    · simp [h]
theorem deepE.ints {a b : Addr} {L : LL} {xs ys : List Int} {k : Bool → Prop} (ha : HasL L a (xs.map .int)) (hb : HasL L b (ys.map .int)) (h : k (decide (xs = ys))) : deepE (.ref a) (.ref b) L k := by
  refine .mk (.list (xs.map .int)) (.list (ys.map .int)) (.lst ha (DpDs.ints xs)) (.lst hb (DpDs.ints ys)) ?_
  have e : PyData.eqv (.list (xs.map .int)) (.list (ys.map .int)) = decide (xs = ys) := by
    rw [PyData.eqv]
    exact eqvAll_ints xs ys
  rw [e]
  exact h
theorem deepE.tints {L : LL} {xs ys : List Int} {k : Bool → Prop} (h : k (decide (xs = ys))) : deepE (.tup (xs.map .int)) (.tup (ys.map .int)) L k := by
  refine .mk (.tuple (xs.map .int)) (.tuple (ys.map .int)) (.tup (DpDs.ints xs)) (.tup (DpDs.ints ys)) ?_
  have e : PyData.eqv (.tuple (xs.map .int)) (.tuple (ys.map .int)) = decide (xs = ys) := by
    rw [PyData.eqv]
    exact eqvAll_ints xs ys
  rw [e]
  exact h
/-! ### ends of a law -/
theorem fnOkF {P : Program} {w : World} {K : PySem.W.Frag} {mg : Str → Option Value} {base : Heap} {x qual : Str} {params : Arguments} {body : List Stmt} {scope : Scope} {dvs : List V} {kws : List (Str × V)} {f : Addr} {fd : FuncData} {ps : List Str} {k : Nat}
    (_F : FunD K x qual params body scope dvs kws f fd) : FnOk P w K mg base CX0 k f fd ps (liftC K fun _ _ _ => False) :=
  ⟨fun _ _ _ _ h => by obtain ⟨_, _, _, _, _, h, _⟩ := h; exact h.elim, fun _ _ _ _ _ _ _ _ _ _ _ _ _ h => by obtain ⟨_, _, _, _, _, h, _⟩ := h; exact h.elim⟩
theorem law_start {K : PySem.W.Frag} {H : Hp} {S : Sc} {a : Addr} {ns : List Int} {E : XK} (hO : Only H) (hS : SqL K H a (ns.map V.int)) (h : True → S [.ref a] ([(a, .ro (ns.map .int))]) [] fun d _ => d = .bl true) :
    liftC K (CtOf S) [.ref a] H (fun v _ => v = .bl true) E := by
  refine ⟨[.ref a], [(a, .ro (ns.map .int))], fun d _ => d = .bl true, .cons .ref .nil, ⟨fun p hp => ?_, by simp⟩, ⟨_, _, .cons .here rfl .nil, h trivial⟩, fun d L v H' e _ r _ => ?_⟩
  · simp only [List.mem_singleton] at hp
    subst hp
    refine ⟨ns.map V.int, ?_, DRs.ints ns⟩
    rcases hS with (hS | ⟨o, hS⟩) | hS
    · rcases hO a with e | ⟨o, xs, e⟩
      · rw [e] at hS; cases hS
      · rw [e] at hS; cases hS
    · exact .inl ⟨o, hS⟩
    · exact .inr hS
  · subst e
    cases r
    rfl
theorem kbn_plain {K : PySem.W.Frag} {x qual : Str} {params : Arguments} {body : List Stmt} {scope : Scope} {f : Addr} {fd : FuncData} {ps : List Str} {n : Nat} {ks : List Str} (F : FunD K x qual params body scope [] [] f fd)
    (h : ∀ (kV doc pm : Value) (an : Option Addr) (cdv ct : Value) (us ws : List Value), us.length = n → ws.length = ks.length → bindArgs (PySem.W.fnOf x qual params body scope .none kV doc pm an cdv ct) ⟨us, ks.zip ws⟩ = pure (ps.zip (us ++ ws))) :
    KBn K fd ps n ks (fun us ws => us ++ ws) fun vs zs => vs ++ zs := by
  obtain ⟨oc, od, dV, kV, doc, pm, an, cdv, ct, osl, rfl, lk, hcd, hD, hK⟩ := F.ex
  rcases hD with ⟨_, rfl⟩ | ⟨e, _⟩
  · exact ⟨fun s us ws _ l1 l2 => .of_eq (h kV doc pm an cdv ct us ws l1 l2), fun r1 r2 => r1.append r2⟩
  · exact absurd rfl e
end DL

/-! the program: mirrors and contracts of rows, placing, runs -/
namespace DL
open PySem PySem.Spec PyProof.Rows L2
abbrev Log := List (Nat × Nat × Bool)
def lgD (e : Nat × Nat × Bool) : D := .tup [.tup [.int e.1, .int e.2.1], .bl e.2.2]
def keyN (ms : List Int) (i : Nat) : Int := ms.getD i 0
def lessN (ms : List Int) (i j : Nat) : Bool := decide (keyN ms i < keyN ms j)
/-- an Honest asker -/
def honF (cl : Cl) (h mk la : Addr) (ms : List Int) (lg : Log) : LL := [(h, .ins cl.Honest [(0, .ref mk), (1, .ref la)]), (mk, .lst (ms.map .int)), (la, .lst (lg.map lgD))]
abbrev intsO (ms : List Int) : LO := .lst (ms.map .int)
abbrev rowO (row : List Nat) : LO := .lst (row.map dn)
def Row (ms : List Int) (row : List Nat) : Prop := ∀ x ∈ row, x < ms.length
/-! rows -/
/-- .. whose marks have something behind them that is never asked -/
def honG (cl : Cl) (h mk la : Addr) (ms : List Int) (x : List D) (lg : Log) : LL := [(h, .ins cl.Honest [(0, .ref mk), (1, .ref la)]), (mk, .lst (ms.map .int ++ x)), (la, .lst (lg.map lgD))]
theorem honG_nil (cl : Cl) (h mk la : Addr) (ms : List Int) (lg : Log) : honG cl h mk la ms [] lg = honF cl h mk la ms lg := by unfold honG honF; rw [List.append_nil]
/-- a list or a tuple of these -/
def seqG (d : D) (xs : List D) (F : LL) : Prop := (∃ q, d = .ref q ∧ F = [(q, .lst xs)]) ∨ (d = .tup xs ∧ F = [])
def S_Honest_init (cl : Cl) : Sc := fun ds F R Φ => ∃ (h : Addr) (d : D) (xs : List D) (Fq : LL), ds = [.ref h, d] ∧ F = (h, .ins cl.Honest []) :: Fq ∧ seqG d xs Fq ∧ ∀ mk la, Φ .non ([(h, .ins cl.Honest [(0, .ref mk), (1, .ref la)]), (mk, .lst xs), (la, .lst [])] ++ Fq ++ R)
def C_Honest___init__ (cl : Cl) : Ct := CtOf (S_Honest_init cl)
def S_less (cl : Cl) : Sc := fun ds F R Φ => ∃ (h mk la : Addr) (ms : List Int) (x : List D) (lg : Log) (i j : Nat), ds = [.ref h, .int i, .int j] ∧ F = honG cl h mk la ms x lg ∧ (i < ms.length ∧ j < ms.length ∧ lg.length ≤ 1000000) ∧
  Φ (.bl (lessN ms i j)) (honG cl h mk la ms x (lg ++ [(i, j, lessN ms i j)]) ++ R)
def C_Honest_less (cl : Cl) : Ct := CtOf (S_less cl)
def S_is_integer (cl : Cl) : Sc := fun ds F R Φ => ∃ i : Int, ds = [.int i] ∧ F = [] ∧ Φ (.bl true) R
def C_is_integer (cl : Cl) : Ct := CtOf (S_is_integer cl)
def S_is_between (cl : Cl) : Sc := fun ds F R Φ => ∃ i lo hi : Int, ds = [.int i, .int lo, .int hi] ∧ F = [] ∧ Φ (.bl (decide (lo ≤ i ∧ i ≤ hi))) R
def C_is_between (cl : Cl) : Ct := CtOf (S_is_between cl)
/-- a list or a tuple of ints -/
def seqF (d : D) (ms : List Int) (F : LL) : Prop := (∃ q, d = .ref q ∧ F = [(q, intsO ms)]) ∨ (d = .tup (ms.map .int) ∧ F = [])
def S_require_keys (cl : Cl) : Sc := fun ds F R Φ => ∃ (d : D) (ms : List Int) (most : Int), ds = [d, .int most] ∧ seqF d ms F ∧ (ms.length : Int) ≤ most ∧ Φ .non (F ++ R)
def C_require_keys (cl : Cl) : Ct := CtOf (S_require_keys cl)
def S_require_bool (cl : Cl) : Sc := fun ds F R Φ => ∃ (x : Str) (b : Bool), ds = [.str x, .bl b] ∧ F = [] ∧ Φ .non R
def C_require_bool (cl : Cl) : Ct := CtOf (S_require_bool cl)
/-! placing -/
def leastGo : Nat → Nat → Nat → Nat
  | 0, m, o => m + o
  | f + 1, m, o => if 64 ≤ m then leastGo f (m / 2) (if o = 0 then m % 2 else o) else m + o
def leastN (m : Nat) : Nat := leastGo m m 0
def S_least_of (cl : Cl) : Sc := fun ds F R Φ => ∃ m : Nat, ds = [.int m] ∧ F = [] ∧ Φ (.int (leastN m)) R
def C_least_of (cl : Cl) : Ct := CtOf (S_least_of cl)
/-! runs -/
def turnN (row : List Nat) (s e : Nat) : List Nat := row.take s ++ ((row.drop s).take (e - s)).reverse ++ row.drop e
def turnE (row : List Nat) (p q : Nat) : List Nat := if 0 < q then turnN row (p - q - 1) p else row
def S_turn_about (cl : Cl) : Sc := fun ds F R Φ => ∃ (r : Addr) (row : List Nat) (i j : Nat), ds = [.ref r, .int i, .int j] ∧ F = [(r, rowO row)] ∧ (i ≤ j ∧ j ≤ row.length ∧ row.length ≤ 100000) ∧ Φ .non ([(r, rowO (turnN row i j))] ++ R)
def C_turn_about (cl : Cl) : Ct := CtOf (S_turn_about cl)
def S_turn_equal (cl : Cl) : Sc := fun ds F R Φ => ∃ (r : Addr) (row : List Nat) (p q : Nat), ds = [.ref r, .int p, .int q] ∧ F = [(r, rowO row)] ∧ ((0 < q → q + 1 ≤ p) ∧ p ≤ row.length ∧ row.length ≤ 100000) ∧ Φ .non ([(r, rowO (turnE row p q))] ++ R)
def C_turn_equal (cl : Cl) : Ct := CtOf (S_turn_equal cl)
def rising (ms : List Int) (row : List Nat) (e : Nat) : Nat → Nat → Log → Nat × Log
  | 0, p, l => (p, l)
  | f + 1, p, l => if p < e then
      if lessN ms (row.getD p 0) (row.getD (p - 1) 0) then (p, l ++ [(row.getD p 0, row.getD (p - 1) 0, true)])
      else rising ms row e f (p + 1) (l ++ [(row.getD p 0, row.getD (p - 1) 0, false)])
    else (p, l)
def S_rising_end (cl : Cl) : Sc := fun ds F R Φ => ∃ (r h mk la : Addr) (row : List Nat) (ms : List Int) (lg : Log) (p e : Nat), ds = [.ref r, .int p, .int e, .ref h] ∧ F = (r, rowO row) :: honF cl h mk la ms lg ∧
  (1 ≤ p ∧ e ≤ row.length ∧ Row ms row ∧ (rising ms row e (e - p) p lg).2.length ≤ 1000000) ∧
  Φ (.int (rising ms row e (e - p) p lg).1) ((r, rowO row) :: honF cl h mk la ms (rising ms row e (e - p) p lg).2 ++ R)
def C_rising_end (cl : Cl) : Ct := CtOf (S_rising_end cl)
def falling (ms : List Int) (e : Nat) : Nat → Nat → Nat → List Nat → Log → Nat × List Nat × Log
  | 0, p, q, row, l => (p, turnE row p q, l)
  | f + 1, p, q, row, l => if p < e then
      if lessN ms (row.getD p 0) (row.getD (p - 1) 0) then falling ms e f (p + 1) 0 (turnE row p q) (l ++ [(row.getD p 0, row.getD (p - 1) 0, true)])
      else if lessN ms (row.getD (p - 1) 0) (row.getD p 0) then (p, turnE row p q, (l ++ [(row.getD p 0, row.getD (p - 1) 0, false)]) ++ [(row.getD (p - 1) 0, row.getD p 0, true)])
      else falling ms e f (p + 1) (q + 1) row ((l ++ [(row.getD p 0, row.getD (p - 1) 0, false)]) ++ [(row.getD (p - 1) 0, row.getD p 0, false)])
    else (p, turnE row p q, l)
def S_falling_end (cl : Cl) : Sc := fun ds F R Φ => ∃ (r h mk la : Addr) (row : List Nat) (ms : List Int) (lg : Log) (p e : Nat), ds = [.ref r, .int p, .int e, .ref h] ∧ F = (r, rowO row) :: honF cl h mk la ms lg ∧
  (1 ≤ p ∧ p ≤ row.length ∧ e ≤ row.length ∧ row.length ≤ 100000 ∧ Row ms row ∧ (falling ms e (e - p) p 0 row lg).2.2.length ≤ 1000000) ∧
  Φ (.int (falling ms e (e - p) p 0 row lg).1) ((r, rowO (falling ms e (e - p) p 0 row lg).2.1) :: honF cl h mk la ms (falling ms e (e - p) p 0 row lg).2.2 ++ R)
def C_falling_end (cl : Cl) : Ct := CtOf (S_falling_end cl)
/-- what find_run does once it has seen where the row ends to rise -/
def runOn (ms : List Int) (e s p : Nat) (row : List Nat) (l : Log) : Nat × List Nat × Log :=
  ((rising ms (turnN (falling ms e (e - (p + 1)) (p + 1) 0 row l).2.1 s (falling ms e (e - (p + 1)) (p + 1) 0 row l).1) e (e - (falling ms e (e - (p + 1)) (p + 1) 0 row l).1) (falling ms e (e - (p + 1)) (p + 1) 0 row l).1 (falling ms e (e - (p + 1)) (p + 1) 0 row l).2.2).1 - s,
   turnN (falling ms e (e - (p + 1)) (p + 1) 0 row l).2.1 s (falling ms e (e - (p + 1)) (p + 1) 0 row l).1,
   (rising ms (turnN (falling ms e (e - (p + 1)) (p + 1) 0 row l).2.1 s (falling ms e (e - (p + 1)) (p + 1) 0 row l).1) e (e - (falling ms e (e - (p + 1)) (p + 1) 0 row l).1) (falling ms e (e - (p + 1)) (p + 1) 0 row l).1 (falling ms e (e - (p + 1)) (p + 1) 0 row l).2.2).2)
def runAt (ms : List Int) (e s p : Nat) (row : List Nat) (l : Log) : Nat × List Nat × Log :=
  if p = e then (p - s, row, l)
  else if 1 < p - s then
    if lessN ms (row.getD s 0) (row.getD (p - 1) 0) then (p - s, row, l ++ [(row.getD s 0, row.getD (p - 1) 0, true)])
    else runOn ms e s p (turnN row s p) (l ++ [(row.getD s 0, row.getD (p - 1) 0, false)])
  else runOn ms e s p row l
def findRun (ms : List Int) (row : List Nat) (s e : Nat) (l : Log) : Nat × List Nat × Log :=
  runAt ms e s (rising ms row e (e - (s + 1)) (s + 1) l).1 row (rising ms row e (e - (s + 1)) (s + 1) l).2
def S_find_run (cl : Cl) : Sc := fun ds F R Φ => ∃ (r h mk la : Addr) (row : List Nat) (ms : List Int) (lg : Log) (s e : Nat), ds = [.ref r, .int s, .int e, .ref h] ∧ F = (r, rowO row) :: honF cl h mk la ms lg ∧
  (s < e ∧ e ≤ row.length ∧ row.length ≤ 100000 ∧ Row ms row ∧ (findRun ms row s e lg).2.2.length ≤ 1000000) ∧
  Φ (.int (findRun ms row s e lg).1) ((r, rowO (findRun ms row s e lg).2.1) :: honF cl h mk la ms (findRun ms row s e lg).2.2 ++ R)
def C_find_run (cl : Cl) : Ct := CtOf (S_find_run cl)
/-! facts of the mirrors -/
theorem turnN_length {row : List Nat} {i j : Nat} (h1 : i ≤ j) (h2 : j ≤ row.length) : (turnN row i j).length = row.length := by
  unfold turnN
  simp only [List.length_append, List.length_take, List.length_reverse, List.length_drop]
  omega
theorem turnN_mem {row : List Nat} {i j x : Nat} (h : x ∈ turnN row i j) : x ∈ row := by
  unfold turnN at h
  rcases List.mem_append.mp h with h | h
  · rcases List.mem_append.mp h with h | h
    · exact List.mem_of_mem_take h
    · exact List.mem_of_mem_drop (List.mem_of_mem_take (List.mem_reverse.mp h))
  · exact List.mem_of_mem_drop h
theorem Row.turn {ms : List Int} {row : List Nat} (h : Row ms row) (i j : Nat) : Row ms (turnN row i j) := fun x hx => h x (turnN_mem hx)
theorem Row.turnE {ms : List Int} {row : List Nat} (h : Row ms row) (p q : Nat) : Row ms (turnE row p q) := by
  unfold DL.turnE
  split
  · exact h.turn _ _
  · exact h
theorem turnE_length {row : List Nat} {p q : Nat} (h1 : p ≤ row.length) : (turnE row p q).length = row.length := by
  unfold turnE
  split
  · exact turnN_length (by omega) h1
  · rfl
theorem Row.get {ms : List Int} {row : List Nat} (h : Row ms row) {p : Nat} (hp : p < row.length) : row.getD p 0 < ms.length := by
  have : row.getD p 0 = row[p] := by simp [List.getD, List.getElem?_eq_getElem hp]
  rw [this]
  exact h _ (List.getElem_mem hp)
theorem rising_grow (ms : List Int) (row : List Nat) (e : Nat) : ∀ f p l, l.length ≤ (rising ms row e f p l).2.length
  | 0, p, l => Nat.le_refl _
  | f + 1, p, l => by
    unfold rising
    split
    · split
      · simp
      · have := rising_grow ms row e f (p + 1) (l ++ [(row.getD p 0, row.getD (p - 1) 0, false)])
        rw [List.length_append] at this
        simp at this ⊢
        omega
    · exact Nat.le_refl _
theorem rising_at (ms : List Int) (row : List Nat) (e : Nat) : ∀ f p l, p ≤ (rising ms row e f p l).1 ∧ (p ≤ e → (rising ms row e f p l).1 ≤ e)
  | 0, p, l => ⟨Nat.le_refl _, fun h => h⟩
  | f + 1, p, l => by
    unfold rising
    split
    · split
      · exact ⟨Nat.le_refl _, fun h => h⟩
      · have := rising_at ms row e f (p + 1) (l ++ [(row.getD p 0, row.getD (p - 1) 0, false)])
        exact ⟨by omega, fun h => this.2 (by omega)⟩
    · exact ⟨Nat.le_refl _, fun h => h⟩
theorem falling_grow (ms : List Int) (e : Nat) : ∀ f p q row l, l.length ≤ (falling ms e f p q row l).2.2.length
  | 0, p, q, row, l => Nat.le_refl _
  | f + 1, p, q, row, l => by
    unfold falling
    split
    · split
      · have := falling_grow ms e f (p + 1) 0 (turnE row p q) (l ++ [(row.getD p 0, row.getD (p - 1) 0, true)])
        rw [List.length_append] at this
        simp at this ⊢
        omega
      · split
        · simp
        · have := falling_grow ms e f (p + 1) (q + 1) row ((l ++ [(row.getD p 0, row.getD (p - 1) 0, false)]) ++ [(row.getD (p - 1) 0, row.getD p 0, false)])
          rw [List.length_append, List.length_append] at this
          simp at this ⊢
          omega
    · exact Nat.le_refl _
theorem falling_at (ms : List Int) (e : Nat) : ∀ f p q row l, p ≤ (falling ms e f p q row l).1 ∧ (p ≤ e → (falling ms e f p q row l).1 ≤ e)
  | 0, p, q, row, l => ⟨Nat.le_refl _, fun h => h⟩
  | f + 1, p, q, row, l => by
    unfold falling
    split
    · split
      · have := falling_at ms e f (p + 1) 0 (turnE row p q) (l ++ [(row.getD p 0, row.getD (p - 1) 0, true)])
        exact ⟨by omega, fun h => this.2 (by omega)⟩
      · split
        · exact ⟨Nat.le_refl _, fun h => h⟩
        · have := falling_at ms e f (p + 1) (q + 1) row ((l ++ [(row.getD p 0, row.getD (p - 1) 0, false)]) ++ [(row.getD (p - 1) 0, row.getD p 0, false)])
          exact ⟨by omega, fun h => this.2 (by omega)⟩
    · exact ⟨Nat.le_refl _, fun h => h⟩
theorem falling_row (ms : List Int) (e : Nat) : ∀ f p q row l, p ≤ row.length → e ≤ row.length → (falling ms e f p q row l).2.1.length = row.length
  | 0, p, q, row, l, h, _ => turnE_length h
  | f + 1, p, q, row, l, h, he => by
    unfold falling
    split
    · split
      · rw [falling_row ms e f (p + 1) 0 _ _ (by rw [turnE_length h]; omega) (by rw [turnE_length h]; omega), turnE_length h]
      · split
        · exact turnE_length h
        · exact falling_row ms e f (p + 1) (q + 1) _ _ (by omega) he
    · exact turnE_length h
theorem Row.falling {ms : List Int} (e : Nat) : ∀ f p q row l, Row ms row → Row ms (falling ms e f p q row l).2.1
  | 0, p, q, row, l, h => h.turnE _ _
  | f + 1, p, q, row, l, h => by
    unfold DL.falling
    split
    · split
      · exact Row.falling e f _ _ _ _ (h.turnE _ _)
      · split
        · exact h.turnE _ _
        · exact Row.falling e f _ _ _ _ h
    · exact h.turnE _ _
end DL

namespace DL
open PySem PySem.Spec PyProof.Rows L2

def t_Honest___init__ (cl : Cl) : TS' :=
  tAsg' (tTup' (tCons' (tCB' fList (tCons' (tVar' 1) (tNil'))) (tCons' (tLst' (tNil')) (tNil')))) (gTup' 2 (gCons' (gFld' cl.Honest 0 (tVar' 0)) (gCons' (gFld' cl.Honest 1 (tVar' 0)) (gNil'))))
-- self keys
def t_Honest_less (cl : Cl) : TS' :=
  tSeq' (tAsg' (tBin' fLt (tBin' fIx (tFld' cl.Honest 0 (tVar' 0)) (tVar' 1)) (tBin' fIx (tFld' cl.Honest 0 (tVar' 0)) (tVar' 2))) (gName' 3))
  (tSeq' (tDrop' (tLM' fAppend (tFld' cl.Honest 1 (tVar' 0)) (tCons' (tTup' (tCons' (tTup' (tCons' (tVar' 1) (tCons' (tVar' 2) (tNil')))) (tCons' (tVar' 3) (tNil')))) (tNil'))))
  (tRet' (tVar' 3)))
-- self one other is_less
def t_is_integer (cl : Cl) : TS' :=
  tRet' (tAndV' (tIsi' .it (tVar' 0)) (tNotV' (tIsi' .bl (tVar' 0))))
-- value
def t_is_between (cl : Cl) : TS' :=
  tRet' (tAndV' (tCall' (C_is_integer cl) [] (tCons' (tVar' 0) (tNil'))) (tChain' fLe fLe (tVar' 1) (tVar' 0) (tVar' 2)))
-- value low high
def t_require_keys (cl : Cl) : TS' :=
  tSeq' (tIfS' (tOr' (tNot' (tTru' (tIsi2' .ls .tp (tVar' 0)))) (tTst' (tBin' fGt (tCB' fLen (tCons' (tVar' 0) (tNil'))) (tVar' 1)))) (tNever') (tNext'))
  (tFor' (iEnumA' (tCons' (tVar' 0) (tNil'))) (gTup' 2 (gCons' (gName' 2) (gCons' (gName' 3) (gNil')))) (tIfS' (tNot' (tTru' (tCall' (C_is_integer cl) [] (tCons' (tVar' 3) (tNil'))))) (tNever') (tNext')))
-- keys most index key
def t_require_bool (cl : Cl) : TS' :=
  tIfS' (tNot' (tTru' (tIsi' .bl (tVar' 1)))) (tNever') (tNext')
-- name value
def t_least_of (cl : Cl) : TS' :=
  tSeq' (tAsg' (tC' (.int 0)) (gName' 1))
  (tSeq' (tWhile' (tTst' (tBin' fGe (tVar' 0) (tC' (.int 64)))) (tSeq' (tAsg' (tOrV' (tVar' 1) (tBin' fBand (tVar' 0) (tC' (.int 1)))) (gName' 1))
  (tAsg' (tBin' fShr (tVar' 0) (tC' (.int 1))) (gName' 0))))
  (tRet' (tBin' fAdd (tVar' 0) (tVar' 1))))
-- many is_odd
def t_turn_about (cl : Cl) : TS' :=
  tAsg' (tRevL' (tSl' (tVar' 0) (tPart' (tVar' 1)) (tPart' (tVar' 2)))) (gSlc' (tVar' 0) (tVar' 1) (tVar' 2))
-- row start end
def t_turn_equal (cl : Cl) : TS' :=
  tIfS' (tTst' (tBin' fGt (tVar' 2) (tC' (.int 0)))) (tDrop' (tCall' (C_turn_about cl) [] (tCons' (tVar' 0) (tCons' (tBin' fSub (tBin' fSub (tVar' 1) (tVar' 2)) (tC' (.int 1))) (tCons' (tVar' 1) (tNil')))))) (tNext')
-- row place equal
def t_rising_end (cl : Cl) : TS' :=
  tSeq' (tWhile' (tAnd' (tTst' (tBin' fLt (tVar' 1) (tVar' 2))) (tNot' (tTru' (tMeth' cl.Honest (C_Honest_less cl) [] (tVar' 3) (tCons' (tBin' fIx (tVar' 0) (tVar' 1)) (tCons' (tBin' fIx (tVar' 0) (tBin' fSub (tVar' 1) (tC' (.int 1)))) (tNil'))))))) (tAug' 1 (tC' (.int 1)) (fI fun i j => .int (i + j))))
  (tRet' (tVar' 1))
-- row place end asker
def t_falling_end (cl : Cl) : TS' :=
  tSeq' (tAsg' (tC' (.int 0)) (gName' 4))
  (tSeq' (tWhile' (tTst' (tBin' fLt (tVar' 1) (tVar' 2))) (tSeq' (tIfS' (tTru' (tMeth' cl.Honest (C_Honest_less cl) [] (tVar' 3) (tCons' (tBin' fIx (tVar' 0) (tVar' 1)) (tCons' (tBin' fIx (tVar' 0) (tBin' fSub (tVar' 1) (tC' (.int 1)))) (tNil'))))) (tSeq' (tDrop' (tCall' (C_turn_equal cl) [] (tCons' (tVar' 0) (tCons' (tVar' 1) (tCons' (tVar' 4) (tNil'))))))
  (tAsg' (tC' (.int 0)) (gName' 4))) (tIfS' (tTru' (tMeth' cl.Honest (C_Honest_less cl) [] (tVar' 3) (tCons' (tBin' fIx (tVar' 0) (tBin' fSub (tVar' 1) (tC' (.int 1)))) (tCons' (tBin' fIx (tVar' 0) (tVar' 1)) (tNil'))))) (tBreak') (tAug' 4 (tC' (.int 1)) (fI fun i j => .int (i + j)))))
  (tAug' 1 (tC' (.int 1)) (fI fun i j => .int (i + j)))))
  (tSeq' (tDrop' (tCall' (C_turn_equal cl) [] (tCons' (tVar' 0) (tCons' (tVar' 1) (tCons' (tVar' 4) (tNil'))))))
  (tRet' (tVar' 1))))
-- row place end asker equal
def t_find_run (cl : Cl) : TS' :=
  tSeq' (tAsg' (tCall' (C_rising_end cl) [] (tCons' (tVar' 0) (tCons' (tBin' fAdd (tVar' 1) (tC' (.int 1))) (tCons' (tVar' 2) (tCons' (tVar' 3) (tNil')))))) (gName' 4))
  (tSeq' (tIfS' (tTst' (tBin' fEq (tVar' 4) (tVar' 2))) (tRet' (tBin' fSub (tVar' 4) (tVar' 1))) (tNext'))
  (tSeq' (tIfS' (tTst' (tBin' fGt (tBin' fSub (tVar' 4) (tVar' 1)) (tC' (.int 1)))) (tSeq' (tIfS' (tTru' (tMeth' cl.Honest (C_Honest_less cl) [] (tVar' 3) (tCons' (tBin' fIx (tVar' 0) (tVar' 1)) (tCons' (tBin' fIx (tVar' 0) (tBin' fSub (tVar' 4) (tC' (.int 1)))) (tNil'))))) (tRet' (tBin' fSub (tVar' 4) (tVar' 1))) (tNext'))
  (tDrop' (tCall' (C_turn_about cl) [] (tCons' (tVar' 0) (tCons' (tVar' 1) (tCons' (tVar' 4) (tNil'))))))) (tNext'))
  (tSeq' (tAsg' (tCall' (C_falling_end cl) [] (tCons' (tVar' 0) (tCons' (tBin' fAdd (tVar' 4) (tC' (.int 1))) (tCons' (tVar' 2) (tCons' (tVar' 3) (tNil')))))) (gName' 4))
  (tSeq' (tDrop' (tCall' (C_turn_about cl) [] (tCons' (tVar' 0) (tCons' (tVar' 1) (tCons' (tVar' 4) (tNil'))))))
  (tRet' (tBin' fSub (tCall' (C_rising_end cl) [] (tCons' (tVar' 0) (tCons' (tVar' 4) (tCons' (tVar' 2) (tCons' (tVar' 3) (tNil')))))) (tVar' 1)))))))
-- row start end asker place
end DL

namespace DL
open PySem PySem.Spec PyProof.Rows L2
local macro_rules | `(tactic| walk_at "has") => `(tactic| first | exact Has.here | (apply Has.there; walk_at "has"))
local macro_rules | `(tactic| walk_at "hasl") => `(tactic| first | (refine Or.inl ?_; walk_at "has") | (refine Or.inr ?_; walk_at "has"))
local macro_rules | `(tactic| walk_at "sel") => `(tactic| first | exact Sel.here | (apply Sel.there; walk_at "sel"))
local macro_rules | `(tactic| walk_at "chg") => `(tactic| first | exact Chg.here | (apply Chg.there; walk_at "chg"))
local macro_rules | `(tactic| walk_at "pull") => `(tactic| first | exact Pull.nil | (apply Pull.cons; (walk_at "sel"); exact rfl; walk_at "pull"))
local macro_rules | `(tactic| walk_at "cov") => `(tactic| first | exact Cov.refl | (apply Cov.take; (walk_at "sel"); (first | exact rfl | assumption); walk_at "cov") | (apply Cov.take; (walk_at "sel"); rotate_left; walk_at "cov") | (refine Cov.drop ?_; walk_at "cov"))
local macro_rules | `(tactic| walk_at "sub") => `(tactic| first | exact Sub.nil | (refine Sub.same (by first | rfl | assumption) ?_; walk_at "sub") | (refine Sub.any ?_; walk_at "sub") | (refine Sub.same ?_ ?_; rotate_left; walk_at "sub"))
local macro_rules | `(tactic| walk_at "side") => `(tactic| first | assumption | (with_reducible rfl) | omega | (refine mulOk_r ?_ ?_ <;> first | omega | decide) | (refine mulOk_l ?_ ?_ <;> first | omega | decide) | (refine divOk_of ?_ ?_ <;> first | omega | decide) | (refine ⟨?_, ?_⟩ <;> walk_at "side") | exact Eq.refl _ | (simp <;> omega) | decide)
local macro_rules | `(tactic| walk_at "kn") => `(tactic| first | assumption | decide | rfl)
local macro_rules | `(tactic| walk_at "br") => `(tactic| first | (with_reducible first | refine Br.t ?_ | refine Br.f ?_) | ((with_reducible refine Br.dec_t ?_ ?_); focus walk_at "kn") | ((with_reducible refine Br.dec_f ?_ ?_); focus walk_at "kn") | ((with_reducible refine Br.ndec_t ?_ ?_); focus walk_at "kn") | ((with_reducible refine Br.ndec_f ?_ ?_); focus walk_at "kn") | (with_reducible first | (refine Br.dec ?_ ?_ <;> intro _) | (refine Br.ndec ?_ ?_ <;> intro _)) | refine Br.t ?_ | refine Br.f ?_ | (with_reducible refine Br.mk ?_ ?_ <;> intro _))
local macro_rules | `(tactic| walk_at "st") => `(tactic| ((try (conv => whnf)); first
  | walk_at "br"
  | with_reducible (intro _)
  | (refine ⟨_, (by walk_at "has" : Has _ _ _), ?_⟩)
  | (refine ⟨_, (by walk_at "hasl" : HasL _ _ _), ?_⟩)
  | (refine ⟨_, _, (by walk_at "chg" : Chg _ _ _ _ _), ?_⟩)
  | (refine ⟨_, _, _, (by walk_at "chg" : Chg _ _ _ _ _), (by first | rfl | assumption : ixN _ _ = some _), ?_⟩)
  | (refine ⟨_, _, (by walk_at "sel" : Sel _ _ _ _), ?_⟩)
  | (refine ⟨_, _, _, (by walk_at "has" : Has _ _ _), (by assumption), ?_⟩)
  | (refine ⟨_, (by first | rfl | assumption : atI _ _ = some _), ?_⟩)
  | (refine And.intro (by walk_at "side") ?_)))
local macro_rules | `(tactic| walk_at "st2") => `(tactic| first | walk_at "st" | ((try (conv => whnf)); with_reducible refine And.intro ?_ ?_; rotate_left))
local macro_rules | `(tactic| walk_at "go") => `(tactic| first | ((try (conv => whnf)); walk_at "br" <;> walk_at "go") | (walk_at "st"; walk_at "go") | (conv => whnf) | skip)
/-! calls -/
theorem call_less {cl : Cl} {L R : LL} {Φ : DK} {h mk la : Addr} {ms : List Int} {lg : Log} {a b : Int} (i j : Nat) (p : Pull L (honF cl h mk la ms lg) R) (ei : a = i) (ej : b = j) (h1 : i < ms.length) (h2 : j < ms.length) (h3 : lg.length ≤ 1000000)
    (k : Φ (.bl (lessN ms i j)) (honF cl h mk la ms (lg ++ [(i, j, lessN ms i j)]) ++ R)) : CtOf (S_less cl) [.ref h, .int a, .int b] L Φ := by
  subst ei ej
  rw [← honG_nil] at p k
  exact ⟨_, _, p, h, mk, la, ms, [], lg, i, j, rfl, rfl, ⟨h1, h2, h3⟩, k⟩
theorem call_turn_about {cl : Cl} {L R : LL} {Φ : DK} {r : Addr} {row : List Nat} {a b : Int} (i j : Nat) (p : Pull L [(r, rowO row)] R) (ei : a = i) (ej : b = j) (h1 : i ≤ j) (h2 : j ≤ row.length) (h3 : row.length ≤ 100000)
    (k : Φ .non ([(r, rowO (turnN row i j))] ++ R)) : CtOf (S_turn_about cl) [.ref r, .int a, .int b] L Φ := by
  subst ei ej
  exact ⟨_, _, p, r, row, i, j, rfl, rfl, ⟨h1, h2, h3⟩, k⟩
theorem call_turn_equal {cl : Cl} {L R : LL} {Φ : DK} {r : Addr} {row : List Nat} {a b : Int} (i j : Nat) (p : Pull L [(r, rowO row)] R) (ei : a = i) (ej : b = j) (h1 : 0 < j → j + 1 ≤ i) (h2 : i ≤ row.length) (h3 : row.length ≤ 100000)
    (k : Φ .non ([(r, rowO (turnE row i j))] ++ R)) : CtOf (S_turn_equal cl) [.ref r, .int a, .int b] L Φ := by
  subst ei ej
  exact ⟨_, _, p, r, row, i, j, rfl, rfl, ⟨h1, h2, h3⟩, k⟩
/-! readings -/
theorem rd_Honest_init (cl : Cl) (ds : List D) (F R : LL) (Φ : DK) (h : S_Honest_init cl ds F R Φ) : t_Honest___init__ cl (endD Φ) (startD 2 ds) (F ++ R) := by
  obtain ⟨a, d, xs, Fq, rfl, rfl, hd, h⟩ := h
  rcases hd with ⟨q, rfl, rfl⟩ | ⟨rfl, rfl⟩
  · walk_at "go"
    rename_i mk la
    refine Ret.mk _ ?_ (h mk la)
    walk_at "cov"
  · walk_at "go"
    rename_i mk la
    refine Ret.mk _ ?_ (h mk la)
    walk_at "cov"
theorem atI_intx {row : List Int} {x : List D} {i : Int} (j : Nat) (e : i = j) (h : j < row.length) : atI (row.map D.int ++ x) i = some (.int (row.getD j 0)) := by
  refine atI_of j e ?_
  rw [List.getElem?_append_left (by simpa using h), List.getElem?_map, List.getElem?_eq_getElem h]
  simp [List.getD, List.getElem?_eq_getElem h]
theorem rd_less (cl : Cl) (ds : List D) (F R : LL) (Φ : DK) (h : S_less cl ds F R Φ) : t_Honest_less cl (endD Φ) (startD 4 ds) (F ++ R) := by
  obtain ⟨a, mk, la, ms, x, lg, i, j, rfl, rfl, ⟨h1, h2, h3⟩, h⟩ := h
  walk_at "go"
  refine ⟨_, atI_intx i rfl h1, ?_⟩
  walk_at "go"
  refine ⟨_, atI_intx j rfl h2, ?_⟩
  walk_at "go"
  refine Ret.mk _ ?_ h
  walk_at "cov"
  simp [lgD, lessN, keyN]
theorem rd_is_integer (cl : Cl) (ds : List D) (F R : LL) (Φ : DK) (h : S_is_integer cl ds F R Φ) : t_is_integer cl (endD Φ) (startD 1 ds) (F ++ R) := by
  obtain ⟨i, rfl, rfl, h⟩ := h
  walk_at "go"
  exact Ret.mk _ .refl h
theorem rd_is_between (cl : Cl) (ds : List D) (F R : LL) (Φ : DK) (h : S_is_between cl ds F R Φ) : t_is_between cl (endD Φ) (startD 3 ds) (F ++ R) := by
  obtain ⟨i, lo, hi, rfl, rfl, h⟩ := h
  walk_at "go"
  refine CtOf.mk [] _ .nil ⟨_, rfl, rfl, ?_⟩
  walk_at "go"
  · refine Ret.mk _ .refl ?_
    simpa [*] using h
  · refine Ret.mk _ .refl ?_
    have e : decide (lo ≤ i ∧ i ≤ hi) = false := by simp [*]
    rw [e] at h
    exact h
theorem rd_require_keys (cl : Cl) (ds : List D) (F R : LL) (Φ : DK) (h : S_require_keys cl ds F R Φ) : t_require_keys cl (endD Φ) (startD 4 ds) (F ++ R) := by
  obtain ⟨d, ms, most, rfl, hd, hm, h⟩ := h
  rcases hd with ⟨q, rfl, rfl⟩ | ⟨rfl, rfl⟩
  · walk_at "go"
    · rename_i z
      simp at z
      omega
    refine ForI.inv (α := Unit) (fun _ _ => [some (.ref q), some (.int most), none, none]) (fun _ _ => [(q, intsO ms)] ++ R) (fun _ _ => True) () (by walk_at "sub") .refl trivial ?_ ?_
    · intro i x d hd _
      obtain ⟨e, he, rfl⟩ := enumD_get hd
      rw [List.getElem?_map] at he
      obtain ⟨k, _, rfl⟩ := Option.map_eq_some_iff.mp he
      refine ⟨by walk_at "hasl", ?_⟩
      walk_at "go"
      refine CtOf.mk [] _ .nil ⟨_, rfl, rfl, ?_⟩
      walk_at "go"
      exact Nx1.mk () (by walk_at "sub") .refl trivial
    · intro x _
      refine ⟨by walk_at "hasl", ?_⟩
      exact Ret.mk _ .refl h
  · walk_at "go"
    · rename_i z
      simp at z
      omega
    refine ForI.inv (α := Unit) (fun _ _ => [some (.tup (ms.map .int)), some (.int most), none, none]) (fun _ _ => [] ++ R) (fun _ _ => True) () (by walk_at "sub") .refl trivial ?_ ?_
    · intro i x d hd _
      obtain ⟨e, he, rfl⟩ := enumD_get hd
      rw [List.getElem?_map] at he
      obtain ⟨k, _, rfl⟩ := Option.map_eq_some_iff.mp he
      refine ⟨trivial, ?_⟩
      walk_at "go"
      refine CtOf.mk [] _ .nil ⟨_, rfl, rfl, ?_⟩
      walk_at "go"
      exact Nx1.mk () (by walk_at "sub") .refl trivial
    · intro x _
      refine ⟨trivial, ?_⟩
      exact Ret.mk _ .refl h
theorem rd_require_bool (cl : Cl) (ds : List D) (F R : LL) (Φ : DK) (h : S_require_bool cl ds F R Φ) : t_require_bool cl (endD Φ) (startD 2 ds) (F ++ R) := by
  obtain ⟨x, b, rfl, rfl, h⟩ := h
  walk_at "go"
  exact Ret.mk _ .refl h
theorem rd_turn_about (cl : Cl) (ds : List D) (F R : LL) (Φ : DK) (h : S_turn_about cl ds F R Φ) : t_turn_about cl (endD Φ) (startD 3 ds) (F ++ R) := by
  obtain ⟨r, row, i, j, rfl, rfl, ⟨h1, h2, h3⟩, h⟩ := h
  walk_at "go"
  have e : cutD (row.map dn) (some (i : Int)) (some (j : Int)) = ((row.map dn).drop i).take (j - i) := cutD_nat i j rfl rfl h1 (by simpa using h2)
  rw [e]
  refine ⟨?_, ?_⟩
  · simp
    omega
  refine Ret.mk _ ?_ h
  walk_at "cov"
  simp [turnN]
theorem rd_turn_equal (cl : Cl) (ds : List D) (F R : LL) (Φ : DK) (h : S_turn_equal cl ds F R Φ) : t_turn_equal cl (endD Φ) (startD 3 ds) (F ++ R) := by
  obtain ⟨r, row, p, q, rfl, rfl, ⟨h1, h2, h3⟩, h⟩ := h
  walk_at "go"
  · refine call_turn_about (p - q - 1) p (by walk_at "pull") (by omega) rfl (by omega) h2 h3 ?_
    walk_at "go"
    refine Ret.mk _ .refl ?_
    unfold turnE at h
    rw [if_pos (by omega)] at h
    exact h
  · refine Ret.mk _ .refl ?_
    unfold turnE at h
    rw [if_neg (by omega)] at h
    exact h
theorem bitAnd_one (m : Nat) : Builtin.bitAnd (m : Int) 1 = ((m % 2 : Nat) : Int) := by
  rw [bitAnd_pp (by omega) (by decide), Int.toNat_natCast]
  show ((m &&& 1 : Nat) : Int) = _
  rw [Nat.and_one_is_mod]
theorem rd_least_of (cl : Cl) (ds : List D) (F R : LL) (Φ : DK) (h : S_least_of cl ds F R Φ) : t_least_of cl (endD Φ) (startD 2 ds) (F ++ R) := by
  obtain ⟨m0, rfl, rfl, h⟩ := h
  walk_at "go"
  refine WhileI.inv (α := Nat × Nat × Nat) (fun x => [some (.int x.2.1), some (.int x.2.2)]) (fun _ => R) (fun x => leastGo x.1 x.2.1 x.2.2 = leastN m0 ∧ x.2.1 ≤ x.1) (fun x => x.2.1) (m0, m0, 0) (by walk_at "sub") .refl ⟨rfl, Nat.le_refl _⟩ ?_
  rintro ⟨f, m, o⟩ ⟨h1, h2⟩
  dsimp only at h1 h2 ⊢
  have hf : 64 ≤ m → ∃ f', f = f' + 1 := fun z => ⟨f - 1, by omega⟩
  walk_at "go"
  · rename_i g1 g2
    obtain ⟨f', rfl⟩ := hf (by omega)
    unfold leastGo at h1
    have g3 : o ≠ 0 := by simpa using g2
    rw [if_pos (by omega), if_neg g3] at h1
    refine Nxt.mk (f', m / 2, o) ?_ .refl ⟨h1, by dsimp only; omega⟩ (by show m / 2 < m; omega)
    walk_at "sub"
  · rename_i g1 g2
    obtain ⟨f', rfl⟩ := hf (by omega)
    unfold leastGo at h1
    have g3 : o = 0 := by simpa using g2
    rw [if_pos (by omega), if_pos g3] at h1
    refine Nxt.mk (f', m / 2, m % 2) ?_ .refl ⟨h1, by dsimp only; omega⟩ (by show m / 2 < m; omega)
    walk_at "sub"
    simpa using bitAnd_one m
  · rename_i g1
    refine Ret.mk _ .refl ?_
    rw [← h1] at h
    cases f with
    | zero =>
      have : m = 0 := by omega
      unfold leastGo at h
      simpa using h
    | succ f =>
      unfold leastGo at h
      rw [if_neg (by omega)] at h
      simpa using h
theorem rd_rising_end (cl : Cl) (ds : List D) (F R : LL) (Φ : DK) (h : S_rising_end cl ds F R Φ) : t_rising_end cl (endD Φ) (startD 4 ds) (F ++ R) := by
  obtain ⟨r, a, mk, la, row, ms, lg0, p0, e, rfl, rfl, ⟨h1, h2, h3, h4⟩, h⟩ := h
  walk_at "go"
  generalize he : rising ms row e (e - p0) p0 lg0 = res at h h4
  refine WhileI.inv (α := Nat × Log) (fun x => [some (.ref r), some (.int x.1), some (.int e), some (.ref a)]) (fun x => (r, rowO row) :: honF cl a mk la ms x.2 ++ R) (fun x => 1 ≤ x.1 ∧ rising ms row e (e - x.1) x.1 x.2 = res) (fun x => e - x.1) (p0, lg0) (by walk_at "sub") .refl ⟨h1, he⟩ ?_
  rintro ⟨p, lg⟩ ⟨g1, g2⟩
  dsimp only at g1 g2 ⊢
  have gl := rising_grow ms row e (e - p) p lg
  rw [g2] at gl
  walk_at "go"
  · rename_i hp
    refine ⟨_, atI_dn p rfl (by omega), ?_⟩
    walk_at "go"
    refine ⟨_, atI_dn (p - 1) (by omega) (by omega), ?_⟩
    walk_at "go"
    have ef : e - p = (e - (p + 1)) + 1 := by omega
    rw [ef] at g2
    unfold rising at g2
    rw [if_pos (by omega)] at g2
    refine call_less _ _ (by walk_at "pull") rfl rfl (h3.get (by omega)) (h3.get (by omega)) (by omega) ?_
    cases hl : lessN ms (row.getD p 0) (row.getD (p - 1) 0) with
    | true =>
      rw [hl, if_pos rfl] at g2
      walk_at "go"
      rw [← g2] at h
      refine Ret.mk _ ?_ h
      walk_at "cov"
    | false =>
      rw [hl, if_neg Bool.false_ne_true] at g2
      walk_at "go"
      refine Nxt.mk (p + 1, _) (by walk_at "sub") ?_ ⟨by omega, g2⟩ (by show e - (p + 1) < e - p; omega)
      walk_at "cov"
  · rename_i hp
    rw [← g2, show e - p = 0 by omega] at h
    refine Ret.mk _ ?_ h
    walk_at "cov"
end DL

/-! in, not in over flat items; sorted of ints; a conditional expression as a test -/
namespace DL
open PySem PySem.Spec PyProof.Rows L2
section
variable {X : Cx} {K : PySem.W.Frag} {pos : Pos} {e a b c : Expr} {es : List Expr} {te ta tb : TE'}
def flatD : D → Bool
  | .non => true
  | .bl _ => true
  | .int _ => true
  | .str _ => true
  | _ => false
def dv : D → V
  | .non => .non
  | .bl x => .bl x
  | .int i => .int i
  | .str x => .str x
  | _ => .non
theorem flat_dv {H : Hp} {d : D} {v : V} (r : DR K H d v) (f : flatD d = true) : v = dv d ∧ flatV v = true := by
  cases r <;> first | exact ⟨rfl, rfl⟩ | cases f
theorem flats_dv {H : Hp} : ∀ {ds : List D} {vs : List V}, DRs K H ds vs → ds.all flatD = true → vs = ds.map dv ∧ vs.all flatV = true
  | _, _, .nil, _ => ⟨rfl, rfl⟩
  | _, _, .cons r t, f => by
    rw [List.all_cons, Bool.and_eq_true] at f
    obtain ⟨e1, e2⟩ := flat_dv r f.1
    obtain ⟨e3, e4⟩ := flats_dv t f.2
    subst e1 e3
    exact ⟨rfl, by rw [List.all_cons, e2, e4]; rfl⟩
def inD (x : D) (ds : List D) : Bool := inV (dv x) (ds.map dv)
def fIn : F2 := fun x y L Φ => starD y L fun ds => (flatD x = true ∧ ds.all flatD = true) ∧ Φ (.bl (inD x ds)) L
def fNotIn : F2 := fun x y L Φ => starD y L fun ds => (flatD x = true ∧ ds.all flatD = true) ∧ Φ (.bl (!inD x ds)) L
theorem od_in : OpD K fIn (rIn K false) := fun d1 d2 x y L H Φ Q r1 r2 l h k => by
  cases r2 with
  | ref =>
    obtain ⟨ds, hh, ⟨f1, f2⟩, q⟩ := (show ∃ ds, _ from h)
    obtain ⟨vs, e, r⟩ := l.seq hh
    obtain ⟨e1, e2⟩ := flat_dv r1 f1
    obtain ⟨e3, e4⟩ := flats_dv r f2
    subst e1 e3
    exact ⟨_, _, rfl, .inl e, e2, e4, k _ _ _ _ q .refl .bl l⟩
  | tup s t =>
    obtain ⟨⟨f1, f2⟩, q⟩ := (show _ ∧ _ from h)
    obtain ⟨e1, e2⟩ := flat_dv r1 f1
    obtain ⟨e3, e4⟩ := flats_dv t f2
    subst e1 e3
    exact ⟨_, _, rfl, .inr s, e2, e4, k _ _ _ _ q .refl .bl l⟩
  | _ => exact (show False from h).elim
theorem od_notin : OpD K fNotIn (rIn K true) := fun d1 d2 x y L H Φ Q r1 r2 l h k => by
  cases r2 with
  | ref =>
    obtain ⟨ds, hh, ⟨f1, f2⟩, q⟩ := (show ∃ ds, _ from h)
    obtain ⟨vs, e, r⟩ := l.seq hh
    obtain ⟨e1, e2⟩ := flat_dv r1 f1
    obtain ⟨e3, e4⟩ := flats_dv r f2
    subst e1 e3
    exact ⟨_, _, rfl, .inl e, e2, e4, k _ _ _ _ q .refl .bl l⟩
  | tup s t =>
    obtain ⟨⟨f1, f2⟩, q⟩ := (show _ ∧ _ from h)
    obtain ⟨e1, e2⟩ := flat_dv r1 f1
    obtain ⟨e3, e4⟩ := flats_dv t f2
    subst e1 e3
    exact ⟨_, _, rfl, .inr s, e2, e4, k _ _ _ _ q .refl .bl l⟩
  | _ => exact (show False from h).elim
/-! sorted of ints -/
def fSorted : FA := fun ds L Φ => one ds fun d => intsL d L fun ns => ∀ (ns' : List Int) (p : Addr), ns'.Perm ns → ns'.Pairwise (· ≤ ·) → Φ (.ref p) ((p, .lst (ns'.map .int)) :: L)
theorem cd_sorted : CD K fSorted (rSortedI K) := fun ds vs L H Φ Q r l h k => by
  obtain ⟨d, v, rfl, rfl, rd, q⟩ := one_dr r h
  obtain ⟨a, ns, rfl, e, q⟩ := intsL_dr rd l q
  exact ⟨a, ns, rfl, e, fun ns' p h1 h2 hp => k _ _ _ _ (q ns' p h1 h2) (TK.new hp) .ref (l.newl hp (DRs.ints ns'))⟩
/-! a if t else b, as a test -/
def tIfT (t ta tb : TT) : TT := fun σ H Q => t σ H fun c H1 => if c = true then ta σ H1 Q else tb σ H1 Q
theorem pt_ifExpV {t ta tb : TT} (hc : PT X c t) (ha : PT X a ta) (hb : PT X b tb) : PT X (.IfExp c a b pos) (tIfT t ta tb) := by
  refine ⟨fun pins s σ H Q I h => ?_⟩
  refine isTrue_IfExp (thn (hc.run pins s σ H _ I h) fun d s1 ⟨H1, I1, q1⟩ => ?_)
  cases d with
  | true => exact ha.run pins s1 σ H1 Q I1 q1
  | false => exact hb.run pins s1 σ H1 Q I1 q1
def tIfT' (t u v : TT') : TT' := fun σ L T F => t σ L (fun L1 => u σ L1 T F) (fun L1 => v σ L1 T F)
theorem pt_ifExp' {t ta tb : TT'} (hc : PT' X c t) (ha : PT' X a ta) (hb : PT' X b tb) : PT' X (.IfExp c a b pos) (tIfT' t ta tb) :=
  lT (pt_ifExpV hc ha hb) fun σ H Q ⟨σd, L, T, F, hs, hl, ht, k⟩ => ⟨σd, L, _, _, hs, hl, ht, fun L1 H1 q t l => iteT ⟨σd, L1, T, F, hs.mono t, l, q, fun L2 H2 q2 t2 l2 => k.1 _ _ q2 (t.trans t2) l2, fun L2 H2 q2 t2 l2 => k.2 _ _ q2 (t.trans t2) l2⟩,
    fun L1 H1 q t l => iteF ⟨σd, L1, T, F, hs.mono t, l, q, fun L2 H2 q2 t2 l2 => k.1 _ _ q2 (t.trans t2) l2, fun L2 H2 q2 t2 l2 => k.2 _ _ q2 (t.trans t2) l2⟩⟩
end
/-- [te for g in items if tt], each item by itself, the heap kept: out x none: the test fails -/
theorem LcI.sel {α : Type} {items : List D} {st : LL → Prop} {g : TG'} {tt : TT'} {te : TE'} {vs : List Nat} {p : Addr} {σ : Sl} {L : LL} {Φ : DK} (xs : List α) (toD : α → D) (out : α → Option D) (hi : items = xs.map toD) (hs : ∀ acc, st ((p, .lst acc) :: L)) (hz : xs.length ≤ 1000000)
    (step : ∀ x ∈ xs, ∀ (acc : List D) (Ψ : DK) (Z : LL → Prop), (∀ L', Cov L' ((p, .lst acc) :: L) → match out x with
      | some d => Ψ d L'
      | none => Z L') → g (toD x) (wipeD σ vs) ((p, .lst acc) :: L) fun σ2 L2 => tt σ2 L2 (fun L3 => te σ2 L3 Ψ) Z) (done : Φ (.ref p) ((p, .lst (xs.filterMap out)) :: L)) : LcI items st g tt te vs p σ L Φ := by
  subst hi
  refine LcI.inv (α := Unit) (fun i _ => (p, .lst ((xs.take i).filterMap out)) :: L) (fun _ _ => True) () .refl trivial ?_ ?_
  · intro i u d hd _
    refine ⟨hs _, ?_⟩
    rw [List.getElem?_map] at hd
    obtain ⟨x, hx, rfl⟩ := Option.map_eq_some_iff.mp hd
    have hlt : i < xs.length := (List.getElem?_eq_some_iff.mp hx).1
    refine step x (List.mem_of_getElem? hx) _ _ _ fun L' c' => ?_
    cases ho : out x with
    | none =>
      refine NxL.mk () ?_ trivial
      rw [List.take_add_one, hx, List.filterMap_append]
      simpa [ho] using c'
    | some d =>
      obtain ⟨L5, c5, v5⟩ := c'.chg (.lst ((xs.take i).filterMap out ++ [d]))
      refine ⟨_, L5, c5, ?_, ?_⟩
      · refine Nat.le_trans (List.length_filterMap_le ..) ?_
        rw [List.length_take]
        omega
      · refine NxL.mk () ?_ trivial
        rw [List.take_add_one, hx, List.filterMap_append]
        simpa [ho] using v5
  · intro u _
    refine ⟨hs _, ?_⟩
    rw [List.length_map, List.take_length]
    exact done
end DL

/-! exceptions of the program's own classes -/
namespace DL
open PySem PySem.Spec PyProof.Rows L2
/-- which exception, where its dict lies, what stands -/
abbrev XC := XT → Addr → LL → Prop
abbrev CtX := List D → LL → DK → XC → Prop
abbrev ScX := List D → LL → LL → DK → XC → Prop
/-- what is wished of an exception, at the slots where it comes -/
structure XW where
  psi : XT → Addr → Sl → LL → Prop
def XW.no : XW := ⟨fun _ _ _ _ => False⟩
def KontX (K : PySem.W.Frag) (xa : XT → Addr) (H : Hp) (Ψ : XC) (E : XK) : Prop := ∀ C d L H', Ψ C d L → TK K H H' → HL K H' L → E (.ref (xa C)) (some d) H'
def wishV (K : PySem.W.Frag) (xa : XT → Addr) (W : XW) : WX := fun cls d σ H => ∃ C dd σd L, cls = .ref (xa C) ∧ d = some dd ∧ SR K H σd σ ∧ HL K H L ∧ W.psi C dd σd L
def liftCX (K : PySem.W.Frag) (xa : XT → Addr) (c : CtX) : Sp := fun vs H Q E => ∃ ds L Φ Ψ, DRs K H ds vs ∧ HL K H L ∧ c ds L Φ Ψ ∧ Kont K H Φ Q ∧ KontX K xa H Ψ E
theorem takes_no {X : Cx} {xa : XT → Addr} : Takes X (wishV X.K xa XW.no) := takes0.imp fun _ _ _ _ ⟨_, _, _, _, _, _, _, _, h⟩ => h
/-! ### calls -/
section
variable {X : Cx} {CX : CXT} {k : Nat} {f C : Addr} {fd : FuncData} {ps : List Str} {sp : Sp} {ds : List Value} {dvs : List V} {x m : Str} {p pos apos : Pos} {e o : Expr} {es : List Expr} {ta : TE} {t : TA}
theorem run_fnD {pins : List (Addr × Obj)} {σ : L2.St} {H : Hp} {s : Shared} {Q : VK} {us : List Value} {vs : List V} {E : XK} (F : FnOk X.prog X.w X.K X.mg X.base CX k f fd ps sp) (hr : Room k X.A) (hb : Binds X.K fd ps ds) (hd : Vals dvs ds) (hx : PassesAt CX X σ E)
    (I : Inv X pins σ H s) (r : Vals vs us) (h : sp (vs ++ dvs) H Q E) : wpAny (model X.prog X.w) X.A (call (.ref f) us) (EP X pins σ Q) X.xe s := by
  have r2 : Vals (vs ++ dvs) (us ++ ds) := r.append hd
  have hl : (us ++ ds).length = ps.length := by rw [← r2.length]; exact F.len _ _ _ _ h
  refine wpAny_call (codeAny_mono (F.run X.A X.stack s H ⟨us, []⟩ (us ++ ds) (vs ++ dvs) Q E hr I.env0 (hb s us I.kIn hl) r2 h) fun r s' hq => ?_)
  cases r with
  | error e => exact hx pins H s e s' I hq
  | ok fl =>
    cases fl with
    | ret u => exact I.after hq
    | next => exact False.elim hq
    | brk => exact False.elim hq
    | cont => exact False.elim hq
def tCallD (sp : Sp) (dvs : List V) (E : L2.St → XK) (t : TA) : TE := fun σ H Q => t σ H fun vs H1 => sp (vs ++ dvs) H1 Q (E σ)
theorem pe_callD {E : L2.St → XK} (F : FnOk X.prog X.w X.K X.mg X.base CX k f fd ps sp) (hr : Room k X.A) (hg : Gl X x) (hm : X.mg x = some (.ref f)) (hk : PySem.W.keepIn X.K (.ref f) = true) (hb : Binds X.K fd ps ds) (hd : Vals dvs ds) (hx : ∀ σ, PassesAt CX X σ (E σ))
    (ha : PA X (e :: es) t) (hdb : (x == ("__debug__" : Str)) = false := by decide) (he : starEach (e :: es) X.env = (false, eval e X.env) :: starEach es X.env := by rfl) (hpl : (backTo pos (starEach es X.env)).any (·.1) = false := by rfl) :
    PE X (.Call (.Name x p) (e :: es) [] pos) (tCallD sp dvs E t) := by
  refine ⟨fun pins s σ H Q I h => ?_⟩
  refine wpAny_Call_Name_kw (ld_glob I hg hm ?_ hdb)
  refine PySem.W.callWith_K (h₀ := X.base) I.ok.mod.kin hk (thn (ha.run pos pins s σ H _ I h) fun us s1 ⟨vs, H1, I1, r, q⟩ => ⟨I1.kIn, ?_⟩) he hpl
  exact run_fnD F hr hb hd (hx σ) I1 r q
def tMethD (C : Addr) (m : Str) (sp : Sp) (dvs : List V) (E : L2.St → XK) (ta : TE) (t : TA) : TE := fun σ H Q => ta σ H fun x H1 => ∃ a dx fs, x = .ref a ∧ H1 a = some (.ins C dx fs) ∧ fs.lookup m = none ∧ t σ H1 fun vs H2 => sp (x :: (vs ++ dvs)) H2 Q (E σ)
theorem pe_methD {E : L2.St → XK} {pl : Sem Bool} (he : PE X o ta) (c : Cls X.K C) (hm : Meth X.K C m f) (F : FnOk X.prog X.w X.K X.mg X.base CX k f fd ps sp) (hr : Room k X.A) (hb : Binds X.K fd ps ds) (hd : Vals dvs ds) (hx : ∀ σ, PassesAt CX X σ (E σ)) (ha : PA X (e :: es) t)
    (hst : starEach (e :: es) X.env = (false, eval e X.env) :: starEach es X.env := by rfl) (hpl : (backTo pos (starEach es X.env)).any (·.1) = false := by rfl)
    (ht : eval (.Call (.Attribute o m apos) (e :: es) [] pos) X.env = (do
      let ov ← eval o X.env
      standAt apos.atName
      let (f, first) ← holding [ov] (getMethod ov m pl)
      callWith pos f first (backTo pos (starEach (e :: es) X.env)) (backToKw pos (keywordEach [] X.env))) := by rfl) :
    PE X (.Call (.Attribute o m apos) (e :: es) [] pos) (tMethD C m sp dvs E ta t) := by
  refine ⟨fun pins s σ H Q I h => ?_⟩
  refine PySem.W.methodCall_KW (pl := pl) (thn (he.run pins s σ H _ I h) fun u s1 ⟨x, H1, I1, rx, a, dx, fs, ex, ea, l, q⟩ => ?_) ht
  subst ex
  obtain rfl : u = Value.ref a := rx
  refine getmeth_ok I1 ea c hm l ?_
  refine PySem.W.callWith_K (first := [.ref a]) (h₀ := X.base) I.ok.mod.kin hm.kp (thn (ha.run pos pins s1 σ H1 _ I1 q) fun us s2 ⟨vs, H2, I2, r, q2⟩ => ⟨I2.kIn, ?_⟩) hst hpl
  exact run_fnD (us := .ref a :: us) (vs := .ref a :: vs) F hr hb hd (hx σ) I2 (.cons rfl r) q2
theorem pass_w {W : XW} {xa : XT → Addr} (tk : Takes X (wishV X.K xa W)) (σ : L2.St) : PassesAt (L2.CX X.prog X.w) X σ (WE (wishV X.K xa W) σ) := passAt tk σ
end
structure FndX (P : Program) (w : World) (K : PySem.W.Frag) (mg : Str → Option Value) (base : Heap) (xa : XT → Addr) (x : Str) (n : Nat) (dd : List D) (c : CtX) (k : Nat) : Prop where
  ex : ∃ f fd ps ds dvs, mg x = some (.ref f) ∧ PySem.W.keepIn K (.ref f) = true ∧ Binds K fd ps ds ∧ Vals dvs ds ∧ (∀ H, DRs K H dd dvs) ∧ FnOk P w K mg base (L2.CX P w) k f fd ps (liftCX K xa c)
structure MtdX (P : Program) (w : World) (K : PySem.W.Frag) (mg : Str → Option Value) (base : Heap) (xa : XT → Addr) (C : Addr) (m : Str) (dd : List D) (c : CtX) (k : Nat) : Prop where
  cl : Cls K C
  nf : ∀ i, i < fnames.length → fname i ≠ m
  ex : ∃ f fd ps ds dvs, Meth K C m f ∧ Binds K fd ps ds ∧ Vals dvs ds ∧ (∀ H, DRs K H dd dvs) ∧ FnOk P w K mg base (L2.CX P w) k f fd ps (liftCX K xa c)
structure FnkX (P : Program) (w : World) (K : PySem.W.Frag) (mg : Str → Option Value) (base : Heap) (xa : XT → Addr) (x : Str) (n : Nat) (ks : List Str) (g : List D → List D → List D) (c : CtX) (k : Nat) : Prop where
  ex : ∃ f fd ps gU gV, mg x = some (.ref f) ∧ PySem.W.keepIn K (.ref f) = true ∧ KBn K fd ps n ks gU gV ∧ (∀ H ds es vs us, DRs K H ds vs → DRs K H es us → ds.length = n → es.length = ks.length → DRs K H (g ds es) (gV vs us)) ∧ FnOk P w K mg base (L2.CX P w) k f fd ps (liftCX K xa c)
section
variable {X : Cx} {pos : Pos} {e o : Expr} {es : List Expr} {te ta tb : TE'} {t : TA'} {x : Str} {c : CtX} {k n : Nat} {dd : List D} {W : XW} {xa : XT → Addr}
def tCallX' (W : XW) (c : CtX) (dd : List D) (t : TA') : TE' := fun σ L Φ => t σ L fun ds L1 => c (ds ++ dd) L1 Φ fun C d L2 => W.psi C d σ L2
theorem wish_at {H H' : Hp} {σd : Sl} {σ : L2.St} (hs : SR X.K H σd σ) (t : TK X.K H H') : KontX X.K xa H' (fun C d L2 => W.psi C d σd L2) (WE (wishV X.K xa W) σ) := fun C d L H2 h t2 l => ⟨C, d, σd, L, rfl, rfl, hs.mono (t.trans t2), l, h⟩
theorem pe_callX' {p : Pos} (F : FndX X.prog X.w X.K X.mg X.base xa x n dd c k) (tk : Takes X (wishV X.K xa W)) (hr : Room k X.A) (hg : Gl X x) (ha : PA' X (e :: es) t) (hd : (x == ("__debug__" : Str)) = false := by decide)
    (he : starEach (e :: es) X.env = (false, eval e X.env) :: starEach es X.env := by rfl) (hpl : (backTo pos (starEach es X.env)).any (·.1) = false := by rfl) : PE' X (.Call (.Name x p) (e :: es) [] pos) (tCallX' W c dd t) := by
  obtain ⟨f, fd, ps, ds, dvs, hm, hk, hb, hv, hdd, F⟩ := F.ex
  exact lE (pe_callD F hr hg hm hk hb hv (pass_w tk) ha (hdb := hd) (he := he) (hpl := hpl)) fun σ H Q ⟨σd, L, Φ, hs, hl, ht, k⟩ => ⟨σd, L, _, hs, hl, ht, fun ds L1 vs H1 h1 t1 r1 l1 => ⟨_, L1, Φ, _, r1.append (hdd H1), l1, h1, k.mono t1, wish_at hs t1⟩⟩
def tMethX' (W : XW) (C : Addr) (c : CtX) (dd : List D) (to : TE') (t : TA') : TE' := fun σ L Φ => to σ L fun d L1 => match d with
  | .ref a => ∃ fs, Has L1 a (.ins C fs) ∧ t σ L1 fun ds L2 => c (.ref a :: (ds ++ dd)) L2 Φ fun C d L3 => W.psi C d σ L3
  | _ => False
theorem pe_methX' {C : Addr} {m : Str} {apos : Pos} {pl : Sem Bool} (F : MtdX X.prog X.w X.K X.mg X.base xa C m dd c k) (tk : Takes X (wishV X.K xa W)) (hr : Room k X.A) (he : PE' X o te) (ha : PA' X (e :: es) t)
    (hst : starEach (e :: es) X.env = (false, eval e X.env) :: starEach es X.env := by rfl) (hpl : (backTo pos (starEach es X.env)).any (·.1) = false := by rfl)
    (ht : eval (.Call (.Attribute o m apos) (e :: es) [] pos) X.env = (do
      let ov ← eval o X.env
      standAt apos.atName
      let (f, first) ← holding [ov] (getMethod ov m pl)
      callWith pos f first (backTo pos (starEach (e :: es) X.env)) (backToKw pos (keywordEach [] X.env))) := by rfl) : PE' X (.Call (.Attribute o m apos) (e :: es) [] pos) (tMethX' W C c dd te t) := by
  obtain ⟨cl, nf, f, fd, ps, ds, dvs, hm, hb, hv, hdd, F⟩ := F
  exact lE (pe_methD he cl hm F hr hb hv (pass_w tk) ha hst hpl ht) fun σ H Q ⟨σd, L, Φ, hs, hl, ht, k⟩ => ⟨σd, L, _, hs, hl, ht, fun d L1 v H1 h1 t1 r1 l1 => by
    cases r1 with
    | ref =>
      obtain ⟨fs, hh, q⟩ := (show ∃ fs, _ from h1)
      obtain ⟨dx, gs, e1, r⟩ := l1.has hh
      exact ⟨_, dx, gs, rfl, e1, r.none_of nf, σd, L1, _, hs.mono t1, l1, q, fun ds L2 vs H2 h2 t2 r2 l2 => ⟨_, L2, Φ, _, .cons .ref (r2.append (hdd H2)), l2, h2, k.mono (t1.trans t2), wish_at hs (t1.trans t2)⟩⟩
    | _ => exact (show False from h1).elim⟩
end
/-! ### the proof of a def that may raise -/
inductive RaiseTo (L : LL) (g : Addr) (P : Hp → Prop) (k : LL → Prop) : Prop
  | mk (L2 : LL) : Cov L ((g, .gh P) :: L2) → k L2 → RaiseTo L g P k
def defW (Ψ : XC) (g : Addr) (P : Hp → Prop) : XW := ⟨fun C d _ L => RaiseTo L g P (Ψ C d)⟩
inductive CtOfX (S : ScX) (ds : List D) (L : LL) (Φ : DK) (Ψ : XC) : Prop
  | mk (F R : LL) : Pull L F R → S ds F R Φ Ψ → CtOfX S ds L Φ Ψ
theorem HL.ghost {K : PySem.W.Frag} {H : Hp} {L : LL} (h : HL K H L) (g : Addr) (H0 : Hp) (t : TK K H0 H) : HL K H ((g, .gh (TK K H0)) :: L) :=
  ⟨fun q hq => by
    rcases List.mem_cons.mp hq with e | hq
    · subst e
      exact ⟨t, fun H1 H2 a b => a.trans b⟩
    · exact h.ok q hq, List.pairwise_cons.mpr ⟨fun q _ r => (by cases r), h.nd⟩⟩
section
variable {P : Program} {w : World} {K : PySem.W.Frag} {mg : Str → Option Value} {base : Heap} {x qual : Str} {params : Arguments} {body : List Stmt} {scope : Scope} {dvs : List V} {kws : List (Str × V)} {f : Addr} {fd : FuncData} {ps N : List Str} {k : Nat} {S : ScX} {t : XW → TS'} {xa : XT → Addr}
abbrev BXX (P : Program) (w : World) (K : PySem.W.Frag) (mg : Str → Option Value) (base : Heap) (N : List Str) (qual : Str) (scope : Scope) (f : Addr) (cdv : Value) (A : Around) (outer : List Env) (s : Shared) (H : Hp) (E : XK) : Cx := cxOf (L2.CX P w) P w K mg base N qual scope f cdv A outer s H E
theorem fnOkX (F : FunD K x qual params body scope dvs kws f fd) (sc : FnScope N ps scope) (len : ∀ ds F R Φ Ψ, S ds F R Φ Ψ → ds.length = ps.length)
    (der : ∀ (W : XW) (cdv : Value) (A : Around) (outer : List Env) (s : Shared) (H : Hp) (E : XK), Room k (A.deeper (envOfC qual scope s.heap.objs.size f cdv)) → Takes (BXX P w K mg base N qual scope f cdv A outer s H E) (wishV K xa W) →
      PassesOwn (model P w) (BXX P w K mg base N qual scope f cdv A outer s H E).A (BXX P w K mg base N qual scope f cdv A outer s H E).env (BXX P w K mg base N qual scope f cdv A outer s H E).xe → PSs' (BXX P w K mg base N qual scope f cdv A outer s H E) body (t W))
    (rd : ∀ ds F R Φ Ψ g P, S ds F R Φ Ψ → t (defW Ψ g P) (endD Φ) (startD N.length ds) (F ++ (g, .gh P) :: R)) : FnOk P w K mg base (L2.CX P w) (k + 1) f fd ps (liftCX K xa (CtOfX S)) := by
  refine F.ok sc (fun vs H Q E ⟨ds, L, Φ, Ψ, r, _, ⟨F, R, p, s⟩, _⟩ => by rw [← r.length]; exact len ds F R Φ Ψ s) fun cdv A outer s H vs Q E hr ⟨ds, L, Φ, Ψ, r, l, ⟨F, R, p, hs⟩, q, qx⟩ => ?_
  have tk : Takes (BXX P w K mg base N qual scope f cdv A outer s H E) (wishV K xa (defW Ψ 0 (TK K H))) :=
    (takes_of (X := BXX P w K mg base N qual scope f cdv A outer s H E) rfl rfl rfl rfl).imp fun cls d σ H' ⟨C, dd, σd, L', e1, e2, _, hl, ⟨L2, c2, h2⟩⟩ => by
      subst e1 e2
      have h := hl.cov c2
      exact qx _ _ _ _ h2 (h.has Has.here).1 h.tail
  have hl2 : HL K H (F ++ (0, .gh (TK K H)) :: R) := ((l.cov p.cov).ghost 0 H TK.refl).perm List.perm_middle.symm
  refine ⟨_, der _ cdv A outer s H E hr tk (passes_of rfl), _, _, endD Φ, sr_start r, hl2, rd ds F R Φ Ψ 0 (TK K H) hs, ?_, ?_, ?_, ?_⟩
  · rintro σd L2 σ H2 ⟨L3, c3, h3⟩ t2 s2 l2
    exact q _ _ _ _ h3 t2 .non (l2.cov c3)
  · rintro d L2 v H2 ⟨L3, c3, h3⟩ t2 r2 l2
    exact q _ _ _ _ h3 t2 r2 (l2.cov c3)
  · intro _ _ _ _ h
    exact (show False from h).elim
  · intro _ _ _ _ h
    exact (show False from h).elim
end
theorem Br.ndec_t {p : Prop} [Decidable p] {T F : Prop} (hp : ¬ p) (h : T) : Br (!decide p) T F := by
  rw [decide_eq_false hp]
  exact .t h
theorem Br.ndec_f {p : Prop} [Decidable p] {T F : Prop} (hp : p) (h : F) : Br (!decide p) T F := by
  rw [decide_eq_true hp]
  exact .f h
/-- a stop: what follows needs only this -/
inductive Wk (t : TS') (D : EndsD) (σ : Sl) (L : LL) : Prop
  | mk (σ2 : Sl) (L2 : LL) : Sub σ σ2 → Cov L L2 → t D σ2 L2 → Wk t D σ L
def tWk' (t : TS') : TS' := fun D σ L => Wk t D σ L
theorem pss_wk' {X : Cx} {sts : List Stmt} {t : TS'} (h : PSs' X sts t) : PSs' X sts (tWk' t) := lSs h fun D σ H ⟨σd, L, D', hs, hl, ⟨σ2, L2, s2, c2, ht⟩, k⟩ => ⟨σ2, L2, D', hs.sub s2, hl.cov c2, ht, k⟩
/-! ### raise X(e) -/
/-- X's __init__: self.f = v -/
def spI (C : Addr) (f : Str) : Sp := fun vs H Q _ => ∃ (a : Addr) (v : V), vs = [.ref a, v] ∧ H a = some (exo a C none) ∧ ∀ dx, H dx = none → dx ≠ a → Q .non (upd (upd H dx (exd dx [(f, v)])) a (exo a C (some dx)))
structure XcC (P : Program) (w : World) (K : PySem.W.Frag) (mg : Str → Option Value) (base : Heap) (x : Str) (C : Addr) (f : Str) (k : Nat) : Prop where
  T : OexC K C
  gl : mg x = some (.ref C)
  ini : ∃ fI fd ps, PySem.W.findIn K (.ref C) "__init__" = some (some (.ref fI)) ∧ PySem.W.typeIn K (.ref fI) = some (.type "function") ∧ Binds K fd ps [] ∧ FnOk P w K mg base CX0 k fI fd ps (spI C f)
def tRaise' (W : XW) (C : XT) (f : Nat) (te : TE') : TS' := fun _ σ L => te σ L fun d L1 => ∀ p, W.psi C p σ ((p, .xd [(f, d)]) :: L1)
theorem HL.newx {K : PySem.W.Frag} {H : Hp} {L : LL} {p : Addr} {f : Nat} {d : D} {v : V} (h : HL K H L) (hp : H p = none) (hf : f < fnames.length) (r : DR K H d v) : HL K (upd H p (.xd [(fname f, v)])) ((p, .xd [(f, d)]) :: L) :=
  h.new hp ⟨_, upd_same, .cons hf (r.mono (TK.new hp)) .nil⟩
section
variable {X : Cx} {pos pos' p : Pos} {e : Expr} {te : TE'} {x : Str} {k : Nat} {W : XW} {xa : XT → Addr} {C : XT} {f : Nat}
theorem ps_raise' {s : Str} (hc : X.calm = true) (tk : Takes X (wishV X.K xa W)) (B : XcC X.prog X.w X.K X.mg X.base x (xa C) s k) (hr : Room (k + 1) X.A) (hg : Gl X x) (he : PE' X e te) (hs : fname f = s := by rfl) (hf : f < fnames.length := by decide) (hdb : (x == ("__debug__" : Str)) = false := by decide)
    (hst : starEach [e] X.env = (false, eval e X.env) :: starEach [] X.env := by rfl) (hpl : (backTo pos (starEach [] X.env)).any (·.1) = false := by rfl) : PS' X (.Raise (some (.Call (.Name x p) [e] [] pos)) none pos') (tRaise' W C f te) := by
  obtain ⟨T, gl, fI, fd, ps, hi, ht, hb, F⟩ := B
  subst hs
  refine lS (ps_raise hc tk (pmk_oex T hi ht F hr hb .nil pass0 hg gl (pa_cons he pa_nil hst) hdb hst hpl)) fun D σ H ⟨σd, L, D', hs, hl, hw, k⟩ => ?_
  refine ⟨σd, L, _, hs, hl, hw, fun d L1 v H1 h1 t1 r1 l1 => ⟨by show 1 ≤ 1000; decide, fun a na => ⟨a, v, rfl, upd_same, fun dx hdx hne => ⟨rfl, dx, [(fname f, v)], upd_same, ?_, ?_, ?_⟩⟩⟩⟩
  · rw [upd_ne hne, upd_same]
  · rw [upd_ne hne] at hdx
    exact hdx
  · rw [upd_ne hne] at hdx
    have e1 : upd (del (upd (upd (upd H1 a (exo a (xa C) none)) dx (exd dx [(fname f, v)])) a (exo a (xa C) (some dx))) a) dx (.xd [(fname f, v)]) = upd H1 dx (.xd [(fname f, v)]) := by
      funext b
      by_cases hb : b = dx
      · rw [hb, upd_same, upd_same]
      · rw [upd_ne hb, upd_ne hb]
        by_cases ha : b = a
        · rw [ha, del_same]
          exact na.symm
        · rw [del_ne ha, upd_ne ha, upd_ne hb, upd_ne ha]
    rw [e1]
    exact ⟨C, dx, σd, _, rfl, rfl, hs.mono (t1.trans (TK.new hdx)), l1.newx hdx hf r1, h1 dx⟩
end
end DL

/-! what a call with keywords binds -/
namespace DL
open PySem PySem.Spec PyProof.Rows L2
def permL {α : Type} (d : α) (ix : List Nat) (xs : List α) : List α := ix.map fun i => xs.getD i d
theorem vals_getD : ∀ {vs : List V} {us : List Value} (i : Nat), Vals vs us → RelV (vs.getD i .non) (us.getD i .none)
  | _, _, _, .nil => by simp; trivial
  | _, _, 0, .cons a _ => a
  | _, _, i + 1, .cons _ r => by simpa using vals_getD i r
theorem vals_perm {vs : List V} {us : List Value} (r : Vals vs us) : ∀ ix : List Nat, Vals (permL .non ix vs) (permL .none ix us)
  | [] => .nil
  | i :: ix => .cons (vals_getD i r) (vals_perm r ix)
section
variable {K : PySem.W.Frag} {x qual : Str} {params : Arguments} {body : List Stmt} {scope : Scope} {dvs : List V} {kws : List (Str × V)} {f : Addr} {fd : FuncData} {ps : List Str} {n : Nat} {ks : List Str}
theorem kb_plain (F : FunD K x qual params body scope [] [] f fd) (ix : List Nat)
    (h : ∀ (kV doc pm : Value) (an : Option Addr) (cdv ct : Value) (us ws : List Value), us.length = n → ws.length = ks.length → bindArgs (PySem.W.fnOf x qual params body scope .none kV doc pm an cdv ct) ⟨us, ks.zip ws⟩ = pure (ps.zip (permL .none ix (us ++ ws)))) :
    KBn K fd ps n ks (fun us ws => permL .none ix (us ++ ws)) fun vs zs => permL .non ix (vs ++ zs) := by
  obtain ⟨oc, od, dV, kV, doc, pm, an, cdv, ct, osl, rfl, lk, hcd, hD, hK⟩ := F.ex
  rcases hD with ⟨_, rfl⟩ | ⟨e, _⟩
  · exact ⟨fun s us ws _ l1 l2 => .of_eq (h kV doc pm an cdv ct us ws l1 l2), fun r1 r2 => vals_perm (r1.append r2) ix⟩
  · exact absurd rfl e
theorem kb_d (F : FunD K x qual params body scope dvs [] f fd) (ix : List Nat) (hd : dvs ≠ [])
    (h : ∀ (T : Addr) (kV doc pm : Value) (an : Option Addr) (cdv ct : Value) (us its ws : List Value), us.length = n → its.length = dvs.length → ws.length = ks.length →
      ∃ k, bindArgs (PySem.W.fnOf x qual params body scope (.ref T) kV doc pm an cdv ct) ⟨us, ks.zip ws⟩ = seqItems? (.ref T) >>= k ∧ k (some its.toArray) = pure (ps.zip (permL .none ix (us ++ its ++ ws)))) :
    ∃ its : List Value, KBn K fd ps n ks (fun us ws => permL .none ix (us ++ its ++ ws)) fun vs zs => permL .non ix (vs ++ dvs ++ zs) := by
  obtain ⟨oc, od, dV, kV, doc, pm, an, cdv, ct, osl, rfl, lk, hcd, hD, hK⟩ := F.ex
  rcases hD with ⟨e, _⟩ | ⟨_, T, o, its, m, rfl, lT, oT, rT⟩
  · exact absurd e hd
  · refine ⟨its, fun s us ws X l1 l2 => ?_, fun r1 r2 => vals_perm ((r1.append rT).append r2) ix⟩
    obtain ⟨k, e1, e2⟩ := h T kV doc pm an cdv ct us its ws l1 rT.length.symm l2
    refine BindsTo.of_looks fun M => ?_
    rw [e1]
    exact looks_items X lT oT (.of_pure e2)
theorem kb_k (F : FunD K x qual params body scope [] kws f fd) (ms : List (Str × V)) (ix : List Nat) (hk : kws ≠ []) (hms : ∀ q ∈ ms, q ∈ kws)
    (h : ∀ (D : Addr) (doc pm : Value) (an : Option Addr) (cdv ct : Value) (us mv ws : List Value), us.length = n → mv.length = ms.length → ws.length = ks.length →
      KwChain D ((ms.map (·.1)).zip mv) (bindArgs (PySem.W.fnOf x qual params body scope .none (.ref D) doc pm an cdv ct) ⟨us, ks.zip ws⟩) (ps.zip (permL .none ix (us ++ mv ++ ws)))) :
    ∃ mv : List Value, KBn K fd ps n ks (fun us ws => permL .none ix (us ++ mv ++ ws)) fun vs zs => permL .non ix (vs ++ ms.map (·.2) ++ zs) := by
  obtain ⟨oc, od, dV, kV, doc, pm, an, cdv, ct, osl, rfl, lk, hcd, hD, hK⟩ := F.ex
  rcases hD with ⟨_, rfl⟩ | ⟨e, _⟩
  · rcases hK with e | ⟨D, rfl, hq⟩
    · exact absurd e hk
    · obtain ⟨mv, hl, rk, hks⟩ := kwd_vals (ms := ms) fun q hm => hq q (hms q hm)
      exact ⟨mv, fun s us ws X l1 l2 => BindsTo.of_looks fun M => KwChain.looks X hks (h D doc pm an cdv ct us mv ws l1 hl l2), fun r1 r2 => vals_perm ((r1.append rk).append r2) ix⟩
  · exact absurd rfl e
end
end DL

/-! sorts of fewer than 64 items (no joins): mirrors and contracts -/
namespace DL
open PySem PySem.Spec PyProof.Rows L2
def qD (q : Nat × Nat) : D := .tup [.int q.1, .int q.2]
def pr (e : Nat × Nat × Bool) : Nat × Nat := (e.1, e.2.1)
/-! placing -/
def placeGo (ms : List Int) (row : List Nat) (s item : Nat) : Nat → Nat → Nat → Log → Nat × Log
  | 0, lo, _, l => (lo, l)
  | f + 1, lo, hi, l => if lo < hi then
      if lessN ms item (row.getD (s + (lo + hi) / 2) 0) then placeGo ms row s item f lo ((lo + hi) / 2) (l ++ [(item, row.getD (s + (lo + hi) / 2) 0, true)])
      else placeGo ms row s item f ((lo + hi) / 2 + 1) hi (l ++ [(item, row.getD (s + (lo + hi) / 2) 0, false)])
    else (lo, l)
/-- the item at s + i stands at s + lo now -/
def insN (row : List Nat) (s i lo : Nat) : List Nat := row.take (s + lo) ++ (row.getD (s + i) 0 :: (row.drop (s + lo)).take (i - lo)) ++ row.drop (s + i + 1)
def placeOne (ms : List Int) (row : List Nat) (s i : Nat) (l : Log) : List Nat × Log :=
  (insN row s i (placeGo ms row s (row.getD (s + i) 0) i 0 i l).1, (placeGo ms row s (row.getD (s + i) 0) i 0 i l).2)
def placeAll (ms : List Int) (s : Nat) : Nat → Nat → List Nat → Log → List Nat × Log
  | 0, _, row, l => (row, l)
  | n + 1, i, row, l => placeAll ms s n (i + 1) (placeOne ms row s i l).1 (placeOne ms row s i l).2
def S_place_one (cl : Cl) : Sc := fun ds F R Φ => ∃ (r h mk la : Addr) (row : List Nat) (ms : List Int) (lg : Log) (s i : Nat), ds = [.ref r, .int s, .int i, .ref h] ∧ F = (r, rowO row) :: honF cl h mk la ms lg ∧
  (s + i < row.length ∧ row.length ≤ 100000 ∧ Row ms row ∧ lg.length + i ≤ 1000000) ∧ Φ .non ((r, rowO (placeOne ms row s i lg).1) :: honF cl h mk la ms (placeOne ms row s i lg).2 ++ R)
def C_place_one (cl : Cl) : Ct := CtOf (S_place_one cl)
def S_place_all (cl : Cl) : Sc := fun ds F R Φ => ∃ (r h mk la : Addr) (row : List Nat) (ms : List Int) (lg : Log) (s e k : Nat), ds = [.ref r, .int s, .int e, .int k, .ref h] ∧ F = (r, rowO row) :: honF cl h mk la ms lg ∧
  (s ≤ e ∧ e ≤ row.length ∧ row.length ≤ 100000 ∧ Row ms row ∧ e - s ≤ 64 ∧ k ≤ 100000 ∧ lg.length ≤ 900000) ∧
  Φ .non ((r, rowO (placeAll ms s (e - s - max 1 k) (max 1 k) row lg).1) :: honF cl h mk la ms (placeAll ms s (e - s - max 1 k) (max 1 k) row lg).2 ++ R)
def C_place_all (cl : Cl) : Ct := CtOf (S_place_all cl)
/-! a sort -/
def joinF (cl : Cl) (j h al : Addr) : LL := [(j, .ins cl.Joiner [(6, .ref h), (17, .int 7), (29, .tup [.int 0, .int 0]), (30, .ref al)]), (al, .lst [])]
def S_Joiner_init (cl : Cl) : Sc := fun ds F R Φ => ∃ (j h : Addr), ds = [.ref j, .ref h, .int 7] ∧ F = [(j, .ins cl.Joiner [])] ∧ ∀ al, Φ .non (joinF cl j h al ++ R)
def C_Joiner___init__ (cl : Cl) : Ct := CtOf (S_Joiner_init cl)
theorem no_Joiner (cl : Cl) : NonOnly (C_Joiner___init__ cl) := nonly_of fun ds F R Φ ⟨j, h, e1, e2, k⟩ => ⟨j, h, e1, e2, fun al => ⟨rfl, k al⟩⟩
theorem no_Honest (cl : Cl) : NonOnly (C_Honest___init__ cl) := nonly_of fun ds F R Φ ⟨h, d, xs, Fq, e1, e2, hs, k⟩ => ⟨h, d, xs, Fq, e1, e2, hs, fun mk la => ⟨rfl, k mk la⟩⟩
def sortF (cl : Cl) (s h r j st sp : Addr) (b : Bool) (row : List Nat) (stk stp : List D) (busy : D) : LL :=
  [(s, .ins cl.Sorting [(4, .ref r), (5, .bl b), (6, .ref h), (7, .ref j), (8, .ref st), (9, .ref sp), (10, busy)]), (r, rowO row), (st, .lst stk), (sp, .lst stp)]
def rowB (b : Bool) (n : Nat) : List Nat := if b then (List.range n).reverse else List.range n
def S_Sorting_init (cl : Cl) : Sc := fun ds F R Φ => ∃ (s h : Addr) (n : Nat) (b : Bool), ds = [.ref s, .int n, .bl b, .ref h] ∧ F = [(s, .ins cl.Sorting [])] ∧ n ≤ 2000 ∧ ∀ r j st sp, Φ .non (sortF cl s h r j st sp b (rowB b n) [] [] (.tup [.str "end"]) ++ R)
def C_Sorting___init__ (cl : Cl) : Ct := CtOf (S_Sorting_init cl)
theorem no_Sorting (cl : Cl) : NonOnly (C_Sorting___init__ cl) := nonly_of fun ds F R Φ ⟨s, h, n, b, e1, e2, z, k⟩ => ⟨s, h, n, b, e1, e2, z, fun r j st sp => ⟨rfl, k r j st sp⟩⟩
def C_Sorting_make_room (cl : Cl) : Ct := fun _ _ _ => False
def C_Sorting_join_at (cl : Cl) : Ct := fun _ _ _ => False
/-- how long the run is that a row begins with; what a sort of a row of one piece leaves -/
def foundOf (ms : List Int) (row : List Nat) (lg : Log) : Nat := (findRun ms row 0 row.length lg).1
def sortRun (ms : List Int) (row : List Nat) (lg : Log) : List Nat × Log :=
  if foundOf ms row lg < row.length then placeAll ms 0 (row.length - max 1 (foundOf ms row lg)) (max 1 (foundOf ms row lg)) (findRun ms row 0 row.length lg).2.1 (findRun ms row 0 row.length lg).2.2
  else ((findRun ms row 0 row.length lg).2.1, (findRun ms row 0 row.length lg).2.2)
def pieceD (f n a : Nat) : D := .tup [.str "piece", .int 0, .int f, .int n, .int a]
def S_next_piece (cl : Cl) : Sc := fun ds F R Φ => ∃ (s h r j st sp mk la : Addr) (b : Bool) (row : List Nat) (stp : List D) (busy : D) (ms : List Int) (lg : Log), ds = [.ref s, .int 0] ∧ F = sortF cl s h r j st sp b row [] stp busy ++ honF cl h mk la ms lg ∧
  (0 < row.length ∧ row.length ≤ 63 ∧ stp.length ≤ 1000 ∧ Row ms row ∧ lg.length ≤ 1000) ∧
  ∀ bz, Φ (.int row.length) (sortF cl s h r j st sp b (sortRun ms row lg).1 [.tup [.int 0, .int row.length, .non]] (stp ++ [pieceD (foundOf ms row lg) row.length (sortRun ms row lg).2.length]) bz ++ honF cl h mk la ms (sortRun ms row lg).2 ++ R)
def C_Sorting_next_piece (cl : Cl) : Ct := CtOf (S_next_piece cl)
def goRun (ms : List Int) (row : List Nat) : List Nat × Log := if 1 < row.length then sortRun ms row [] else (row, [])
def goSteps (ms : List Int) (row : List Nat) : List D := if 1 < row.length then [pieceD (foundOf ms row []) row.length (sortRun ms row []).2.length] else []
def S_go (cl : Cl) : Sc := fun ds F R Φ => ∃ (s h r j st sp mk la : Addr) (b : Bool) (row : List Nat) (busy : D) (ms : List Int), ds = [.ref s] ∧ F = sortF cl s h r j st sp b row [] [] busy ++ honF cl h mk la ms [] ∧
  (row.length ≤ 63 ∧ Row ms row) ∧ ∀ bz stk', Φ .non (sortF cl s h r j st sp b (goRun ms row).1 stk' (goSteps ms row) bz ++ honF cl h mk la ms (goRun ms row).2 ++ R)
def C_Sorting_go (cl : Cl) : Ct := CtOf (S_go cl)
def S_sorted_by (cl : Cl) : Sc := fun ds F R Φ => ∃ (d : D) (ms : List Int) (b : Bool), ds = [d, .bl b] ∧ seqF d ms F ∧ ms.length ≤ 63 ∧
  ∀ s h r j st sp mk la bz stk, Φ (.ref s) (sortF cl s h r j st sp b (goRun ms (rowB b ms.length)).1 stk (goSteps ms (rowB b ms.length)) bz ++ honF cl h mk la ms (goRun ms (rowB b ms.length)).2 ++ (F ++ R))
def C_sorted_by (cl : Cl) : Ct := CtOf (S_sorted_by cl)
def S_count_of (cl : Cl) : Sc := fun ds F R Φ => ∃ (d : D) (ms : List Int) (b : Bool), ds = [d, .bl b] ∧ seqF d ms F ∧ ms.length ≤ 63 ∧ Φ (.int (goRun ms (rowB b ms.length)).2.length) (F ++ R)
def C_count_of (cl : Cl) : Ct := CtOf (S_count_of cl)
def S_questions_of (cl : Cl) : Sc := fun ds F R Φ => ∃ (d : D) (ms : List Int) (b : Bool), ds = [d, .bl b] ∧ seqF d ms F ∧ ms.length ≤ 63 ∧ ∀ q, Φ (.ref q) ((q, .lst (((goRun ms (rowB b ms.length)).2.map pr).map qD)) :: (F ++ R))
def C_questions_of (cl : Cl) : Ct := CtOf (S_questions_of cl)
def piecesD (ms : List Int) (row : List Nat) : List D := if 1 < row.length then [.tup [.int 0, .int (foundOf ms row []), .int row.length]] else []
def S_pieces_of (cl : Cl) : Sc := fun ds F R Φ => ∃ (d : D) (ms : List Int) (b : Bool), ds = [d, .bl b] ∧ seqF d ms F ∧ ms.length ≤ 63 ∧ ∀ q, Φ (.ref q) ((q, .lst (piecesD ms (rowB b ms.length))) :: (F ++ R))
def C_pieces_of (cl : Cl) : Ct := CtOf (S_pieces_of cl)
end DL

namespace DL
open PySem PySem.Spec PyProof.Rows L2
local macro_rules | `(tactic| walk_at "has") => `(tactic| first | exact Has.here | (apply Has.there; walk_at "has"))
local macro_rules | `(tactic| walk_at "hasl") => `(tactic| first | (refine Or.inl ?_; walk_at "has") | (refine Or.inr ?_; walk_at "has"))
local macro_rules | `(tactic| walk_at "sel") => `(tactic| first | exact Sel.here | (apply Sel.there; walk_at "sel"))
local macro_rules | `(tactic| walk_at "chg") => `(tactic| first | exact Chg.here | (apply Chg.there; walk_at "chg"))
local macro_rules | `(tactic| walk_at "pull") => `(tactic| first | exact Pull.nil | (apply Pull.cons; (walk_at "sel"); exact rfl; walk_at "pull"))
local macro_rules | `(tactic| walk_at "cov") => `(tactic| first | exact Cov.refl | (apply Cov.take; (walk_at "sel"); (first | exact rfl | assumption); walk_at "cov") | (apply Cov.take; (walk_at "sel"); rotate_left; walk_at "cov") | (refine Cov.drop ?_; walk_at "cov"))
local macro_rules | `(tactic| walk_at "sub") => `(tactic| first | exact Sub.nil | (refine Sub.same (by first | rfl | assumption) ?_; walk_at "sub") | (refine Sub.any ?_; walk_at "sub") | (refine Sub.same ?_ ?_; rotate_left; walk_at "sub"))
local macro_rules | `(tactic| walk_at "side") => `(tactic| first | assumption | (with_reducible rfl) | omega | (refine mulOk_r ?_ ?_ <;> first | omega | decide) | (refine mulOk_l ?_ ?_ <;> first | omega | decide) | (refine divOk_of ?_ ?_ <;> first | omega | decide) | (refine ⟨?_, ?_⟩ <;> walk_at "side") | exact Eq.refl _ | (simp <;> omega) | decide)
local macro_rules | `(tactic| walk_at "kn") => `(tactic| first | assumption | decide | rfl)
local macro_rules | `(tactic| walk_at "br") => `(tactic| first | (with_reducible first | refine Br.t ?_ | refine Br.f ?_) | ((with_reducible refine Br.dec_t ?_ ?_); focus walk_at "kn") | ((with_reducible refine Br.dec_f ?_ ?_); focus walk_at "kn") | ((with_reducible refine Br.ndec_t ?_ ?_); focus walk_at "kn") | ((with_reducible refine Br.ndec_f ?_ ?_); focus walk_at "kn") | (with_reducible first | (refine Br.dec ?_ ?_ <;> intro _) | (refine Br.ndec ?_ ?_ <;> intro _)) | refine Br.t ?_ | refine Br.f ?_ | (with_reducible refine Br.mk ?_ ?_ <;> intro _))
local macro_rules | `(tactic| walk_at "st") => `(tactic| ((try (conv => whnf)); first
  | walk_at "br"
  | with_reducible (intro _)
  | (refine ⟨_, (by walk_at "has" : Has _ _ _), ?_⟩)
  | (refine ⟨_, (by walk_at "hasl" : HasL _ _ _), ?_⟩)
  | (refine ⟨_, _, (by walk_at "chg" : Chg _ _ _ _ _), ?_⟩)
  | (refine ⟨_, _, _, (by walk_at "chg" : Chg _ _ _ _ _), (by first | rfl | assumption : ixN _ _ = some _), ?_⟩)
  | (refine ⟨_, _, (by walk_at "sel" : Sel _ _ _ _), ?_⟩)
  | (refine ⟨_, _, _, (by walk_at "has" : Has _ _ _), (by assumption), ?_⟩)
  | (refine ⟨_, (by first | rfl | assumption : atI _ _ = some _), ?_⟩)
  | (refine And.intro (by walk_at "side") ?_)))
local macro_rules | `(tactic| walk_at "st2") => `(tactic| first | walk_at "st" | ((try (conv => whnf)); with_reducible refine And.intro ?_ ?_; rotate_left))
local macro_rules | `(tactic| walk_at "go") => `(tactic| first | ((try (conv => whnf)); walk_at "br" <;> walk_at "go") | (walk_at "st"; walk_at "go") | (conv => whnf) | skip)
theorem call_rising {cl : Cl} {L R : LL} {Φ : DK} {r h mk la : Addr} {row : List Nat} {ms : List Int} {lg : Log} {a b : Int} (p e : Nat) (hp : Pull L ((r, rowO row) :: honF cl h mk la ms lg) R) (ei : a = p) (ej : b = e)
    (h1 : 1 ≤ p) (h2 : e ≤ row.length) (h3 : Row ms row) (h4 : (rising ms row e (e - p) p lg).2.length ≤ 1000000) (k : Φ (.int (rising ms row e (e - p) p lg).1) ((r, rowO row) :: honF cl h mk la ms (rising ms row e (e - p) p lg).2 ++ R)) :
    CtOf (S_rising_end cl) [.ref r, .int a, .int b, .ref h] L Φ := by
  subst ei ej
  exact ⟨_, _, hp, r, h, mk, la, row, ms, lg, p, e, rfl, rfl, ⟨h1, h2, h3, h4⟩, k⟩
theorem call_falling {cl : Cl} {L R : LL} {Φ : DK} {r h mk la : Addr} {row : List Nat} {ms : List Int} {lg : Log} {a b : Int} (p e : Nat) (hp : Pull L ((r, rowO row) :: honF cl h mk la ms lg) R) (ei : a = p) (ej : b = e)
    (h1 : 1 ≤ p) (h1' : p ≤ row.length) (h2 : e ≤ row.length) (hz : row.length ≤ 100000) (h3 : Row ms row) (h4 : (falling ms e (e - p) p 0 row lg).2.2.length ≤ 1000000)
    (k : Φ (.int (falling ms e (e - p) p 0 row lg).1) ((r, rowO (falling ms e (e - p) p 0 row lg).2.1) :: honF cl h mk la ms (falling ms e (e - p) p 0 row lg).2.2 ++ R)) :
    CtOf (S_falling_end cl) [.ref r, .int a, .int b, .ref h] L Φ := by
  subst ei ej
  exact ⟨_, _, hp, r, h, mk, la, row, ms, lg, p, e, rfl, rfl, ⟨h1, h1', h2, hz, h3, h4⟩, k⟩
theorem rd_falling_end (cl : Cl) (ds : List D) (F R : LL) (Φ : DK) (h : S_falling_end cl ds F R Φ) : t_falling_end cl (endD Φ) (startD 5 ds) (F ++ R) := by
  obtain ⟨r, a, mk, la, row0, ms, lg0, p0, e, rfl, rfl, ⟨h1, h1', h2, hz, h3, h4⟩, h⟩ := h
  walk_at "go"
  generalize he : falling ms e (e - p0) p0 0 row0 lg0 = res at h h4
  refine WhileI.inv (α := Nat × Nat × List Nat × Log) (fun x => [some (.ref r), some (.int x.1), some (.int e), some (.ref a), some (.int x.2.1)]) (fun x => (r, rowO x.2.2.1) :: honF cl a mk la ms x.2.2.2 ++ R)
    (fun x => 1 ≤ x.1 ∧ x.2.1 + 1 ≤ x.1 ∧ x.1 ≤ x.2.2.1.length ∧ x.2.2.1.length = row0.length ∧ Row ms x.2.2.1 ∧ falling ms e (e - x.1) x.1 x.2.1 x.2.2.1 x.2.2.2 = res) (fun x => e - x.1) (p0, 0, row0, lg0) (by walk_at "sub") .refl ⟨h1, by dsimp only; omega, h1', rfl, h3, he⟩ ?_
  rintro ⟨p, q, row, lg⟩ ⟨g0, g1, g2, g3, g4, g5⟩
  dsimp only at g0 g1 g2 g3 g4 g5 ⊢
  have gl := falling_grow ms e (e - p) p q row lg
  rw [g5] at gl
  walk_at "go"
  · rename_i hp
    refine ⟨_, atI_dn p rfl (by omega), ?_⟩
    walk_at "go"
    refine ⟨_, atI_dn (p - 1) (by omega) (by omega), ?_⟩
    walk_at "go"
    have ef : e - p = (e - (p + 1)) + 1 := by omega
    rw [ef] at g5
    unfold falling at g5
    rw [if_pos (by omega)] at g5
    refine call_less _ _ (by walk_at "pull") rfl rfl (g4.get (by omega)) (g4.get (by omega)) (by omega) ?_
    cases hl : lessN ms (row.getD p 0) (row.getD (p - 1) 0) with
    | true =>
      rw [hl, if_pos rfl] at g5
      walk_at "go"
      refine call_turn_equal p q (by walk_at "pull") rfl rfl (by omega) g2 (by omega) ?_
      walk_at "go"
      have tl := turnE_length (row := row) (p := p) (q := q) g2
      refine Nxt.mk (p + 1, 0, turnE row p q, _) (by walk_at "sub") ?_ ⟨by dsimp only; omega, by dsimp only; omega, by dsimp only; omega, by dsimp only; omega, g4.turnE _ _, g5⟩ (by show e - (p + 1) < e - p; omega)
      walk_at "cov"
    | false =>
      rw [hl, if_neg Bool.false_ne_true] at g5
      walk_at "go"
      refine ⟨_, atI_dn (p - 1) (by omega) (by omega), ?_⟩
      walk_at "go"
      refine ⟨_, atI_dn p rfl (by omega), ?_⟩
      walk_at "go"
      have gl2 : (lg ++ [(row.getD p 0, row.getD (p - 1) 0, false)]).length ≤ 1000000 := by
        cases hl2 : lessN ms (row.getD (p - 1) 0) (row.getD p 0) with
        | true =>
          rw [hl2, if_pos rfl] at g5
          rw [← g5] at h4
          simp at h4 ⊢
          omega
        | false =>
          rw [hl2, if_neg Bool.false_ne_true] at g5
          have := falling_grow ms e (e - (p + 1)) (p + 1) (q + 1) row ((lg ++ [(row.getD p 0, row.getD (p - 1) 0, false)]) ++ [(row.getD (p - 1) 0, row.getD p 0, false)])
          rw [g5] at this
          simp at this ⊢
          omega
      refine call_less _ _ (by walk_at "pull") rfl rfl (g4.get (by omega)) (g4.get (by omega)) gl2 ?_
      cases hl2 : lessN ms (row.getD (p - 1) 0) (row.getD p 0) with
      | true =>
        rw [hl2, if_pos rfl] at g5
        walk_at "go"
        refine call_turn_equal p q (by walk_at "pull") rfl rfl (by omega) g2 (by omega) ?_
        walk_at "go"
        rw [← g5] at h
        refine Ret.mk _ ?_ h
        walk_at "cov"
      | false =>
        rw [hl2, if_neg Bool.false_ne_true] at g5
        walk_at "go"
        refine Nxt.mk (p + 1, q + 1, row, _) (by walk_at "sub") ?_ ⟨by dsimp only; omega, by dsimp only; omega, by dsimp only; omega, g3, g4, g5⟩ (by show e - (p + 1) < e - p; omega)
        walk_at "cov"
  · rename_i hp
    refine call_turn_equal p q (by walk_at "pull") rfl rfl (by omega) g2 (by omega) ?_
    walk_at "go"
    rw [← g5, show e - p = 0 by omega] at h
    refine Ret.mk _ ?_ h
    walk_at "cov"
theorem rd_find_run (cl : Cl) (ds : List D) (F R : LL) (Φ : DK) (h : S_find_run cl ds F R Φ) : t_find_run cl (endD Φ) (startD 5 ds) (F ++ R) := by
  obtain ⟨r, a, mk, la, row, ms, lg, s, e, rfl, rfl, ⟨h1, h2, hz, h3, h4⟩, h⟩ := h
  walk_at "go"
  unfold findRun at h h4
  have g1 := rising_at ms row e (e - (s + 1)) (s + 1) lg
  have g2 : (rising ms row e (e - (s + 1)) (s + 1) lg).2.length ≤ 1000000 := by
    refine Nat.le_trans ?_ h4
    generalize rising ms row e (e - (s + 1)) (s + 1) lg = z
    unfold runAt runOn
    split
    · exact Nat.le_refl _
    · split
      · split
        · simp
        · refine Nat.le_trans ?_ (rising_grow ..)
          refine Nat.le_trans ?_ (falling_grow ..)
          simp
      · refine Nat.le_trans ?_ (rising_grow ..)
        exact falling_grow ..
  refine call_rising (s + 1) e (by walk_at "pull") (by omega) rfl (by omega) h2 h3 g2 ?_
  generalize rising ms row e (e - (s + 1)) (s + 1) lg = z at *
  obtain ⟨p, lg1⟩ := z
  dsimp only at g1 g2 h h4 ⊢
  unfold runAt at h h4
  have g3 := g1.1
  have g4 := g1.2 (by omega)
  walk_at "go"
  · rename_i hp
    rw [if_pos (by omega)] at h
    refine Ret.int .refl h (by dsimp only; omega)
  · rename_i hp hq
    rw [if_neg (by omega), if_pos (by omega)] at h h4
    refine ⟨_, atI_dn s rfl (by omega), ?_⟩
    walk_at "go"
    refine ⟨_, atI_dn (p - 1) (by omega) (by omega), ?_⟩
    walk_at "go"
    refine call_less _ _ (by walk_at "pull") rfl rfl (h3.get (by omega)) (h3.get (by omega)) g2 ?_
    cases hl : lessN ms (row.getD s 0) (row.getD (p - 1) 0) with
    | true =>
      rw [hl, if_pos rfl] at h h4
      walk_at "go"
      refine Ret.int ?_ h (by dsimp only; omega)
      walk_at "cov"
    | false =>
      rw [hl, if_neg Bool.false_ne_true] at h h4
      walk_at "go"
      refine call_turn_about s p (by walk_at "pull") rfl rfl (by omega) (by omega) hz ?_
      walk_at "go"
      have tl0 := turnN_length (row := row) (i := s) (j := p) (by omega) (by omega)
      unfold runOn at h h4
      have gl0 := falling_row ms e (e - (p + 1)) (p + 1) 0 (turnN row s p) (lg1 ++ [(row.getD s 0, row.getD (p - 1) 0, false)]) (by rw [tl0]; omega) (by rw [tl0]; omega)
      have gr := Row.falling (ms := ms) e (e - (p + 1)) (p + 1) 0 (turnN row s p) (lg1 ++ [(row.getD s 0, row.getD (p - 1) 0, false)]) (h3.turn _ _)
      have ga := falling_at ms e (e - (p + 1)) (p + 1) 0 (turnN row s p) (lg1 ++ [(row.getD s 0, row.getD (p - 1) 0, false)])
      refine call_falling (p + 1) e (by walk_at "pull") (by omega) rfl (by omega) (by rw [tl0]; omega) (by rw [tl0]; omega) (by rw [tl0]; omega) (h3.turn _ _) (Nat.le_trans (rising_grow ..) h4) ?_
      generalize falling ms e (e - (p + 1)) (p + 1) 0 (turnN row s p) (lg1 ++ [(row.getD s 0, row.getD (p - 1) 0, false)]) = z at *
      obtain ⟨p2, row3, lg3⟩ := z
      dsimp only at h h4 gl0 gr ga ⊢
      rw [tl0] at gl0
      have gb := ga.2 (by omega)
      walk_at "go"
      refine call_turn_about s p2 (by walk_at "pull") rfl rfl (by omega) (by omega) (by omega) ?_
      have tl := turnN_length (row := row3) (i := s) (j := p2) (by omega) (by omega)
      walk_at "go"
      refine call_rising p2 e (by walk_at "pull") rfl rfl (by omega) (by omega) (gr.turn _ _) h4 ?_
      have ra := rising_at ms (turnN row3 s p2) e (e - p2) p2 lg3
      walk_at "go"
      refine Ret.int ?_ h (by omega)
      walk_at "cov"
  · rename_i hp hq
    rw [if_neg (by omega), if_neg (by omega)] at h h4
    have tl0 : row.length = row.length := rfl
    unfold runOn at h h4
    have gl0 := falling_row ms e (e - (p + 1)) (p + 1) 0 row lg1 (by rw [tl0]; omega) (by rw [tl0]; omega)
    have gr := Row.falling (ms := ms) e (e - (p + 1)) (p + 1) 0 row lg1 h3
    have ga := falling_at ms e (e - (p + 1)) (p + 1) 0 row lg1
    refine call_falling (p + 1) e (by walk_at "pull") (by omega) rfl (by omega) (by rw [tl0]; omega) (by rw [tl0]; omega) (by rw [tl0]; omega) h3 (Nat.le_trans (rising_grow ..) h4) ?_
    generalize falling ms e (e - (p + 1)) (p + 1) 0 row lg1 = z at *
    obtain ⟨p2, row3, lg3⟩ := z
    dsimp only at h h4 gl0 gr ga ⊢
    rw [tl0] at gl0
    have gb := ga.2 (by omega)
    walk_at "go"
    refine call_turn_about s p2 (by walk_at "pull") rfl rfl (by omega) (by omega) (by omega) ?_
    have tl := turnN_length (row := row3) (i := s) (j := p2) (by omega) (by omega)
    walk_at "go"
    refine call_rising p2 e (by walk_at "pull") rfl rfl (by omega) (by omega) (gr.turn _ _) h4 ?_
    have ra := rising_at ms (turnN row3 s p2) e (e - p2) p2 lg3
    walk_at "go"
    refine Ret.int ?_ h (by omega)
    walk_at "cov"
end DL

namespace DL
open PySem PySem.Spec PyProof.Rows L2
def t_place_one (cl : Cl) : TS' :=
  tSeq' (tPar3' 4 5 6 (tCons' (tBin' fIx (tVar' 0) (tBin' fAdd (tVar' 1) (tVar' 2))) (tCons' (tC' (.int 0)) (tCons' (tVar' 2) (tNil')))))
  (tSeq' (tWhile' (tTst' (tBin' fLt (tVar' 5) (tVar' 6))) (tSeq' (tAsg' (tBin' fFdiv (tBin' fAdd (tVar' 5) (tVar' 6)) (tC' (.int 2))) (gName' 7))
  (tIfS' (tTru' (tMeth' cl.Honest (C_Honest_less cl) [] (tVar' 3) (tCons' (tVar' 4) (tCons' (tBin' fIx (tVar' 0) (tBin' fAdd (tVar' 1) (tVar' 7))) (tNil'))))) (tAsg' (tVar' 7) (gName' 6)) (tAsg' (tBin' fAdd (tVar' 7) (tC' (.int 1))) (gName' 5)))))
  (tAsg' (tLst' (tCons' (tVar' 4) (tStar' (tSl' (tVar' 0) (tPart' (tBin' fAdd (tVar' 1) (tVar' 5))) (tPart' (tBin' fAdd (tVar' 1) (tVar' 2)))) (tNil')))) (gSlc' (tVar' 0) (tBin' fAdd (tVar' 1) (tVar' 5)) (tBin' fAdd (tBin' fAdd (tVar' 1) (tVar' 2)) (tC' (.int 1))))))
-- row start index asker item low high middle
def t_place_all (cl : Cl) : TS' :=
  tFor' (iRng2' (tCons' (tCB' fMax2 (tCons' (tC' (.int 1)) (tCons' (tVar' 3) (tNil')))) (tCons' (tBin' fSub (tVar' 2) (tVar' 1)) (tNil')))) (gName' 5) (tDrop' (tCall' (C_place_one cl) [] (tCons' (tVar' 0) (tCons' (tVar' 1) (tCons' (tVar' 5) (tCons' (tVar' 4) (tNil')))))))
-- row start end ready asker index
def t_Joiner___init__ (cl : Cl) : TS' :=
  tSeq' (tAsg' (tTup' (tCons' (tVar' 1) (tCons' (tVar' 2) (tNil')))) (gTup' 2 (gCons' (gFld' cl.Joiner 6 (tVar' 0)) (gCons' (gFld' cl.Joiner 17 (tVar' 0)) (gNil')))))
  (tAsg' (tTup' (tCons' (tTup' (tCons' (tC' (.int 0)) (tCons' (tC' (.int 0)) (tNil')))) (tCons' (tLst' (tNil')) (tNil')))) (gTup' 2 (gCons' (gFld' cl.Joiner 29 (tVar' 0)) (gCons' (gFld' cl.Joiner 30 (tVar' 0)) (gNil')))))
-- self asker patience
def t_Sorting___init__ (cl : Cl) : TS' :=
  tSeq' (tAsg' (tTup' (tCons' (tLstRg1' (tVar' 1)) (tCons' (tVar' 2) (tCons' (tVar' 3) (tNil'))))) (gTup' 3 (gCons' (gFld' cl.Sorting 4 (tVar' 0)) (gCons' (gFld' cl.Sorting 5 (tVar' 0)) (gCons' (gFld' cl.Sorting 6 (tVar' 0)) (gNil'))))))
  (tSeq' (tAsg' (tTup' (tCons' (tMake' cl.Joiner (C_Joiner___init__ cl) [.int 7] (tCons' (tVar' 3) (tNil'))) (tCons' (tLst' (tNil')) (tCons' (tLst' (tNil')) (tCons' (tTup' (tCons' (tC' (.str "end")) (tNil'))) (tNil')))))) (gTup' 4 (gCons' (gFld' cl.Sorting 7 (tVar' 0)) (gCons' (gFld' cl.Sorting 8 (tVar' 0)) (gCons' (gFld' cl.Sorting 9 (tVar' 0)) (gCons' (gFld' cl.Sorting 10 (tVar' 0)) (gNil')))))))
  (tIfS' (tTru' (tVar' 2)) (tDrop' (tLM0' fReverse (tFld' cl.Sorting 4 (tVar' 0)))) (tNext')))
-- self many is_turned asker
def t_Sorting_next_piece_s5 (cl : Cl) : TS' :=
  tSeq' (tDrop' (tLM' fAppend (tFld' cl.Sorting 9 (tVar' 0)) (tCons' (tTup' (tCons' (tC' (.str "piece")) (tCons' (tVar' 1) (tCons' (tVar' 3) (tCons' (tVar' 4) (tCons' (tCB' fLen (tCons' (tFld' cl.Honest 1 (tFld' cl.Sorting 6 (tVar' 0))) (tNil'))) (tNil'))))))) (tNil'))))
  (tSeq' (tIfS' (tTst' (tBin' fNe (tFld' cl.Sorting 8 (tVar' 0)) (tLst' (tNil')))) (tDrop' (tMeth' cl.Sorting (C_Sorting_make_room cl) [] (tVar' 0) (tCons' (tVar' 4) (tNil')))) (tNext'))
  (tSeq' (tDrop' (tLM' fAppend (tFld' cl.Sorting 8 (tVar' 0)) (tCons' (tTup' (tCons' (tVar' 1) (tCons' (tVar' 4) (tCons' (tC' .non) (tNil'))))) (tNil'))))
  (tRet' (tVar' 4))))
def t_Sorting_next_piece (cl : Cl) : TS' :=
  tSeq' (tAsg' (tCB' fLen (tCons' (tFld' cl.Sorting 4 (tVar' 0)) (tNil'))) (gName' 2))
  (tSeq' (tFldS' cl.Sorting 10 (tVar' 0) (tTup' (tCons' (tC' (.str "run")) (tCons' (tVar' 1) (tNil')))))
  (tSeq' (tAsg2' (tCall' (C_find_run cl) [] (tCons' (tFld' cl.Sorting 4 (tVar' 0)) (tCons' (tVar' 1) (tCons' (tVar' 2) (tCons' (tFld' cl.Sorting 6 (tVar' 0)) (tNil')))))) (gName' 3) (gName' 4))
  (tSeq' (tAsg' (tCall' (C_least_of cl) [] (tCons' (tVar' 2) (tNil'))) (gName' 5))
  (tSeq' (tIfS' (tTst' (tBin' fLt (tVar' 4) (tVar' 5))) (tSeq' (tAsg' (tCB' fMin2 (tCons' (tVar' 5) (tCons' (tBin' fSub (tVar' 2) (tVar' 1)) (tNil')))) (gName' 4))
  (tSeq' (tFldS' cl.Sorting 10 (tVar' 0) (tTup' (tCons' (tC' (.str "place")) (tCons' (tVar' 1) (tCons' (tVar' 4) (tNil'))))))
  (tDrop' (tCall' (C_place_all cl) [] (tCons' (tFld' cl.Sorting 4 (tVar' 0)) (tCons' (tVar' 1) (tCons' (tBin' fAdd (tVar' 1) (tVar' 4)) (tCons' (tVar' 3) (tCons' (tFld' cl.Sorting 6 (tVar' 0)) (tNil')))))))))) (tNext'))
  (tWk' (t_Sorting_next_piece_s5 cl))))))
-- self start many found length least
def t_Sorting_go (cl : Cl) : TS' :=
  tSeq' (tIfS' (tTst' (tBin' fGt (tCB' fLen (tCons' (tFld' cl.Sorting 4 (tVar' 0)) (tNil'))) (tC' (.int 1)))) (tSeq' (tAsg' (tC' (.int 0)) (gName' 1))
  (tSeq' (tWhile' (tTst' (tBin' fLt (tVar' 1) (tCB' fLen (tCons' (tFld' cl.Sorting 4 (tVar' 0)) (tNil'))))) (tAug' 1 (tMeth' cl.Sorting (C_Sorting_next_piece cl) [] (tVar' 0) (tCons' (tVar' 1) (tNil'))) (fI fun i j => .int (i + j))))
  (tWhile' (tTst' (tBin' fGt (tCB' fLen (tCons' (tFld' cl.Sorting 8 (tVar' 0)) (tNil'))) (tC' (.int 1)))) (tSeq' (tAsg' (tBin' fSub (tCB' fLen (tCons' (tFld' cl.Sorting 8 (tVar' 0)) (tNil'))) (tC' (.int 2))) (gName' 2))
  (tSeq' (tIfS' (tAnd' (tTst' (tBin' fGt (tVar' 2) (tC' (.int 0)))) (tTst' (tBin' fLt (tBin' fIx (tBin' fIx (tFld' cl.Sorting 8 (tVar' 0)) (tBin' fSub (tVar' 2) (tC' (.int 1)))) (tC' (.int 1))) (tBin' fIx (tBin' fIx (tFld' cl.Sorting 8 (tVar' 0)) (tBin' fAdd (tVar' 2) (tC' (.int 1)))) (tC' (.int 1)))))) (tAug' 2 (tC' (.int 1)) (fI fun i j => .int (i - j))) (tNext'))
  (tDrop' (tMeth' cl.Sorting (C_Sorting_join_at cl) [] (tVar' 0) (tCons' (tVar' 2) (tNil'))))))))) (tNext'))
  (tFldS' cl.Sorting 10 (tVar' 0) (tTup' (tCons' (tC' (.str "end")) (tNil'))))
-- self start place
def t_sorted_by (cl : Cl) : TS' :=
  tSeq' (tDrop' (tCall' (C_require_keys cl) [.int 2000] (tCons' (tVar' 0) (tNil'))))
  (tSeq' (tDrop' (tCall' (C_require_bool cl) [] (tCons' (tC' (.str "reverse")) (tCons' (tVar' 1) (tNil')))))
  (tSeq' (tAsg' (tMake' cl.Sorting (C_Sorting___init__ cl) [] (tCons' (tCB' fLen (tCons' (tVar' 0) (tNil'))) (tCons' (tVar' 1) (tCons' (tMake' cl.Honest (C_Honest___init__ cl) [] (tCons' (tVar' 0) (tNil'))) (tNil'))))) (gName' 2))
  (tSeq' (tDrop' (tMeth0' cl.Sorting (C_Sorting_go cl) [] (tVar' 2)))
  (tRet' (tVar' 2)))))
-- keys reverse sorting
def t_count_of (cl : Cl) : TS' :=
  tRet' (tCB' fLen (tCons' (tFld' cl.Honest 1 (tFld' cl.Sorting 6 (tCall' (C_sorted_by cl) [] (tCons' (tVar' 0) (tCons' (tVar' 1) (tNil')))))) (tNil')))
-- keys reverse
def t_questions_of (cl : Cl) : TS' :=
  tRet' (tLc' (iSeq' (tFld' cl.Honest 1 (tFld' cl.Sorting 6 (tCall' (C_sorted_by cl) [] (tCons' (tVar' 0) (tCons' (tVar' 1) (tNil'))))))) (gTup' 2 (gCons' (gName' 2) (gCons' (gName' 3) (gNil')))) (tYes') (tVar' 2) [2, 3])
-- keys reverse question answer
def t_pieces_of (cl : Cl) : TS' :=
  tRet' (tLc' (iSeq' (tFld' cl.Sorting 9 (tCall' (C_sorted_by cl) [] (tCons' (tVar' 0) (tCons' (tVar' 1) (tNil')))))) (gName' 2) (tTst' (tBin' fEq (tBin' fIx (tVar' 2) (tC' (.int 0))) (tC' (.str "piece")))) (tSl' (tVar' 2) (tPart' (tC' (.int 1))) (tPart' (tC' (.int 4)))) [2])
-- keys reverse step
end DL

namespace DL
open PySem PySem.Spec PyProof.Rows L2
local macro_rules | `(tactic| walk_at "has") => `(tactic| first | exact Has.here | (apply Has.there; walk_at "has"))
local macro_rules | `(tactic| walk_at "hasl") => `(tactic| first | (refine Or.inl ?_; walk_at "has") | (refine Or.inr ?_; walk_at "has"))
local macro_rules | `(tactic| walk_at "sel") => `(tactic| first | exact Sel.here | (apply Sel.there; walk_at "sel"))
local macro_rules | `(tactic| walk_at "chg") => `(tactic| first | exact Chg.here | (apply Chg.there; walk_at "chg"))
local macro_rules | `(tactic| walk_at "pull") => `(tactic| first | exact Pull.nil | (apply Pull.cons; (walk_at "sel"); exact rfl; walk_at "pull"))
local macro_rules | `(tactic| walk_at "cov") => `(tactic| first | exact Cov.refl | (apply Cov.take; (walk_at "sel"); (first | exact rfl | assumption); walk_at "cov") | (apply Cov.take; (walk_at "sel"); rotate_left; walk_at "cov") | (refine Cov.drop ?_; walk_at "cov"))
local macro_rules | `(tactic| walk_at "sub") => `(tactic| first | exact Sub.nil | (refine Sub.same (by first | rfl | assumption) ?_; walk_at "sub") | (refine Sub.any ?_; walk_at "sub") | (refine Sub.same ?_ ?_; rotate_left; walk_at "sub"))
local macro_rules | `(tactic| walk_at "side") => `(tactic| first | assumption | (with_reducible rfl) | omega | (refine mulOk_r ?_ ?_ <;> first | omega | decide) | (refine mulOk_l ?_ ?_ <;> first | omega | decide) | (refine divOk_of ?_ ?_ <;> first | omega | decide) | (refine ⟨?_, ?_⟩ <;> walk_at "side") | exact Eq.refl _ | (simp <;> omega) | decide)
local macro_rules | `(tactic| walk_at "kn") => `(tactic| first | assumption | decide | rfl)
local macro_rules | `(tactic| walk_at "br") => `(tactic| first | (with_reducible first | refine Br.t ?_ | refine Br.f ?_) | ((with_reducible refine Br.dec_t ?_ ?_); focus walk_at "kn") | ((with_reducible refine Br.dec_f ?_ ?_); focus walk_at "kn") | ((with_reducible refine Br.ndec_t ?_ ?_); focus walk_at "kn") | ((with_reducible refine Br.ndec_f ?_ ?_); focus walk_at "kn") | (with_reducible first | (refine Br.dec ?_ ?_ <;> intro _) | (refine Br.ndec ?_ ?_ <;> intro _)) | refine Br.t ?_ | refine Br.f ?_ | (with_reducible refine Br.mk ?_ ?_ <;> intro _))
local macro_rules | `(tactic| walk_at "st") => `(tactic| ((try (conv => whnf)); first
  | walk_at "br"
  | with_reducible (intro _)
  | (refine ⟨_, (by walk_at "has" : Has _ _ _), ?_⟩)
  | (refine ⟨_, (by walk_at "hasl" : HasL _ _ _), ?_⟩)
  | (refine ⟨_, _, (by walk_at "chg" : Chg _ _ _ _ _), ?_⟩)
  | (refine ⟨_, _, _, (by walk_at "chg" : Chg _ _ _ _ _), (by first | rfl | assumption : ixN _ _ = some _), ?_⟩)
  | (refine ⟨_, _, (by walk_at "sel" : Sel _ _ _ _), ?_⟩)
  | (refine ⟨_, _, _, (by walk_at "has" : Has _ _ _), (by assumption), ?_⟩)
  | (refine ⟨_, (by first | rfl | assumption : atI _ _ = some _), ?_⟩)
  | (refine And.intro (by walk_at "side") ?_)))
local macro_rules | `(tactic| walk_at "st2") => `(tactic| first | walk_at "st" | ((try (conv => whnf)); with_reducible refine And.intro ?_ ?_; rotate_left))
local macro_rules | `(tactic| walk_at "go") => `(tactic| first | ((try (conv => whnf)); walk_at "br" <;> walk_at "go") | (walk_at "st"; walk_at "go") | (conv => whnf) | skip)
theorem placeGo_log (ms : List Int) (row : List Nat) (s item : Nat) : ∀ f lo hi l, hi - lo ≤ f → (placeGo ms row s item f lo hi l).2.length ≤ l.length + (hi - lo) ∧ lo ≤ (placeGo ms row s item f lo hi l).1 ∧ ((placeGo ms row s item f lo hi l).1 ≤ hi ∨ hi < lo)
  | 0, lo, hi, l, h => ⟨Nat.le_add_right _ _, Nat.le_refl _, by show lo ≤ hi ∨ hi < lo; omega⟩
  | f + 1, lo, hi, l, h => by
    unfold placeGo
    split
    · split
      · have := placeGo_log ms row s item f lo ((lo + hi) / 2) (l ++ [(item, row.getD (s + (lo + hi) / 2) 0, true)]) (by omega)
        rw [List.length_append] at this
        simp only [List.length_singleton] at this
        omega
      · have := placeGo_log ms row s item f ((lo + hi) / 2 + 1) hi (l ++ [(item, row.getD (s + (lo + hi) / 2) 0, false)]) (by omega)
        rw [List.length_append] at this
        simp only [List.length_singleton] at this
        omega
    · exact ⟨Nat.le_add_right _ _, Nat.le_refl _, by show lo ≤ hi ∨ hi < lo; omega⟩
theorem insN_length {row : List Nat} {s i lo : Nat} (h : lo ≤ i) (h2 : s + i < row.length) : (insN row s i lo).length = row.length := by
  unfold insN
  simp only [List.length_append, List.length_take, List.length_cons, List.length_drop]
  omega
theorem insN_mem {row : List Nat} {s i lo x : Nat} (h2 : s + i < row.length) (h : x ∈ insN row s i lo) : x ∈ row := by
  unfold insN at h
  rcases List.mem_append.mp h with h | h
  · rcases List.mem_append.mp h with h | h
    · exact List.mem_of_mem_take h
    · rcases List.mem_cons.mp h with h | h
      · subst h
        have : row.getD (s + i) 0 = row[s + i] := by simp [List.getD, List.getElem?_eq_getElem h2]
        rw [this]
        exact List.getElem_mem h2
      · exact List.mem_of_mem_drop (List.mem_of_mem_take h)
  · exact List.mem_of_mem_drop h
theorem placeOne_fact {ms : List Int} {row : List Nat} {s i : Nat} {l : Log} (h : s + i < row.length) (hr : Row ms row) : (placeOne ms row s i l).1.length = row.length ∧ Row ms (placeOne ms row s i l).1 ∧ (placeOne ms row s i l).2.length ≤ l.length + i := by
  have g := placeGo_log ms row s (row.getD (s + i) 0) i 0 i l (by omega)
  refine ⟨insN_length (by omega) h, fun x hx => hr x (insN_mem h hx), by show (placeGo _ _ _ _ _ _ _ _).2.length ≤ _; omega⟩
theorem rd_place_one (cl : Cl) (ds : List D) (F R : LL) (Φ : DK) (h : S_place_one cl ds F R Φ) : t_place_one cl (endD Φ) (startD 8 ds) (F ++ R) := by
  obtain ⟨r, a, mk, la, row, ms, lg, s, i, rfl, rfl, ⟨h1, h2, h3, h4⟩, h⟩ := h
  walk_at "go"
  refine ⟨_, atI_dn (s + i) (by omega) h1, ?_⟩
  walk_at "go"
  unfold placeOne at h
  generalize he : placeGo ms row s (row.getD (s + i) 0) i 0 i lg = res at h
  have hres := placeGo_log ms row s (row.getD (s + i) 0) i 0 i lg (by omega)
  rw [he] at hres
  refine WhileI.inv (α := Nat × Nat × Nat × Log) (fun x => [some (.ref r), some (.int s), some (.int i), some (.ref a), some (dn (row.getD (s + i) 0)), some (.int x.2.1), some (.int x.2.2.1), none])
    (fun x => (r, rowO row) :: honF cl a mk la ms x.2.2.2 ++ R)
    (fun x => x.2.2.1 ≤ i ∧ x.2.2.1 - x.2.1 ≤ x.1 ∧ x.2.2.2.length + (x.2.2.1 - x.2.1) ≤ 1000000 ∧ placeGo ms row s (row.getD (s + i) 0) x.1 x.2.1 x.2.2.1 x.2.2.2 = res) (fun x => x.2.2.1 - x.2.1) (i, 0, i, lg) (by walk_at "sub") .refl ⟨Nat.le_refl _, (by dsimp only; omega), (by dsimp only; omega), he⟩ ?_
  rintro ⟨f, lo, hi, l⟩ ⟨g1, g2, g3, g4⟩
  dsimp only at g1 g2 g3 g4 ⊢
  walk_at "go"
  · rename_i z
    have z : lo < hi := by omega
    obtain ⟨f', rfl⟩ : ∃ f', f = f' + 1 := ⟨f - 1, by omega⟩
    unfold placeGo at g4
    rw [if_pos z] at g4
    refine ⟨_, atI_dn (s + (lo + hi) / 2) (by omega) (by omega), ?_⟩
    walk_at "go"
    refine call_less _ _ (by walk_at "pull") rfl rfl (h3.get h1) (h3.get (by omega)) (by omega) ?_
    cases hb : lessN ms (row.getD (s + i) 0) (row.getD (s + (lo + hi) / 2) 0) with
    | true =>
      rw [hb] at g4
      simp only [if_true] at g4
      walk_at "go"
      refine Nxt.mk (f', lo, (lo + hi) / 2, l ++ [(row.getD (s + i) 0, row.getD (s + (lo + hi) / 2) 0, true)]) ?_ ?_ ⟨by dsimp only; omega, by dsimp only; omega, by dsimp only; rw [List.length_append]; simp only [List.length_singleton]; omega, g4⟩ (by dsimp only; omega)
      · walk_at "sub"
      · walk_at "cov"
    | false =>
      rw [hb] at g4
      simp only [Bool.false_eq_true, if_false] at g4
      walk_at "go"
      refine Nxt.mk (f', (lo + hi) / 2 + 1, hi, l ++ [(row.getD (s + i) 0, row.getD (s + (lo + hi) / 2) 0, false)]) ?_ ?_ ⟨by dsimp only; omega, by dsimp only; omega, by dsimp only; rw [List.length_append]; simp only [List.length_singleton]; omega, g4⟩ (by dsimp only; omega)
      · walk_at "sub"
      · walk_at "cov"
  · rename_i z
    have z : ¬ lo < hi := by omega
    have e : placeGo ms row s (row.getD (s + i) 0) f lo hi l = (lo, l) := by
      cases f with
      | zero => rfl
      | succ f => unfold placeGo; rw [if_neg z]
    rw [e] at g4
    subst g4
    dsimp only at hres h
    have hlo : lo ≤ i := by omega
    have e1 : cutD (row.map dn) (some ((s : Int) + (lo : Int))) (some ((s : Int) + (i : Int))) = ((row.map dn).drop (s + lo)).take (s + i - (s + lo)) := cutD_nat (s + lo) (s + i) (by omega) (by omega) (by omega) (by simp; omega)
    have e2 : (cutD (row.map dn) (some ((s : Int) + (lo : Int))) (some ((s : Int) + (i : Int)))).length = i - lo := by
      rw [e1]; simp; omega
    walk_at "go"
    rw [e1]
    refine Ret.mk _ ?_ h
    walk_at "cov"
    have e3 : s + i - (s + lo) = i - lo := by omega
    have e4 : ((s : Int) + lo).toNat = s + lo := by omega
    have e5 : ((s : Int) + i + 1).toNat = s + i + 1 := by omega
    simp [insN, e3, e4, e5]
theorem call_place_one {cl : Cl} {L R : LL} {Φ : DK} {r h mk la : Addr} {row : List Nat} {ms : List Int} {lg : Log} {a b : Int} (s i : Nat) (hp : Pull L ((r, rowO row) :: honF cl h mk la ms lg) R) (ei : a = s) (ej : b = i)
    (h1 : s + i < row.length) (h2 : row.length ≤ 100000) (h3 : Row ms row) (h4 : lg.length + i ≤ 1000000) (k : Φ .non ((r, rowO (placeOne ms row s i lg).1) :: honF cl h mk la ms (placeOne ms row s i lg).2 ++ R)) : CtOf (S_place_one cl) [.ref r, .int a, .int b, .ref h] L Φ := by
  subst ei ej
  exact ⟨_, _, hp, r, h, mk, la, row, ms, lg, s, i, rfl, rfl, ⟨h1, h2, h3, h4⟩, k⟩
theorem rd_place_all (cl : Cl) (ds : List D) (F R : LL) (Φ : DK) (h : S_place_all cl ds F R Φ) : t_place_all cl (endD Φ) (startD 6 ds) (F ++ R) := by
  obtain ⟨r, a, mk, la, row0, ms, lg0, s, e, k, rfl, rfl, ⟨h1, h2, h3, h4, h5, hk, h6⟩, h⟩ := h
  have em : (if (k : Int) > 1 then (k : Int) else 1) = ((max 1 k : Nat) : Int) := by split <;> omega
  generalize hm : max 1 k = m at *
  walk_at "go"
  rw [em]
  walk_at "go"
  generalize he : placeAll ms s (e - s - m) m row0 lg0 = res at h
  refine ForI.inv (α := List Nat × Log) (fun j x => [some (.ref r), some (.int s), some (.int e), some (.int k), some (.ref a), none]) (fun j x => (r, rowO x.1) :: honF cl a mk la ms x.2 ++ R)
    (fun j x => x.1.length = row0.length ∧ Row ms x.1 ∧ x.2.length ≤ 900000 + 64 * j ∧ placeAll ms s (e - s - m - j) (m + j) x.1 x.2 = res) (row0, lg0) (by walk_at "sub") .refl ⟨rfl, h4, by simpa using h6, he⟩ ?_ ?_
  · rintro j ⟨row, lg⟩ d hd ⟨g1, g2, g3, g4⟩
    obtain ⟨hj, rfl⟩ := rgD_get hd
    dsimp only at g1 g2 g3 g4 ⊢
    have hj' : m + j < e - s := by omega
    refine ⟨trivial, ?_⟩
    walk_at "go"
    refine call_place_one s (m + j) (by walk_at "pull") rfl (by omega) (by omega) (by omega) g2 (by omega) ?_
    walk_at "go"
    have pf := placeOne_fact (l := lg) (show s + (m + j) < row.length by omega) g2
    refine Nx1.mk (placeOne ms row s (m + j) lg) (by walk_at "sub") (by walk_at "cov") ⟨by omega, pf.2.1, by omega, ?_⟩
    have e2 : e - s - m - j = (e - s - m - (j + 1)) + 1 := by omega
    rw [e2] at g4
    exact g4
  · rintro ⟨row, lg⟩ ⟨g1, g2, g3, g4⟩
    rw [rgD_length] at g3 g4
    dsimp only at g4
    have e2 : e - s - m - ((e : Int) - s - m).toNat = 0 := by omega
    rw [e2] at g4
    refine ⟨trivial, ?_⟩
    subst g4
    exact Ret.mk _ .refl h
end DL

/-! what runs ask -/
namespace DL
theorem rising_spec (ms : List Int) (row : List Nat) (e : Nat) : ∀ f p l, p ≤ e → e - p ≤ f →
    (rising ms row e f p l).2.length = l.length + ((rising ms row e f p l).1 - p) + (if (rising ms row e f p l).1 < e then 1 else 0) ∧
    (∀ i, p ≤ i → i < (rising ms row e f p l).1 → lessN ms (row.getD i 0) (row.getD (i - 1) 0) = false) ∧
    ((rising ms row e f p l).1 < e → lessN ms (row.getD (rising ms row e f p l).1 0) (row.getD ((rising ms row e f p l).1 - 1) 0) = true)
  | 0, p, l, h1, h2 => by
    have : p = e := by omega
    subst this
    exact ⟨by simp [rising], fun i a b => by simp [rising] at b; omega, fun h => by simp [rising] at h⟩
  | f + 1, p, l, h1, h2 => by
    have g := rising_at ms row e (f + 1) p l
    unfold rising at g ⊢
    split
    · rename_i z
      cases hb : lessN ms (row.getD p 0) (row.getD (p - 1) 0) with
      | true =>
        simp only [if_true]
        refine ⟨by simp [z], fun i a b => by omega, fun _ => hb⟩
      | false =>
        simp only [Bool.false_eq_true, if_false]
        have ih := rising_spec ms row e f (p + 1) (l ++ [(row.getD p 0, row.getD (p - 1) 0, false)]) (by omega) (by omega)
        have gi := rising_at ms row e f (p + 1) (l ++ [(row.getD p 0, row.getD (p - 1) 0, false)])
        refine ⟨?_, fun i a b => ?_, ih.2.2⟩
        · have := ih.1
          rw [List.length_append] at this
          simp only [List.length_singleton] at this
          omega
        · rcases Nat.lt_or_ge p i with q | q
          · exact ih.2.1 i q b
          · have : i = p := by omega
            subst this
            exact hb
    · rename_i z
      have : p = e := by omega
      subst this
      exact ⟨by simp, fun i a b => by omega, fun h => by omega⟩
/-- how many of the asked were equal -/
theorem falling_spec (ms : List Int) (e : Nat) : ∀ f p q row l, p ≤ e → e - p ≤ f →
    ∃ c, c ≤ (falling ms e f p q row l).1 - p ∧ (falling ms e f p q row l).2.2.length = l.length + ((falling ms e f p q row l).1 - p) + c + (if (falling ms e f p q row l).1 < e then 2 else 0)
  | 0, p, q, row, l, h1, h2 => by
    have : p = e := by omega
    subst this
    exact ⟨0, Nat.zero_le _, by simp [falling]⟩
  | f + 1, p, q, row, l, h1, h2 => by
    unfold falling
    split
    · rename_i z
      split
      · obtain ⟨c, hc, ih⟩ := falling_spec ms e f (p + 1) 0 (turnE row p q) (l ++ [(row.getD p 0, row.getD (p - 1) 0, true)]) (by omega) (by omega)
        have gi := falling_at ms e f (p + 1) 0 (turnE row p q) (l ++ [(row.getD p 0, row.getD (p - 1) 0, true)])
        rw [List.length_append] at ih
        simp only [List.length_singleton] at ih
        exact ⟨c, by omega, by omega⟩
      · split
        · exact ⟨0, Nat.zero_le _, by simp [z]⟩
        · obtain ⟨c, hc, ih⟩ := falling_spec ms e f (p + 1) (q + 1) row ((l ++ [(row.getD p 0, row.getD (p - 1) 0, false)]) ++ [(row.getD (p - 1) 0, row.getD p 0, false)]) (by omega) (by omega)
          have gi := falling_at ms e f (p + 1) (q + 1) row ((l ++ [(row.getD p 0, row.getD (p - 1) 0, false)]) ++ [(row.getD (p - 1) 0, row.getD p 0, false)])
          rw [List.length_append, List.length_append] at ih
          simp only [List.length_singleton] at ih
          exact ⟨c + 1, by omega, by omega⟩
    · have : p = e := by omega
      subst this
      exact ⟨0, Nat.zero_le _, by simp⟩
/-- a run: its length, and what it asks -/
theorem findRun_spec (ms : List Int) (row : List Nat) (s e : Nat) (l : Log) (h : s < e) :
    1 ≤ (findRun ms row s e l).1 ∧ (findRun ms row s e l).1 ≤ e - s ∧ (findRun ms row s e l).2.2.length + 1 ≥ l.length + (findRun ms row s e l).1 ∧
    ((findRun ms row s e l).1 < e - s → (findRun ms row s e l).2.2.length ≥ l.length + (findRun ms row s e l).1 ∧ 2 ≤ (findRun ms row s e l).1 ∨ e ≤ s) ∧
    (findRun ms row s e l).2.2.length ≤ l.length + 2 * (findRun ms row s e l).1 ∧ (1 < e - s → 2 ≤ (findRun ms row s e l).1) := by
  unfold findRun
  have g := rising_at ms row e (e - (s + 1)) (s + 1) l
  have sp := rising_spec ms row e (e - (s + 1)) (s + 1) l (by omega) (by omega)
  generalize rising ms row e (e - (s + 1)) (s + 1) l = z at *
  obtain ⟨p, l1⟩ := z
  dsimp only at g sp ⊢
  have g1 := g.1
  have g2 := g.2 (by omega)
  have sp1 := sp.1
  have on : ∀ row1 l2, p < e → 1 ≤ (runOn ms e s p row1 l2).1 ∧ p + 1 - s ≤ (runOn ms e s p row1 l2).1 ∧ (runOn ms e s p row1 l2).1 ≤ e - s ∧
      l2.length + ((runOn ms e s p row1 l2).1 + s - (p + 1)) + (if (runOn ms e s p row1 l2).1 < e - s then 1 else 0) ≤ (runOn ms e s p row1 l2).2.2.length ∧
      (runOn ms e s p row1 l2).2.2.length ≤ l2.length + 2 * ((runOn ms e s p row1 l2).1 + s - (p + 1)) + 3 := fun row1 l2 hp => by
    unfold runOn
    have fa := falling_at ms e (e - (p + 1)) (p + 1) 0 row1 l2
    obtain ⟨c, hc, fs⟩ := falling_spec ms e (e - (p + 1)) (p + 1) 0 row1 l2 (by omega) (by omega)
    generalize falling ms e (e - (p + 1)) (p + 1) 0 row1 l2 = zf at *
    obtain ⟨pf, rowf, lf⟩ := zf
    dsimp only at fa hc fs ⊢
    have fa1 := fa.1
    have fa2 := fa.2 (by omega)
    have ra := rising_at ms (turnN rowf s pf) e (e - pf) pf lf
    have rs := (rising_spec ms (turnN rowf s pf) e (e - pf) pf lf (by omega) (by omega)).1
    generalize rising ms (turnN rowf s pf) e (e - pf) pf lf = zr at *
    obtain ⟨pr, lr⟩ := zr
    dsimp only at ra rs ⊢
    have ra1 := ra.1
    have ra2 := ra.2 (by omega)
    split at fs <;> split at rs <;> (refine ⟨by omega, by omega, by omega, ?_, ?_⟩ <;> (try split) <;> omega)
  unfold runAt
  split
  · rename_i hp
    subst hp
    simp only [Nat.lt_irrefl, if_false] at sp1
    refine ⟨by dsimp only; omega, by dsimp only; omega, by dsimp only; omega, fun z => by dsimp only at z; omega, by dsimp only; omega, fun z => by dsimp only; omega⟩
  · rename_i hp
    have hp : p < e := by omega
    rw [if_pos hp] at sp1
    split
    · rename_i hs
      split
      · refine ⟨by dsimp only; omega, by dsimp only; omega, by dsimp only; rw [List.length_append]; omega, fun z => .inl ⟨by dsimp only; rw [List.length_append]; omega, by dsimp only; omega⟩, by dsimp only; rw [List.length_append]; simp only [List.length_singleton]; omega, fun z => by dsimp only; omega⟩
      · have o := on (turnN row s p) (l1 ++ [(row.getD s 0, row.getD (p - 1) 0, false)]) hp
        rw [List.length_append] at o
        simp only [List.length_singleton] at o
        refine ⟨by omega, by omega, ?_, fun z => .inl ⟨?_, by omega⟩, by omega, fun z => by omega⟩
        · have := o.2.2.2.1
          split at this <;> omega
        · have := o.2.2.2.1
          rw [if_pos z] at this
          omega
    · have o := on row l1 hp
      refine ⟨by omega, by omega, ?_, fun z => .inl ⟨?_, by omega⟩, by omega, fun z => by omega⟩
      · have := o.2.2.2.1
        split at this <;> omega
      · have := o.2.2.2.1
        rw [if_pos z] at this
        omega
end DL

namespace DL
open PySem PySem.Spec PyProof.Rows L2
local macro_rules | `(tactic| walk_at "has") => `(tactic| first | exact Has.here | (apply Has.there; walk_at "has"))
local macro_rules | `(tactic| walk_at "hasl") => `(tactic| first | (refine Or.inl ?_; walk_at "has") | (refine Or.inr ?_; walk_at "has"))
local macro_rules | `(tactic| walk_at "sel") => `(tactic| first | exact Sel.here | (apply Sel.there; walk_at "sel"))
local macro_rules | `(tactic| walk_at "chg") => `(tactic| first | exact Chg.here | (apply Chg.there; walk_at "chg"))
local macro_rules | `(tactic| walk_at "pull") => `(tactic| first | exact Pull.nil | (apply Pull.cons; (walk_at "sel"); exact rfl; walk_at "pull"))
local macro_rules | `(tactic| walk_at "cov") => `(tactic| first | exact Cov.refl | (apply Cov.take; (walk_at "sel"); (first | exact rfl | assumption); walk_at "cov") | (apply Cov.take; (walk_at "sel"); rotate_left; walk_at "cov") | (refine Cov.drop ?_; walk_at "cov"))
local macro_rules | `(tactic| walk_at "sub") => `(tactic| first | exact Sub.nil | (refine Sub.same (by first | rfl | assumption) ?_; walk_at "sub") | (refine Sub.any ?_; walk_at "sub") | (refine Sub.same ?_ ?_; rotate_left; walk_at "sub"))
local macro_rules | `(tactic| walk_at "side") => `(tactic| first | assumption | (with_reducible rfl) | omega | (refine mulOk_r ?_ ?_ <;> first | omega | decide) | (refine mulOk_l ?_ ?_ <;> first | omega | decide) | (refine divOk_of ?_ ?_ <;> first | omega | decide) | (refine ⟨?_, ?_⟩ <;> walk_at "side") | exact Eq.refl _ | (simp <;> omega) | decide)
local macro_rules | `(tactic| walk_at "kn") => `(tactic| first | assumption | decide | rfl)
local macro_rules | `(tactic| walk_at "br") => `(tactic| first | (with_reducible first | refine Br.t ?_ | refine Br.f ?_) | ((with_reducible refine Br.dec_t ?_ ?_); focus walk_at "kn") | ((with_reducible refine Br.dec_f ?_ ?_); focus walk_at "kn") | ((with_reducible refine Br.ndec_t ?_ ?_); focus walk_at "kn") | ((with_reducible refine Br.ndec_f ?_ ?_); focus walk_at "kn") | (with_reducible first | (refine Br.dec ?_ ?_ <;> intro _) | (refine Br.ndec ?_ ?_ <;> intro _)) | refine Br.t ?_ | refine Br.f ?_ | (with_reducible refine Br.mk ?_ ?_ <;> intro _))
local macro_rules | `(tactic| walk_at "st") => `(tactic| ((try (conv => whnf)); first
  | walk_at "br"
  | with_reducible (intro _)
  | (refine ⟨_, (by walk_at "has" : Has _ _ _), ?_⟩)
  | (refine ⟨_, (by walk_at "hasl" : HasL _ _ _), ?_⟩)
  | (refine ⟨_, _, (by walk_at "chg" : Chg _ _ _ _ _), ?_⟩)
  | (refine ⟨_, _, _, (by walk_at "chg" : Chg _ _ _ _ _), (by first | rfl | assumption : ixN _ _ = some _), ?_⟩)
  | (refine ⟨_, _, (by walk_at "sel" : Sel _ _ _ _), ?_⟩)
  | (refine ⟨_, _, _, (by walk_at "has" : Has _ _ _), (by assumption), ?_⟩)
  | (refine ⟨_, (by first | rfl | assumption : atI _ _ = some _), ?_⟩)
  | (refine And.intro (by walk_at "side") ?_)))
local macro_rules | `(tactic| walk_at "st2") => `(tactic| first | walk_at "st" | ((try (conv => whnf)); with_reducible refine And.intro ?_ ?_; rotate_left))
local macro_rules | `(tactic| walk_at "go") => `(tactic| first | ((try (conv => whnf)); walk_at "br" <;> walk_at "go") | (walk_at "st"; walk_at "go") | (conv => whnf) | skip)
theorem rgD_nat (n : Nat) : rgD 0 (n : Int) = (List.range n).map dn := by
  unfold rgD
  have : ((n : Int) - 0).toNat = n := by omega
  rw [this]
  simp [dn]
theorem leastGo_small : ∀ f m o, m < 64 → leastGo f m o = m + o
  | 0, m, o, _ => rfl
  | f + 1, m, o, h => by
    unfold leastGo
    rw [if_neg (by omega)]
theorem leastN_small {m : Nat} (h : m < 64) : leastN m = m := leastGo_small m m 0 h
theorem findRun_row {ms : List Int} {row : List Nat} {s e : Nat} {lg : Log} (h1 : s < e) (h2 : e ≤ row.length) (hr : Row ms row) : (findRun ms row s e lg).2.1.length = row.length ∧ Row ms (findRun ms row s e lg).2.1 := by
  unfold findRun
  have g1 := rising_at ms row e (e - (s + 1)) (s + 1) lg
  generalize rising ms row e (e - (s + 1)) (s + 1) lg = z at *
  obtain ⟨p, lg1⟩ := z
  dsimp only at g1 ⊢
  have g3 := g1.1
  have g4 := g1.2 (by omega)
  have on : ∀ row1 lg1, row1.length = row.length → Row ms row1 → p ≠ e → (runOn ms e s p row1 lg1).2.1.length = row.length ∧ Row ms (runOn ms e s p row1 lg1).2.1 := fun row1 lg1 hl hr1 hp => by
    unfold runOn
    dsimp only
    have q := falling_row ms e (e - (p + 1)) (p + 1) 0 row1 lg1 (by omega) (by omega)
    have ga := falling_at ms e (e - (p + 1)) (p + 1) 0 row1 lg1
    have gb := ga.2 (by omega)
    exact ⟨by rw [turnN_length (by omega) (by omega), q, hl], (Row.falling e _ _ _ _ _ hr1).turn _ _⟩
  unfold runAt
  split
  · exact ⟨rfl, hr⟩
  · rename_i hp
    split
    · split
      · exact ⟨rfl, hr⟩
      · exact on _ _ (turnN_length (by omega) (by omega)) (hr.turn _ _) hp
    · exact on _ _ rfl hr hp
theorem placeAll_fact {ms : List Int} {s : Nat} : ∀ n i row l, s + i + n ≤ row.length → Row ms row → (placeAll ms s n i row l).1.length = row.length ∧ Row ms (placeAll ms s n i row l).1 ∧ (placeAll ms s n i row l).2.length ≤ l.length + n * (i + n)
  | 0, i, row, l, _, hr => ⟨rfl, hr, by simp [placeAll]⟩
  | n + 1, i, row, l, h, hr => by
    have p := placeOne_fact (l := l) (show s + i < row.length by omega) hr
    have ih := placeAll_fact (ms := ms) (s := s) n (i + 1) (placeOne ms row s i l).1 (placeOne ms row s i l).2 (by omega) p.2.1
    refine ⟨ih.1.trans p.1, ih.2.1, Nat.le_trans ih.2.2 ?_⟩
    have e1 : (n + 1) * (i + (n + 1)) = n * (i + 1 + n) + (i + 1 + n) := by rw [Nat.add_mul, Nat.one_mul, show i + (n + 1) = i + 1 + n by omega]
    omega
theorem sortRun_fact {ms : List Int} {row : List Nat} {lg : Log} (h0 : 0 < row.length) (hz : row.length ≤ 63) (hr : Row ms row) : (sortRun ms row lg).1.length = row.length ∧ Row ms (sortRun ms row lg).1 ∧ (sortRun ms row lg).2.length ≤ lg.length + 8200 := by
  have f := findRun_row (lg := lg) h0 (Nat.le_refl _) hr
  have sp := findRun_spec ms row 0 row.length lg h0
  unfold sortRun foundOf
  split
  · rename_i z
    have p := placeAll_fact (ms := ms) (s := 0) (row.length - max 1 (findRun ms row 0 row.length lg).1) (max 1 (findRun ms row 0 row.length lg).1) (findRun ms row 0 row.length lg).2.1 (findRun ms row 0 row.length lg).2.2 (by omega) f.2
    refine ⟨p.1.trans f.1, p.2.1, Nat.le_trans p.2.2 ?_⟩
    have e2 : max 1 (findRun ms row 0 row.length lg).1 + (row.length - max 1 (findRun ms row 0 row.length lg).1) = row.length := by omega
    rw [e2]
    have : (row.length - max 1 (findRun ms row 0 row.length lg).1) * row.length ≤ 63 * 63 := Nat.mul_le_mul (by omega) hz
    omega
  · exact ⟨f.1, f.2, by dsimp only; omega⟩
theorem rd_Joiner_init (cl : Cl) (ds : List D) (F R : LL) (Φ : DK) (h : S_Joiner_init cl ds F R Φ) : t_Joiner___init__ cl (endD Φ) (startD 3 ds) (F ++ R) := by
  obtain ⟨j, a, rfl, rfl, h⟩ := h
  walk_at "go"
  rename_i al
  refine Ret.mk _ ?_ (h al)
  walk_at "cov"
theorem rd_Sorting_init (cl : Cl) (ds : List D) (F R : LL) (Φ : DK) (h : S_Sorting_init cl ds F R Φ) : t_Sorting___init__ cl (endD Φ) (startD 4 ds) (F ++ R) := by
  obtain ⟨s, a, n, b, rfl, rfl, hn, h⟩ := h
  walk_at "go"
  refine CtOf.mk _ _ (by walk_at "pull") ⟨_, a, rfl, rfl, ?_⟩
  intro al
  cases b
  · walk_at "go"
    rename_i r j st sp
    refine Ret.mk _ ?_ (h r j st sp)
    walk_at "cov"
    rw [rgD_nat]
    rfl
  · walk_at "go"
    rename_i r j st sp
    refine Ret.mk _ ?_ (h r j st sp)
    walk_at "cov"
    rw [rgD_nat, ← List.map_reverse]
    rfl
theorem call_find_run {cl : Cl} {L R : LL} {Φ : DK} {r h mk la : Addr} {row : List Nat} {ms : List Int} {lg : Log} {a b : Int} (s e : Nat) (hp : Pull L ((r, rowO row) :: honF cl h mk la ms lg) R) (ei : a = s) (ej : b = e)
    (h1 : s < e) (h2 : e ≤ row.length) (hz : row.length ≤ 100000) (h3 : Row ms row) (h4 : (findRun ms row s e lg).2.2.length ≤ 1000000)
    (k : Φ (.int (findRun ms row s e lg).1) ((r, rowO (findRun ms row s e lg).2.1) :: honF cl h mk la ms (findRun ms row s e lg).2.2 ++ R)) :
    CtOf (S_find_run cl) [.ref r, .int a, .int b, .ref h] L Φ := by
  subst ei ej
  exact ⟨_, _, hp, r, h, mk, la, row, ms, lg, s, e, rfl, rfl, ⟨h1, h2, hz, h3, h4⟩, k⟩
theorem call_place_all {cl : Cl} {L R : LL} {Φ : DK} {r h mk la : Addr} {row : List Nat} {ms : List Int} {lg : Log} {a b c : Int} (s e k : Nat) (hp : Pull L ((r, rowO row) :: honF cl h mk la ms lg) R) (ei : a = s) (ej : b = e) (ek : c = k)
    (h1 : s ≤ e) (h2 : e ≤ row.length) (hz : row.length ≤ 100000) (h3 : Row ms row) (h4 : e - s ≤ 64) (h5 : k ≤ 100000) (h6 : lg.length ≤ 900000)
    (kk : Φ .non ((r, rowO (placeAll ms s (e - s - max 1 k) (max 1 k) row lg).1) :: honF cl h mk la ms (placeAll ms s (e - s - max 1 k) (max 1 k) row lg).2 ++ R)) :
    CtOf (S_place_all cl) [.ref r, .int a, .int b, .int c, .ref h] L Φ := by
  subst ei ej ek
  exact ⟨_, _, hp, r, h, mk, la, row, ms, lg, s, e, k, rfl, rfl, ⟨h1, h2, hz, h3, h4, h5, h6⟩, kk⟩
theorem rd_next_piece_s5 (cl : Cl) (R : LL) (Φ : DK) (s a r j st sp mk la : Addr) (b : Bool) (row : List Nat) (stp : List D) (busy : D) (ms : List Int) (lg : Log) (n f : Nat) (w5 : Option D) (hs : stp.length ≤ 1000)
    (h : Φ (.int n) (sortF cl s a r j st sp b row [.tup [.int 0, .int n, .non]] (stp ++ [pieceD f n lg.length]) busy ++ honF cl a mk la ms lg ++ R)) :
    t_Sorting_next_piece_s5 cl (endD Φ) [some (.ref s), some (.int 0), some (.int n), some (.int f), some (.int n), w5] (sortF cl s a r j st sp b row [] stp busy ++ honF cl a mk la ms lg ++ R) := by
  walk_at "go"
  refine deepE.mk (.list []) (.list []) (.lst (by walk_at "hasl") .nil) (.lst (by walk_at "hasl") .nil) ?_
  have e : PyData.eqv (.list []) (.list []) = true := rfl
  rw [e]
  walk_at "go"
  refine Ret.mk _ ?_ h
  walk_at "cov"
  rw [List.length_map]
  rfl
theorem rd_next_piece (cl : Cl) (ds : List D) (F R : LL) (Φ : DK) (h : S_next_piece cl ds F R Φ) : t_Sorting_next_piece cl (endD Φ) (startD 6 ds) (F ++ R) := by
  obtain ⟨s, a, r, j, st, sp, mk, la, b, row, stp, busy, ms, lg, rfl, rfl, ⟨h0, hz, hs, h3, h4⟩, h⟩ := h
  have fr := findRun_row (lg := lg) h0 (Nat.le_refl _) h3
  have sp1 := findRun_spec ms row 0 row.length lg h0
  walk_at "go"
  refine call_find_run 0 row.length (by walk_at "pull") rfl (by simp) h0 (Nat.le_refl _) (by omega) h3 (by omega) ?_
  unfold sortRun at h
  have hf : foundOf ms row lg = (findRun ms row 0 row.length lg).1 := rfl
  rw [hf] at h
  generalize hfd : (findRun ms row 0 row.length lg) = fd at *
  obtain ⟨f, row1, l1⟩ := fd
  dsimp only at fr sp1 h ⊢
  walk_at "go"
  refine CtOf.mk [] _ .nil ⟨row.length, by simp, rfl, ?_⟩
  rw [leastN_small (by omega)]
  walk_at "go"
  · rename_i z
    have z : f < row.length := by omega
    rw [if_pos z] at h
    have em : (if (((row.map dn).length : Int) - 0) < (row.length : Int) then (((row.map dn).length : Int) - 0) else (row.length : Int)) = row.length := by
      rw [List.length_map, if_neg (by omega)]
    rw [em]
    refine call_place_all 0 row.length f (by walk_at "pull") rfl (by omega) rfl (by omega) (by omega) (by omega) fr.2 (by omega) (by omega) (by omega) ?_
    walk_at "go"
    have := rd_next_piece_s5 cl R Φ s a r j st sp mk la b (placeAll ms 0 (row.length - 0 - max 1 f) (max 1 f) row1 l1).1 stp (.tup [.str "place", .int 0, .int row.length]) ms (placeAll ms 0 (row.length - 0 - max 1 f) (max 1 f) row1 l1).2 row.length f (some (.int row.length)) hs (h _)
    refine Wk.mk _ _ ?_ ?_ this
    · walk_at "sub"
      simp
    · walk_at "cov"
  · rename_i z
    have z : ¬ f < row.length := by omega
    have e : f = row.length := by omega
    rw [if_neg z] at h
    have := rd_next_piece_s5 cl R Φ s a r j st sp mk la b row1 stp (.tup [.str "run", .int 0]) ms l1 row.length f (some (.int row.length)) hs (h _)
    refine Wk.mk _ _ ?_ ?_ this
    · walk_at "sub"
      all_goals (first | (simp; done) | (rw [e]))
    · walk_at "cov"
end DL

namespace DL
open PySem PySem.Spec PyProof.Rows L2
local macro_rules | `(tactic| walk_at "has") => `(tactic| first | exact Has.here | (apply Has.there; walk_at "has"))
local macro_rules | `(tactic| walk_at "hasl") => `(tactic| first | (refine Or.inl ?_; walk_at "has") | (refine Or.inr ?_; walk_at "has"))
local macro_rules | `(tactic| walk_at "sel") => `(tactic| first | exact Sel.here | (apply Sel.there; walk_at "sel"))
local macro_rules | `(tactic| walk_at "chg") => `(tactic| first | exact Chg.here | (apply Chg.there; walk_at "chg"))
local macro_rules | `(tactic| walk_at "pull") => `(tactic| first | exact Pull.nil | (apply Pull.cons; (walk_at "sel"); exact rfl; walk_at "pull"))
local macro_rules | `(tactic| walk_at "cov") => `(tactic| first | exact Cov.refl | (apply Cov.take; (walk_at "sel"); (first | exact rfl | assumption); walk_at "cov") | (apply Cov.take; (walk_at "sel"); rotate_left; walk_at "cov") | (refine Cov.drop ?_; walk_at "cov"))
local macro_rules | `(tactic| walk_at "sub") => `(tactic| first | exact Sub.nil | (refine Sub.same (by first | rfl | assumption) ?_; walk_at "sub") | (refine Sub.any ?_; walk_at "sub") | (refine Sub.same ?_ ?_; rotate_left; walk_at "sub"))
local macro_rules | `(tactic| walk_at "side") => `(tactic| first | assumption | (with_reducible rfl) | omega | (refine mulOk_r ?_ ?_ <;> first | omega | decide) | (refine mulOk_l ?_ ?_ <;> first | omega | decide) | (refine divOk_of ?_ ?_ <;> first | omega | decide) | (refine ⟨?_, ?_⟩ <;> walk_at "side") | exact Eq.refl _ | (simp <;> omega) | decide)
local macro_rules | `(tactic| walk_at "kn") => `(tactic| first | assumption | decide | rfl)
local macro_rules | `(tactic| walk_at "br") => `(tactic| first | (with_reducible first | refine Br.t ?_ | refine Br.f ?_) | ((with_reducible refine Br.dec_t ?_ ?_); focus walk_at "kn") | ((with_reducible refine Br.dec_f ?_ ?_); focus walk_at "kn") | ((with_reducible refine Br.ndec_t ?_ ?_); focus walk_at "kn") | ((with_reducible refine Br.ndec_f ?_ ?_); focus walk_at "kn") | (with_reducible first | (refine Br.dec ?_ ?_ <;> intro _) | (refine Br.ndec ?_ ?_ <;> intro _)) | refine Br.t ?_ | refine Br.f ?_ | (with_reducible refine Br.mk ?_ ?_ <;> intro _))
local macro_rules | `(tactic| walk_at "st") => `(tactic| ((try (conv => whnf)); first
  | walk_at "br"
  | with_reducible (intro _)
  | (refine ⟨_, (by walk_at "has" : Has _ _ _), ?_⟩)
  | (refine ⟨_, (by walk_at "hasl" : HasL _ _ _), ?_⟩)
  | (refine ⟨_, _, (by walk_at "chg" : Chg _ _ _ _ _), ?_⟩)
  | (refine ⟨_, _, _, (by walk_at "chg" : Chg _ _ _ _ _), (by first | rfl | assumption : ixN _ _ = some _), ?_⟩)
  | (refine ⟨_, _, (by walk_at "sel" : Sel _ _ _ _), ?_⟩)
  | (refine ⟨_, _, _, (by walk_at "has" : Has _ _ _), (by assumption), ?_⟩)
  | (refine ⟨_, (by first | rfl | assumption : atI _ _ = some _), ?_⟩)
  | (refine And.intro (by walk_at "side") ?_)))
local macro_rules | `(tactic| walk_at "st2") => `(tactic| first | walk_at "st" | ((try (conv => whnf)); with_reducible refine And.intro ?_ ?_; rotate_left))
local macro_rules | `(tactic| walk_at "go") => `(tactic| first | ((try (conv => whnf)); walk_at "br" <;> walk_at "go") | (walk_at "st"; walk_at "go") | (conv => whnf) | skip)
theorem rd_go (cl : Cl) (ds : List D) (F R : LL) (Φ : DK) (h : S_go cl ds F R Φ) : t_Sorting_go cl (endD Φ) (startD 3 ds) (F ++ R) := by
  obtain ⟨s, a, r, j, st, sp, mk, la, b, row, busy, ms, rfl, rfl, ⟨hz, h3⟩, h⟩ := h
  walk_at "go"
  · rename_i hn
    have hn' : 1 < row.length := by simp at hn; omega
    have sf := sortRun_fact (lg := []) (by omega : 0 < row.length) hz h3
    unfold goRun goSteps at h
    rw [if_pos hn'] at h
    rw [if_pos hn'] at h
    refine WhileI.inv (α := Option D) (fun x => match x with
        | none => [some (.ref s), some (.int 0), none]
        | some _ => [some (.ref s), some (.int row.length), none])
      (fun x => match x with
        | none => sortF cl s a r j st sp b row [] [] busy ++ honF cl a mk la ms [] ++ R
        | some bz => sortF cl s a r j st sp b (sortRun ms row []).1 [.tup [.int 0, .int row.length, .non]] ([] ++ [pieceD (foundOf ms row []) row.length (sortRun ms row []).2.length]) bz ++ honF cl a mk la ms (sortRun ms row []).2 ++ R)
      (fun _ => True) (fun x => match x with
        | none => 1
        | some _ => 0) none (by walk_at "sub") .refl trivial ?_
    rintro (_ | bz) _
    · dsimp only
      walk_at "go"
      · refine CtOf.mk _ _ (by walk_at "pull") ⟨s, a, r, j, st, sp, mk, la, b, row, [], busy, ms, [], rfl, rfl, ⟨by omega, hz, by simp, h3, by simp⟩, ?_⟩
        intro bz
        walk_at "go"
        refine Nxt.mk (some bz) ?_ .refl trivial (by show (0 : Nat) < 1; omega)
        walk_at "sub"
        simp
      · rename_i z
        exfalso
        apply z
        simp
        omega
    · dsimp only
      walk_at "go"
      · rename_i z
        simp [sf.1] at z
      · refine WhileI.inv (α := Unit) (fun _ => [some (.ref s), none, none]) (fun _ => sortF cl s a r j st sp b (sortRun ms row []).1 [.tup [.int 0, .int row.length, .non]] ([] ++ [pieceD (foundOf ms row []) row.length (sortRun ms row []).2.length]) bz ++ honF cl a mk la ms (sortRun ms row []).2 ++ R)
          (fun _ => True) (fun _ => 0) () (by walk_at "sub") .refl trivial ?_
        intro _ _
        walk_at "go"
        · rename_i z z2
          exact absurd z (by simp)
        · rename_i z z2
          exact absurd z (by simp)
        · apply Ret.mk
          rotate_left
          apply h
          rotate_left 2
          walk_at "cov"
  · rename_i hn
    have hn' : ¬ 1 < row.length := by simp at hn; omega
    unfold goRun goSteps at h
    rw [if_neg hn'] at h
    rw [if_neg hn'] at h
    apply Ret.mk
    rotate_left
    apply h
    rotate_left 2
    walk_at "cov"
theorem Row.rowB (b : Bool) (ms : List Int) : Row ms (rowB b ms.length) := fun x hx => by
  cases b
  · simpa [DL.rowB] using hx
  · simpa [DL.rowB] using hx
theorem rowB_length (b : Bool) (n : Nat) : (rowB b n).length = n := by cases b <;> simp [rowB]
theorem rd_sorted_by (cl : Cl) (ds : List D) (F R : LL) (Φ : DK) (h : S_sorted_by cl ds F R Φ) : t_sorted_by cl (endD Φ) (startD 3 ds) (F ++ R) := by
  obtain ⟨d, ms, b, rfl, hd, hz, h⟩ := h
  rcases hd with ⟨q, rfl, rfl⟩ | ⟨rfl, rfl⟩
  · walk_at "go"
    refine CtOf.mk [(q, intsO ms)] _ (by walk_at "pull") ⟨.ref q, ms, 2000, rfl, .inl ⟨q, rfl, rfl⟩, by omega, ?_⟩
    walk_at "go"
    refine CtOf.mk [] _ .nil ⟨_, b, rfl, rfl, ?_⟩
    walk_at "go"
    rename_i a
    refine CtOf.mk [(a, .ins cl.Honest []), (q, intsO ms)] _ (by walk_at "pull") ⟨a, .ref q, ms.map .int, [(q, intsO ms)], rfl, rfl, .inl ⟨q, rfl, rfl⟩, ?_⟩
    intro mk la
    walk_at "go"
    rename_i s
    refine CtOf.mk [(s, .ins cl.Sorting [])] _ (by walk_at "pull") ⟨s, a, ms.length, b, by simp, rfl, by omega, ?_⟩
    intro r j st sp
    walk_at "go"
    refine CtOf.mk (sortF cl s a r j st sp b (rowB b ms.length) [] [] (.tup [.str "end"]) ++ honF cl a mk la ms []) _ (by walk_at "pull") ⟨s, a, r, j, st, sp, mk, la, b, rowB b ms.length, _, ms, rfl, rfl, ⟨by rw [rowB_length]; exact hz, Row.rowB b ms⟩, ?_⟩
    intro bz stk
    walk_at "go"
    refine Ret.mk _ ?_ (h s a r j st sp mk la bz stk)
    walk_at "cov"
  · walk_at "go"
    refine CtOf.mk [] _ .nil ⟨.tup (ms.map .int), ms, 2000, rfl, .inr ⟨rfl, rfl⟩, by omega, ?_⟩
    walk_at "go"
    refine CtOf.mk [] _ .nil ⟨_, b, rfl, rfl, ?_⟩
    walk_at "go"
    rename_i a
    refine CtOf.mk [(a, .ins cl.Honest [])] _ (by walk_at "pull") ⟨a, .tup (ms.map .int), ms.map .int, [], rfl, rfl, .inr ⟨rfl, rfl⟩, ?_⟩
    intro mk la
    walk_at "go"
    rename_i s
    refine CtOf.mk [(s, .ins cl.Sorting [])] _ (by walk_at "pull") ⟨s, a, ms.length, b, by simp, rfl, by omega, ?_⟩
    intro r j st sp
    walk_at "go"
    refine CtOf.mk (sortF cl s a r j st sp b (rowB b ms.length) [] [] (.tup [.str "end"]) ++ honF cl a mk la ms []) _ (by walk_at "pull") ⟨s, a, r, j, st, sp, mk, la, b, rowB b ms.length, _, ms, rfl, rfl, ⟨by rw [rowB_length]; exact hz, Row.rowB b ms⟩, ?_⟩
    intro bz stk
    walk_at "go"
    refine Ret.mk _ ?_ (h s a r j st sp mk la bz stk)
    walk_at "cov"
theorem call_sorted {cl : Cl} {L F R : LL} {Φ : DK} {d : D} {ms : List Int} {b : Bool} (hp : Pull L F R) (hd : seqF d ms F) (hz : ms.length ≤ 63)
    (k : ∀ s h r j st sp mk la bz stk, Φ (.ref s) (sortF cl s h r j st sp b (goRun ms (rowB b ms.length)).1 stk (goSteps ms (rowB b ms.length)) bz ++ honF cl h mk la ms (goRun ms (rowB b ms.length)).2 ++ (F ++ R))) : CtOf (S_sorted_by cl) [d, .bl b] L Φ :=
  ⟨_, _, hp, d, ms, b, rfl, hd, hz, k⟩
theorem goRun_log (ms : List Int) (b : Bool) (h : ms.length ≤ 63) : (goRun ms (rowB b ms.length)).2.length ≤ 8200 := by
  unfold goRun
  split
  · have := (sortRun_fact (lg := []) (ms := ms) (row := rowB b ms.length) (by omega) (by rw [rowB_length]; exact h) (Row.rowB b ms)).2.2
    simpa using this
  · simp
theorem Pull.app : ∀ {F R : LL}, Pull (F ++ R) F R
  | [], _ => .nil
  | _ :: _, _ => .cons .here rfl Pull.app
theorem rd_count_of (cl : Cl) (ds : List D) (F R : LL) (Φ : DK) (h : S_count_of cl ds F R Φ) : t_count_of cl (endD Φ) (startD 2 ds) (F ++ R) := by
  obtain ⟨d, ms, b, rfl, hd, hz, h⟩ := h
  walk_at "go"
  refine call_sorted Pull.app hd hz ?_
  intro s a r j st sp mk la bz stk
  walk_at "go"
  rw [List.length_map]
  refine Ret.mk _ ?_ h
  walk_at "cov"
theorem rd_questions_of (cl : Cl) (ds : List D) (F R : LL) (Φ : DK) (h : S_questions_of cl ds F R Φ) : t_questions_of cl (endD Φ) (startD 4 ds) (F ++ R) := by
  obtain ⟨d, ms, b, rfl, hd, hz, h⟩ := h
  have hl := goRun_log ms b hz
  walk_at "go"
  refine call_sorted Pull.app hd hz ?_
  intro s a r j st sp mk la bz stk
  walk_at "go"
  rename_i q
  refine LcI.pure (xs := (goRun ms (rowB b ms.length)).2) (toD := lgD) (out := fun e => qD (pr e)) rfl (fun _ => by walk_at "hasl") (by omega) ?_ ?_
  · intro e _ acc Ψ hk
    walk_at "go"
    exact hk _ .refl
  · rw [show (goRun ms (rowB b ms.length)).2.map (fun e => qD (pr e)) = ((goRun ms (rowB b ms.length)).2.map pr).map qD by rw [List.map_map]; rfl]
    walk_at "go"
    refine Ret.mk _ ?_ (h q)
    walk_at "cov"
theorem rd_pieces_of (cl : Cl) (ds : List D) (F R : LL) (Φ : DK) (h : S_pieces_of cl ds F R Φ) : t_pieces_of cl (endD Φ) (startD 3 ds) (F ++ R) := by
  obtain ⟨d, ms, b, rfl, hd, hz, h⟩ := h
  walk_at "go"
  refine call_sorted Pull.app hd hz ?_
  intro s a r j st sp mk la bz stk
  walk_at "go"
  rename_i q
  unfold piecesD at h
  unfold goSteps
  by_cases hn : 1 < (rowB b ms.length).length
  · rw [if_pos hn]
    rw [if_pos hn] at h
    refine LcI.sel (xs := [()]) (toD := fun _ => pieceD (foundOf ms (rowB b ms.length) []) (rowB b ms.length).length (sortRun ms (rowB b ms.length) []).2.length) (out := fun _ => some (.tup [.int 0, .int (foundOf ms (rowB b ms.length) []), .int (rowB b ms.length).length])) rfl (fun _ => by walk_at "hasl") (by simp) ?_ ?_
    · intro x _ acc Ψ Z hk
      have hk := hk _ .refl
      walk_at "go"
      exact hk
    · walk_at "go"
      refine Ret.mk _ ?_ (h q)
      walk_at "cov"
  · rw [if_neg hn]
    rw [if_neg hn] at h
    refine LcI.sel (α := Unit) (xs := []) (toD := fun _ => .non) (out := fun _ => none) rfl (fun _ => by walk_at "hasl") (by simp) (fun x hx => by cases hx) ?_
    walk_at "go"
    refine Ret.mk _ ?_ (h q)
    walk_at "cov"
end DL

/-! try .. except X as n; n.f, isinstance(n, Y) in the suite -/
namespace DL
open PySem PySem.Spec PyProof.Rows L2
/-- slot i is empty behind the suite -/
def clrD (i : Nat) (D : EndsD) : EndsD := { nx := fun σ L => D.nx (σ.set i none) L, rt := D.rt, bk := fun σ L => D.bk (σ.set i none) L, ct := fun σ L => D.ct (σ.set i none) L }
/-- what an except clause makes of an exception -/
structure TryW (W : XW) (ts : List XT) (mt : XT → Bool) (i : Nat) (th : Addr → XT → Addr → TS') (D : EndsD) (g : Addr) (P : Hp → Prop) (C : XT) (d : Addr) (σ : Sl) (L : LL) : Prop where
  mem : C ∈ ts
  yes : mt C = true → RaiseTo L g P fun L3 => ∀ a, th a C d (clrD i D) (σ.set i (some (.ref a))) L3
  no : mt C = false → W.psi C d σ L
def tTryAs' (W : XW) (ts : List XT) (mt : XT → Bool) (i : Nat) (tb : XW → TS') (th : Addr → XT → Addr → TS') : TS' := fun D σ L => ∀ g P, tb ⟨TryW W ts mt i th D g P⟩ D σ ((g, .gh P) :: L)
theorem EK.clr {K : PySem.W.Frag} {H : Hp} {D' : EndsD} {D : Ends} (k : EK K H D' D) (i : Nat) : EK K H (clrD i D') { nx := fun σ' H' => D.nx (σ'.set i none) H', rt := D.rt, bk := fun σ' H' => D.bk (σ'.set i none) H', ct := fun σ' H' => D.ct (σ'.set i none) H' } where
  nx := fun σd L σ H' h t s l => k.nx _ _ _ _ h t (SR.clear i none s) l
  rt := k.rt
  bk := fun σd L σ H' h t s l => k.bk _ _ _ _ h t (SR.clear i none s) l
  ct := fun σd L σ H' h t s l => k.ct _ _ _ _ h t (SR.clear i none s) l
section
variable {X : Cx} {x n : Str} {c : Value} {i : Nat} {body suite : List Stmt} {b₀ : Stmt} {np pos pos' : Pos} {tb : XW → TS'} {th : Addr → XT → Addr → TS'} {W : XW} {xa : XT → Addr} {ts : List XT} {mt : XT → Bool}
theorem ps_tryAs' (hs : X.stack = X.env :: X.outer) (hf : X.env.frame = some X.env.locals) (hN : X.N.Nodup) (hi : X.N[i]? = some n) (hln : X.env.kindOf n = some .local) (hc : Names X x c) (tk : Takes X (wishV X.K xa W)) (hm : ∀ t ∈ ts, PySem.W.exmOne X.K (.ref (xa t)) c = some (mt t))
    (hb : ∀ (W : XW) (pn : List (Addr × Obj)) (xe : Value → Shared → Prop), Takes (X.tr pn xe) (wishV X.K xa W) → PassesOwn (model X.prog X.w) X.A X.env xe → PSs' (X.tr pn xe) body (tb W))
    (hsu : ∀ (a : Addr) (oe : Obj) (C : XT) (d : Addr) (pn : List (Addr × Obj)), C ∈ ts → Zc (.ref (xa C)) (some d) oe → (∃ vs, oe.data = .fields vs) → PSs' (X.suite a ((a, oe) :: pn)) (b₀ :: suite) (th a C d)) :
    PS' X (.Try body [.ExceptHandler (some (.Name x np)) (some n) (b₀ :: suite) pos'] [] [] pos) (tTryAs' W ts mt i tb th) := by
  refine lS (ps_try_as (i := i) (tb := fun WV D σ H => ∃ W' : XW, (∀ cls d σ' H', wishV X.K xa W' cls d σ' H' → WV cls d σ' H') ∧ liftS X.K (tb W') D σ H)
    (ts := fun a cls d D σ H => ∃ C dd, C ∈ ts ∧ cls = .ref (xa C) ∧ d = some dd ∧ liftS X.K (th a C dd) D σ H) hs hf hN hi hln hc tk (fun WV pn xe tkv po => ?_) (fun a oe cls d pn hz hv => ?_)) fun D σ H ⟨σd, L, D', h1, h2, h3, k⟩ => ?_
  · exact ⟨fun pins s σ H D I ⟨W', imp, h⟩ => (hb W' pn xe (tkv.imp imp) po).run pins s σ H D I h⟩
  · refine ⟨fun pins s σ H D I ⟨C, dd, hC, e1, e2, h⟩ => ?_⟩
    subst e1 e2
    exact (hsu a oe C dd pn hC hz hv).run pins s σ H D I h
  · refine ⟨_, fun cls d σ' H' ⟨C, dd, σ2, L2, e1, e2, s2, l2, hw⟩ => ?_, σd, _, D', h1, h2.ghost 0 H TK.refl, h3 0 (TK X.K H), k⟩
    subst e1 e2
    obtain ⟨mem, yes, no⟩ := hw
    refine ⟨_, hm C mem, fun hb a na => ?_, fun hb => ?_⟩
    · obtain ⟨L3, c3, h3⟩ := yes hb
      have l3 := l2.cov c3
      have t3 : TK X.K H H' := (l3.has Has.here).1
      exact ⟨C, dd, mem, rfl, rfl, _, L3, _, s2.set .ref i, l3.tail, h3 a, (k.mono t3).clr i⟩
    · exact ⟨C, dd, σ2, L2, rfl, rfl, s2, l2, no hb⟩
end
/-! in the suite -/
def tXf' (a dd : Addr) (f : Nat) (te : TE') : TE' := fun σ L Φ => te σ L fun d L1 => match d with
  | .ref x => x = a ∧ ∃ fs, Has L1 dd (.xd fs) ∧ getF f fs fun v => Φ v L1
  | _ => False
section
variable {X : Cx} {a C dd : Addr} {oe : Obj} {pn : List (Addr × Obj)} {e : Expr} {te : TE'} {pos : Pos} {f : Nat} {n : Str}
theorem pe_xf' (T : XfC X.K C) (hno : PySem.W.findIn X.K (.ref C) n = some none) (hz : Zc (.ref C) (some dd) oe) (hv : ∃ vs, oe.data = .fields vs) (he : PE' (X.suite a ((a, oe) :: pn)) e te) (hx : fname f = n := by rfl) (hf : f < fnames.length := by decide)
    (hb : attributeBase e n X.env (eval e X.env) = eval e X.env := by rfl) : PE' (X.suite a ((a, oe) :: pn)) (.Attribute e n pos) (tXf' a dd f te) :=
  lE (pe_xf T hno hz hv he hb) fun σ H Q ⟨σd, L, Φ, hs, hl, ht, k⟩ => ⟨σd, L, _, hs, hl, ht, fun d L1 v H1 h1 t1 r1 l1 => by
    cases r1 with
    | ref =>
      obtain ⟨rfl, fs, hh, q⟩ := (show _ ∧ _ from h1)
      obtain ⟨gs, e1, r⟩ := l1.has hh
      unfold getF at q
      cases eg : getN f fs with
      | none => rw [eg] at q; exact (show False from q).elim
      | some d =>
        rw [eg] at q
        obtain ⟨v, lk, rv⟩ := r.get hf eg
        rw [hx] at lk
        exact ⟨rfl, rfl, dd, gs, v, rfl, e1, lk, k _ _ _ _ q t1 rv l1⟩
    | _ => exact (show False from h1).elim⟩
end
end DL
namespace DL
open PySem PySem.Spec PyProof.Rows L2
/-! isinstance(n, Y) in the suite -/
def tIsE' (a dd : Addr) (b : Bool) (te : TE') : TE' := fun σ L Φ => te σ L fun d L1 => match d with
  | .ref x => x = a ∧ ∃ fs, Has L1 dd (.xd fs) ∧ Φ (.bl b) L1
  | _ => False
/-- what isinstance wants of a caught exception's class -/
structure ExI (K : PySem.W.Frag) (C : Addr) : Prop where
  ga : PySem.W.findIn K (.ref C) "__getattribute__" = some (some (.builtin "BaseException.__getattribute__"))
  gg : PySem.W.findIn K (.ref C) "__getattr__" = some none
  sb : PySem.W.subIn K (.ref C) (.type "BaseException") = some true
  hd : PySem.W.hasDictIn K C = true
  ca : PySem.W.findIn K (.ref C) "__class__" = some (some (.builtin "object.__class__"))
  gs : PySem.W.specialIn K (.builtin "object.__class__") "__get__" = some (some (.builtin "getset_descriptor.__get__"))
  ht : PySem.W.takesIn K (.builtin "object.__class__") = some true
  hm : PySem.W.mroIn K C (.type "object") = some true
def rIsD (K : PySem.W.Frag) (C a dd : Addr) : List V → Hp → VK → Prop := fun xs H Q => ∃ (c : V) (cv : Value) (b : Bool) (fs : List (Str × V)), xs = [.ref a, c] ∧ H dd = some (.xd fs) ∧ (∀ u, RelV c u → u = cv) ∧ PySem.W.kitOne K (.ref C) cv = some b ∧ Q (.bl b) H
theorem call_isD {X : Cx} {a C dd : Addr} {oe : Obj} {pn : List (Addr × Obj)} (T : ExI X.K C) (hz : Zc (.ref C) (some dd) oe) (hf : ∃ vs, oe.data = .fields vs) : CallR (X.suite a ((a, oe) :: pn)) (.builtin "isinstance") (rIsD X.K C a dd) := by
  intro pins s σ H xs us Q I r h
  obtain ⟨c, cv, b, fs, rfl, hdd, hcv, e, q⟩ := h
  match us, r with
  | [_, _], .cons rx (.cons rt .nil) =>
    cases rx
    have ec := hcv _ rt
    subst ec
    obtain ⟨hget, _⟩ := I.pin (a, oe) (List.mem_append.mpr (.inl List.mem_cons_self))
    obtain ⟨vs, hv⟩ := hf
    have hx : ObjOk X.prog X.w H s.heap dd (.xd fs) := I.hok dd _ hdd
    obtain ⟨mA, hns, _⟩ := hx
    obtain ⟨od, ho, _⟩ := lookIn_ns hns
    have J : PySem.W.InstAt s.heap a oe C (some od) := ⟨hget, hz.1, by unfold PySem.W.notCls; rw [hv] <;> rfl, by rw [hz.2]; exact ho⟩
    obtain ⟨cdD, hcD, _⟩ := PySem.W.any_some T.hd
    exact PySem.W.kia_one (PySem.W.kitx_exc (by rw [hcD]; rfl) T.ga T.gg T.sb T.ca T.gs T.ht T.hm) I.kIn J e (fun z => nomatch z) fun tk => ⟨.bl b, H, I.kept (t' := tk) fun _ _ z => z, rfl, q⟩
section
variable {X : Cx} {a C dd : Addr} {oe : Obj} {pn : List (Addr × Obj)} {e : Expr} {te : TE'} {pos p pY : Pos} {Y : Str} {cv : Value} {vY : V} {b : Bool}
theorem pe_isE' (T : ExI X.K C) (hz : Zc (.ref C) (some dd) oe) (hv : ∃ vs, oe.data = .fields vs) (he : PE' (X.suite a ((a, oe) :: pn)) e te) (hY : PE (X.suite a ((a, oe) :: pn)) (.Name Y pY) (tC vY)) (hr : ∀ u, RelV vY u → u = cv) (hk : PySem.W.kitOne X.K (.ref C) cv = some b)
    (hg : Gl X "isinstance") (hm : X.mg "isinstance" = none) (hes : starEach [e, .Name Y pY] X.env = (false, eval e X.env) :: starEach [.Name Y pY] X.env := by rfl) (hpl : (backTo pos (starEach [.Name Y pY] X.env)).any (·.1) = false := by rfl)
    (hY2 : starEach [.Name Y pY] X.env = (false, eval (.Name Y pY) X.env) :: starEach [] X.env := by rfl) : PE' (X.suite a ((a, oe) :: pn)) (.Call (.Name "isinstance" p) [e, .Name Y pY] [] pos) (tIsE' a dd b te) :=
  lE (pe_callB (call_isD T hz hv) hg hm (by rfl) (pa_cons he (pa_cons hY pa_nil hY2) hes) (by decide) (by decide) hes hpl) fun σ H Q ⟨σd, L, Φ, hs, hl, ht, k⟩ => ⟨σd, L, _, hs, hl, ht, fun d L1 v H1 h1 t1 r1 l1 => by
    cases r1 with
    | ref =>
      obtain ⟨rfl, fs, hh, q⟩ := (show _ ∧ _ from h1)
      obtain ⟨gs, e1, r⟩ := l1.has hh
      exact ⟨vY, cv, b, gs, rfl, e1, hr, hk, k _ _ _ _ q t1 .bl l1⟩
    | _ => exact (show False from h1).elim⟩
end
end DL

/-! the program's exception classes: what the head tells of them -/
namespace DL
open PySem PySem.Spec PyProof.Rows L2
/-- the class at C: over ValueError, with a dict -/
def oexB (K : PySem.W.Frag) (C : Addr) : Bool :=
  (match K.lookup C with
    | some ⟨c, _, .cls cd, sl⟩ => decide (c = .type "type") && decide (cd.hasDel = false) && cd.hasDict && (match cd.mro with
      | .ref C1 :: bm => decide (C1 = C) && PySem.HandSPX.refsVE bm
      | _ => false) && (match sl.toList with
      | [_, _, _, _, some (.builtin n), _] => decide (n = "ValueError.__new__")
      | _ => false)
    | _ => false) && (decide (PySem.W.findIn K (.ref C) "__setattr__" = some (some (.builtin "object.__setattr__"))) && (decide (PySem.W.typeIn K (.ref C) = some (.type "type")) && PySem.W.keepIn K (.ref C)))
theorem oexB_ok {K : PySem.W.Frag} {C : Addr} (h : oexB K C = true) (h2 : PySem.W.subIn K (.ref C) (.type "BaseException") = some true) : OexC K C := by
  unfold oexB at h
  simp only [Bool.and_eq_true, decide_eq_true_eq] at h
  obtain ⟨h, h3, h4, h5⟩ := h
  refine ⟨?_, h3, h2, h4, h5⟩
  split at h
  · rename_i c dd cd sl e
    simp only [Bool.and_eq_true, decide_eq_true_eq] at h
    obtain ⟨⟨⟨⟨hc, hd⟩, hh⟩, hm⟩, hs⟩ := h
    subst hc
    obtain ⟨nm, bs, mro, ns, qn, hdc, sn, sub, ab, col, hdel⟩ := cd
    dsimp only at hd hh hm
    subst hd hh
    split at hm
    · rename_i C1 bm
      simp only [Bool.and_eq_true, decide_eq_true_eq] at hm
      obtain ⟨rfl, hr⟩ := hm
      split at hs
      · rename_i k0 k1 k2 k3 n k5 es
        have hn : n = "ValueError.__new__" := of_decide_eq_true hs
        subst hn
        have e2 : sl = #[k0, k1, k2, k3, some (.builtin "ValueError.__new__"), k5] := by
          obtain ⟨l⟩ := sl
          simp only at es
          rw [es]
        subst e2
        exact ⟨nm, qn, ns, bs, bm, sn, sub, ab, col, dd, k0, k1, k2, k3, k5, e, hr⟩
      · cases hs
    · cases hm
  · cases h
/-- isinstance asks its instances rightly -/
def exiB (K : PySem.W.Frag) (C : Addr) : Bool :=
  PySem.W.hasDictIn K C && (decide (PySem.W.findIn K (.ref C) "__class__" = some (some (.builtin "object.__class__"))) && (decide (PySem.W.specialIn K (.builtin "object.__class__") "__get__" = some (some (.builtin "getset_descriptor.__get__"))) &&
    (decide (PySem.W.takesIn K (.builtin "object.__class__") = some true) && decide (PySem.W.mroIn K C (.type "object") = some true))))
/-- SortError.__init__ is ValueError's -/
def seiB (K : PySem.W.Frag) (C : Addr) : Bool :=
  decide (PySem.W.specialIn K (.ref C) "__getattribute__" = some (some (.builtin "type.__getattribute__"))) && (decide (PySem.W.typeIn K (.ref C) = some (.type "type")) && (PySem.W.readsIn K C (.type "type") && (match PySem.W.findCls K (.ref C) (.type "type") "__init__" with
    | some (.val (.builtin n)) => decide (n = "ValueError.__init__")
    | _ => false)))
structure SeI (K : PySem.W.Frag) (C : Addr) : Prop where
  ga : PySem.W.specialIn K (.ref C) "__getattribute__" = some (some (.builtin "type.__getattribute__"))
  ty : PySem.W.typeIn K (.ref C) = some (.type "type")
  rd : PySem.W.readsIn K C (.type "type") = true
  fc : PySem.W.findCls K (.ref C) (.type "type") "__init__" = some (.val (.builtin "ValueError.__init__"))
theorem seiB_ok {K : PySem.W.Frag} {C : Addr} (h : seiB K C = true) : SeI K C := by
  unfold seiB at h
  simp only [Bool.and_eq_true, decide_eq_true_eq] at h
  obtain ⟨h1, h2, h3, h4⟩ := h
  refine ⟨h1, h2, h3, ?_⟩
  split at h4
  · rename_i n e
    rw [e, of_decide_eq_true h4]
  · cases h4
section
variable {X : Cx} {e : Expr} {es : List Expr} {ta : TA} {CS : Addr} {x : Str} {p1 p2 pos : Pos}
theorem pe_seinit {pl : Sem Bool} (S : SeI X.K CS) (hg : Gl X x) (hm : X.mg x = some (.ref CS)) (ha : PA X (e :: es) ta) (hdb : (x == ("__debug__" : Str)) = false := by decide)
    (hc : eval (.Call (.Attribute (.Name x p1) "__init__" p2) (e :: es) [] pos) X.env = (do
      let ov ← eval (.Name x p1) X.env
      standAt p2.atName
      let (f, first) ← holding [ov] (getMethod ov "__init__" pl)
      callWith pos f first (backTo pos (starEach (e :: es) X.env)) (backToKw pos (keywordEach [] X.env))) := by rfl)
    (he : starEach (e :: es) X.env = (false, eval e X.env) :: starEach es X.env := by rfl) (hpl : (backTo pos (starEach es X.env)).any (·.1) = false := by rfl) :
    PE X (.Call (.Attribute (.Name x p1) "__init__" p2) (e :: es) [] pos) (tVeI X.K ta) := by
  refine ⟨fun pins s σ H Q I h => PySem.W.methodCall_KW (ld_glob I hg hm ?_ hdb) hc⟩
  obtain ⟨m, fr⟩ := I.fr
  refine PySem.W.method_of_cls fr I.ok.mod.kin S.ga (PySem.W.cls_val fr I.ok.mod.kin S.ty S.rd S.fc (by decide +kernel) ?_)
  show wpAny _ _ (callWith pos (Value.builtin "ValueError.__init__") [] (backTo pos (starEach (e :: es) X.env)) []) _ _ _
  refine PyProof.Rows.callWith_method1 (thn (ha.run pos pins _ σ H _ (I.tok _) h) fun us s1 ⟨vs, H1, I1, r1, a, C, ws, ev, hl, T, ea, q⟩ => ?_) he hpl
  subst ev
  cases r1 with
  | @cons _ u0 _ ur ra rw' =>
    obtain rfl : u0 = Value.ref a := ra
    exact oinit_ok T I1 ea (by rw [← Paired.length rw', sizeLine_eq]; omega) fun s' J => ⟨.non, H1, J, rfl, q⟩
end
end DL
namespace DL
open PySem PySem.Spec PyProof.Rows L2
/-- all of a class of exceptions: its __init__ at fI keeps the field fld -/
def xcB (K : PySem.W.Frag) (C fI : Addr) (fld : Str) : Bool := oexB K C && (xfB K C && (exiB K C && (decide (PySem.W.findIn K (.ref C) "__init__" = some (some (.ref fI))) && (decide (PySem.W.typeIn K (.ref fI) = some (.type "function")) && decide (PySem.W.findIn K (.ref C) fld = some none)))))
structure XcF (K : PySem.W.Frag) (C fI : Addr) (fld : Str) : Prop where
  o : OexC K C
  f : XfC K C
  i : ExI K C
  ini : PySem.W.findIn K (.ref C) "__init__" = some (some (.ref fI))
  ty : PySem.W.typeIn K (.ref fI) = some (.type "function")
  no : PySem.W.findIn K (.ref C) fld = some none
theorem xcB_ok {K : PySem.W.Frag} {C fI : Addr} {fld : Str} (h : xcB K C fI fld = true) : XcF K C fI fld := by
  unfold xcB at h
  obtain ⟨h1, h⟩ := Bool.and_eq_true_iff.mp h
  obtain ⟨h2, h⟩ := Bool.and_eq_true_iff.mp h
  obtain ⟨h3, h⟩ := Bool.and_eq_true_iff.mp h
  obtain ⟨h4, h⟩ := Bool.and_eq_true_iff.mp h
  obtain ⟨h5, h6⟩ := Bool.and_eq_true_iff.mp h
  have f := xfB_ok h2
  unfold exiB at h3
  simp only [Bool.and_eq_true, decide_eq_true_eq] at h3
  obtain ⟨i1, i2, i3, i4, i5⟩ := h3
  exact ⟨oexB_ok h1 f.exC, f, ⟨f.ga, f.gg, f.exC, f.hdC, i2, i3, i4, i5⟩, of_decide_eq_true h4, of_decide_eq_true h5, of_decide_eq_true h6⟩
end DL

/-! the program's exception classes: their __init__ keeps its field -/
namespace DL
open PySem PySem.Spec PyProof.Rows L2
section
variable {P : Program} {w : World} {K : PySem.W.Frag} {mg : Str → Option Value} {base : Heap} {x qual : Str} {params : Arguments} {body : List Stmt} {scope : Scope} {f C : Addr} {fd : FuncData} {ps N : List Str} {fld m : Str}
def tXini (K : PySem.W.Frag) (m fld : Str) : TS := tSeq (tDrop (tVeI K (tCons (tVar 0) (tCons (tC (.str m)) tNil)))) (tOst K fld (tVar 0) (tVar 1))
theorem xiniOk (F : FunD K x qual params body scope [] [] f fd) (T : XcF K C f fld) (sc : FnScope N ps scope) (lp : ps.length = 2) (lN : N.length = 2)
    (der : ∀ (cdv : Value) (A : Around) (outer : List Env) (s : Shared) (H : Hp) (E : XK), PSs (BX P w K mg base N qual scope f cdv A outer s H E) body (tXini K m fld)) : FnOk P w K mg base CX0 1 f fd ps (spI C fld) := by
  refine F.ok sc (fun vs H Q E ⟨a, v, e, _⟩ => by rw [e, lp]; rfl) fun cdv A outer s H vs Q E hr ⟨a, v, e, h1, h2⟩ => ⟨_, PSs.nox (der cdv A outer s H E), ?_⟩
  subst e
  match N, lN with
  | [_, _], _ =>
    exact ⟨.ref a, rfl, a, C, [.str m], rfl, (show 1 ≤ 1000 by decide), T.o, h1, v, rfl, .ref a, rfl, a, C, rfl, T.o, T.no, .inl ⟨h1, fun dx hd ne => h2 dx hd ne⟩⟩
theorem xc_of (T : XcF K C f fld) (gl : mg x = some (.ref C)) (b : Binds K fd ps []) (F : FnOk P w K mg base CX0 1 f fd ps (spI C fld)) : XcC P w K mg base x C fld 1 := ⟨T.o, gl, f, fd, ps, T.ini, T.ty, b, F⟩
theorem exi_of {K : PySem.W.Frag} {C : Addr} (f : XfC K C) (h : exiB K C = true) : ExI K C := by
  unfold exiB at h
  simp only [Bool.and_eq_true, decide_eq_true_eq] at h
  obtain ⟨i1, i2, i3, i4, i5⟩ := h
  exact ⟨f.ga, f.gg, f.exC, f.hdC, i2, i3, i4, i5⟩
end
end DL

/-! a lambda without parameters handed to a def -/
namespace DL
open PySem PySem.Spec PyProof.Rows L2 LamX
/-- what a call of a lambda does -/
abbrev CtL := LL → DK → XC → Prop
/-- told by its body's term, at the maker's slots -/
def lamC (PP : Hp → Prop) (t : XW → TE') (σ : Sl) : CtL := fun L Φ Ψ => (∃ g, Has L g (.gh PP)) ∧ ∀ g P, t (defW Ψ g P) σ ((g, .gh P) :: L) fun d L2 => Ret L2 (Φ d)
def tAct' (W : XW) (n i : Nat) (f : Addr) (c : CtL) : TE' := fun σ L Φ => Nth σ i fun d => d = .ref f ∧ c L Φ fun C d L2 => W.psi C d (List.replicate n none) L2
abbrev GX (P : Program) (w : World) (K : PySem.W.Frag) (mg : Str → Option Value) (base : Heap) (A : Around) (stk : List Env) (N : List Str) (x : Str) (sg : Scope) (g : Addr) (cdg : Value) (s : Shared) (H : Hp) : Cx := cxOf C8.CX0 P w K mg base N x sg g cdg A stk s H C8.E0
/-- a def of one parameter, which calls what it got -/
structure GvD (P : Program) (w : World) (K : PySem.W.Frag) (mg : Str → Option Value) (base : Heap) (xa : XT → Addr) (x : Str) (n : Nat) (tg : Addr → CtL → TS') : Prop where
  ex : ∃ (g : Addr) (fd : FuncData) (N : List Str) (a : Str) (pg : Arguments) (bg : List Stmt) (sg : Scope), FunD K x x pg bg sg [] [] g fd ∧ mg x = some (.ref g) ∧ Binds K fd [a] [] ∧ FnScope N [a] sg ∧ N.length = n ∧ N[0]? = some a ∧ Vis sg a ∧ (a == ("__debug__" : Str)) = false ∧ (a == ("__classdict__" : Str)) = false ∧
    ∀ (cdg : Value) (A : Around) (stk : List Env) (s : Shared) (H : Hp) (f : Addr) (c : CtL), (∀ (W : XW) (pn : List (Addr × Obj)) (xe : Value → Shared → Prop) (p1 p2 : Pos), Takes ((GX P w K mg base A stk N x sg g cdg s H).tr pn xe) (wishV K xa W) → PE' ((GX P w K mg base A stk N x sg g cdg s H).tr pn xe) (.Call (.Name a p1) [] [] p2) (tAct' W n 0 f c)) →
      PSs' (GX P w K mg base A stk N x sg g cdg s H).nox bg (tg f c)
def tLam' (T : LL → Prop) (tg : Addr → CtL → TS') (n : Nat) (tl : XW → TE') : TE' := fun σ L Φ => T L ∧ ∀ f g PP, tg f (lamC PP tl σ) (endD Φ) (startD n [.ref f]) ((g, .gh PP) :: L)
/-- the table at P stands as it has to -/
def HasT (P : Addr) (q : Str) (L : LL) : Prop := ∃ g Q, Has L g (.gh Q) ∧ ∀ H, Q H → TabS H P q
theorem ExtN.tk {K : PySem.W.Frag} {H H1 : Hp} (e : ExtN H H1) (t : ∀ p ∈ tabsK K, TabS H p.1 p.2 → TabS H1 p.1 p.2) : TK K H H1 := ⟨fun a vs h => by
  rcases h with (h | ⟨ob, h⟩) | h
  · exact .inl (.inl (e _ _ h fun ps z => by cases z))
  · exact .inl (.inr ⟨ob, e _ _ h fun ps z => by cases z⟩)
  · exact .inr h, t, fun c q h => e _ _ h (codeO_ne)⟩
theorem OKo.extN {K : PySem.W.Frag} {H H1 : Hp} {a : Addr} {o : LO} (h : OKo K H a o) (e : ExtN H H1) (t : TK K H H1) : OKo K H1 a o := by
  cases o with
  | ro ds =>
    obtain ⟨vs, h, r⟩ := h
    refine ⟨vs, ?_, r.mono t⟩
    rcases h with ⟨ob, h⟩ | h
    · exact .inl ⟨ob, e _ _ h fun ps z => by cases z⟩
    · exact .inr h
  | lst ds => obtain ⟨vs, h, r⟩ := h; exact ⟨vs, e _ _ h (fun ps z => by cases z), r.mono t⟩
  | ins C fs => obtain ⟨dx, gs, h, r⟩ := h; exact ⟨dx, gs, e _ _ h (fun ps z => by cases z), r.mono t⟩
  | dk kvs => obtain ⟨gs, h, r⟩ := h; exact ⟨gs, e _ _ h (fun ps z => by cases z), r.mono t⟩
  | dt kvs => obtain ⟨gs, h, r⟩ := h; exact ⟨gs, e _ _ h (fun ps z => by cases z), r.mono t⟩
  | xd fs => obtain ⟨gs, h, r⟩ := h; exact ⟨gs, e _ _ h (fun ps z => by cases z), r.mono t⟩
  | gh P => exact ⟨h.2 _ _ h.1 t, h.2⟩
theorem HL.extN {K : PySem.W.Frag} {H H1 : Hp} {L : LL} (h : HL K H L) (e : ExtN H H1) (t : TK K H H1) : HL K H1 L := ⟨fun q hq => (h.ok q hq).extN e t, h.nd⟩
theorem SR.forget {K : PySem.W.Frag} {H : Hp} : ∀ {σ : L2.St}, SR K H (List.replicate σ.length none) σ
  | [] => .nil
  | _ :: _ => .no SR.forget
theorem HL.addgh {K : PySem.W.Frag} {H : Hp} {L : LL} {PP : Hp → Prop} (h : HL K H L) (g : Addr) (hp : PP H) (st : ∀ H1 H2, PP H1 → TK K H1 H2 → PP H2) : HL K H ((g, .gh PP) :: L) :=
  ⟨fun q hq => by
    rcases List.mem_cons.mp hq with e | hq
    · subst e
      exact ⟨hp, st⟩
    · exact h.ok q hq, List.pairwise_cons.mpr ⟨fun q _ r => (by cases r), h.nd⟩⟩
theorem endK {K : PySem.W.Frag} {H : Hp} {Φ : DK} {Q : VK} (k : Kont K H Φ Q) : EK K H (endD Φ) { nx := fun _ H' => Q .non H', rt := Q } where
  nx := fun σd L σ H' ⟨L3, c3, h3⟩ t s l => k _ _ _ _ h3 t .non (l.cov c3)
  rt := fun d L v H' ⟨L3, c3, h3⟩ t r l => k _ _ _ _ h3 t r (l.cov c3)
  bk := fun _ _ _ _ h => (show False from h).elim
  ct := fun _ _ _ _ h => (show False from h).elim
section
variable {X : Cx} {xa : XT → Addr} {x : Str} {c P : Addr} {k n : Nat} {params : Arguments} {body : Expr} {scope : Scope} {tl : XW → TE'} {tg : Addr → CtL → TS'} {p lpos pos : Pos}
/-- the lambda's reading below -/
def lamT (K : PySem.W.Frag) (xa : XT → Addr) (tl : XW → TE') (E : XK) : TE := fun σ H Q => ∃ (Ψ : XC) (Φ : DK) (σd : Sl) (L : LL), SR K H σd σ ∧ HL K H L ∧ KontX K xa H Ψ E ∧ Kont K H Φ Q ∧ ∀ g P, tl (defW Ψ g P) σd ((g, .gh P) :: L) fun d L2 => Ret L2 (Φ d)
def lamTT (K : PySem.W.Frag) (xa : XT → Addr) (tl : XW → TE') (tg : Addr → CtL → TS') (n : Nat) (σ : L2.St) : (XK → Hp → VK → Prop) → Hp → VK → Prop := fun tf H Q => ∃ (σd : Sl) (L : LL) (Φ : DK), SR K H σd σ ∧ HL K H L ∧ Kont K H Φ Q ∧ (∀ E H' Q', lamT K xa tl E σ H' Q' → tf E H' Q') ∧ ∀ f g PP, tg f (lamC PP tl σd) (endD Φ) (startD n [.ref f]) ((g, .gh PP) :: L)
theorem lam_gives {σ : L2.St} {N : List Str} {a q : Str} {sg : Scope} {g : Addr} {cdg : Value} {bg : List Stmt} (hn : N.length = n)
    (der : ∀ (s : Shared) (H : Hp) (f : Addr) (c : CtL), (∀ (W : XW) (pn : List (Addr × Obj)) (xe : Value → Shared → Prop) (p1 p2 : Pos), Takes ((GX X.prog X.w X.K X.mg X.base X.A X.stack N x sg g cdg s H).tr pn xe) (wishV X.K xa W) → PE' ((GX X.prog X.w X.K X.mg X.base X.A X.stack N x sg g cdg s H).tr pn xe) (.Call (.Name a p1) [] [] p2) (tAct' W n 0 f c)) →
      PSs' (GX X.prog X.w X.K X.mg X.base X.A X.stack N x sg g cdg s H).nox bg (tg f c)) : GivesTo X N x sg g cdg bg a q (lamTT X.K xa tl tg n σ) := by
  intro f c' s H Q tf act hc ⟨σd, L, Φ, hs, hl, hk, himp, hrd⟩
  have st : ∀ H1 H2, (TK X.K H H1 ∧ H1 c' = some (CodeO c' q)) → TK X.K H1 H2 → TK X.K H H2 ∧ H2 c' = some (CodeO c' q) := fun H1 H2 h t => ⟨h.1.trans t, t.2.2 _ _ h.2⟩
  refine ⟨_, der s H f (lamC (fun H1 => TK X.K H H1 ∧ H1 c' = some (CodeO c' q)) tl σd) (fun W pn xe p1 p2 tk => ⟨fun pins sZ σZ HZ QZ I ⟨σz, L2, Φ2, z1, z2, z3, z4⟩ => ?_⟩), ?_⟩
  · obtain ⟨d0, v0, hf, hr0, rfl, ⟨g0, hh⟩, ht⟩ := Nth.get z1 z3
    cases hr0
    obtain ⟨⟨t1, hcz⟩, _⟩ := z2.has hh
    refine (act (fun cls d σ' H' => ∃ C dd L, cls = .ref (xa C) ∧ d = some dd ∧ HL X.K H' L ∧ W.psi C dd (List.replicate n none) L) pn xe (fun cls d H' => ∃ C dd L, cls = .ref (xa C) ∧ d = some dd ∧ HL X.K H' L ∧ W.psi C dd (List.replicate n none) L) p1 p2 (fun u s' hx => tk u s' ?_) (fun _ _ _ _ h => h)).run pins sZ σZ HZ QZ I ⟨?_, hcz, himp _ _ _ ⟨_, Φ2, σd, L2, hs.mono t1, z2, fun C d L' H' h t l => ⟨C, d, L', rfl, rfl, l, h⟩, z4, ht⟩⟩
    · obtain ⟨b, B, sI, pins', σ', H', cls, d, e, J, nb, up, sky, na, os, ag, C, dd, L', e1, e2, hl', hw⟩ := hx
      refine ⟨b, B, sI, pins', σ', H', cls, d, e, J, nb, up, sky, na, os, ag, C, dd, List.replicate n none, L', e1, e2, ?_, hl', hw⟩
      have e3 : n = σ'.length := by rw [← hn]; exact J.len.symm
      rw [e3]
      exact SR.forget
    · exact hf
  · refine ⟨startD n [.ref f], _, endD Φ, ?_, hl.addgh _ ⟨TK.refl, hc⟩ st, hrd f 0 _, ?_⟩
    · rw [← hn]
      exact sr_start (.cons .ref .nil)
    · exact endK hk
open Classical in
theorem pe_lam' (G : GvD X.prog X.w X.K X.mg X.base xa x n tg) (hg : Gl X x) (TB : TabB X.base X.mg c P) (hcode : X.env.code = .ref c) (hm : (P, X.env.qual ++ "<lambda>") ∈ tabsK X.K) (hu : ∀ p ∈ tabsK X.K, p.1 = P → p.2 = X.env.qual ++ "<lambda>") (hr : Room (k + 2) X.A) (L : LamS X.env.scope scope)
    (hdef : defaultsOf params X.env = ([], [])) (hbind : ∀ (q : Str) (cl : List (Str × Addr)) (pm cv ctv : Value), bindArgs (PySem.W.kla_fn "<lambda>" q params body scope cl pm cv ctv) ⟨[], []⟩ = pure [])
    (hbody : ∀ (W : XW) (A : Around) (outer : List Env) (s : Shared) (H : Hp) (E : XK) (f c' : Addr), Room k (A.deeper (lamEnv X scope s.heap.objs.size f c')) → Takes (lamCx X A outer s H E scope f c') (wishV X.K xa W) → PE' (lamCx X A outer s H E scope f c') body (tl W))
    (hdb : (x == ("__debug__" : Str)) = false := by decide) : PE' X (.Call (.Name x p) [.Lambda params body scope lpos] [] pos) (tLam' (HasT P (X.env.qual ++ "<lambda>")) tg n tl) := by
  obtain ⟨g, fd, N, a, pg, bg, sg, F, hmg, hb, Sg, hn, h0, hva, hd, hcd, der⟩ := G.ex
  have hk := F.kp
  obtain ⟨oc, od, dV, kV, doc, pm, an, cdv, ct, osl, rfl, lk, hcc, _, _⟩ := F.ex
  refine ⟨fun pins s σ H Q I ⟨σd, L0, Φ, hs, hl, ⟨⟨g0, Qg, hh, hq⟩, ht⟩, kk⟩ => ?_⟩
  have htab : TabS H P (X.env.qual ++ "<lambda>") := hq H (hl.has hh).1
  have lam := pe_lamcall (T := (tabsK X.K).filter (fun p => decide (TabS H p.1 p.2))) (TT := lamTT X.K xa tl tg n σ) (t := lamT X.K xa tl) (p := p) (lpos := lpos) (pos := pos) hg hmg hk lk hcc hb Sg h0 hva (lam_gives hn (der cdv X.A X.stack)) TB hcode (List.mem_filter.mpr ⟨hm, decide_eq_true htab⟩) (fun p hp e => hu p (List.mem_filter.mp hp).1 e) hr L hdef hbind
    (fun A outer s1 H1 E f c' hr1 => ⟨fun pins1 s2 σ2 H2 Q2 I2 ⟨Ψ, Φ2, σd2, L2, z1, z2, z3, z4, z5⟩ => ?_⟩) hdb hd hcd
  · refine lam.run pins s σ H Q I ⟨fun p hp => of_decide_eq_true (List.mem_filter.mp hp).2, fun H1 eN T1 => ?_⟩
    have tk : TK X.K H H1 := ExtN.tk eN fun p hp h => T1 p (List.mem_filter.mpr ⟨hp, decide_eq_true h⟩)
    exact ⟨σd, L0, Φ, hs.mono tk, hl.extN eN tk, kk.mono tk, fun _ _ _ h => h, ht⟩
  · have tk : Takes (lamCx X A outer s1 H1 E scope f c') (wishV X.K xa (defW Ψ 0 (TK X.K H2))) :=
      (takes_of (X := lamCx X A outer s1 H1 E scope f c') rfl rfl rfl rfl).imp fun cls d σ H' ⟨C, dd, σd, L', e1, e2, _, hl, ⟨L3, c2, h2⟩⟩ => by
        subst e1 e2
        have h := hl.cov c2
        exact z3 _ _ _ _ h2 (h.has Has.here).1 h.tail
    exact (hbody _ A outer s1 H1 E f c' hr1 tk).run pins1 s2 σ2 H2 Q2 I2 ⟨σd2, _, _, z1, z2.ghost 0 H2 TK.refl, z5 0 _, fun d L v H' ⟨L3, c3, h3⟩ t r l => z4 _ _ _ _ h3 t r (l.cov c3)⟩
end
/-- what a def that makes lambdas wants of its table, at T -/
structure LamT (K : PySem.W.Frag) (mg : Str → Option Value) (base : Heap) (at_ : Str × Option Str) (T : Addr) : Prop where
  e : (He.cT K at_).2 = T
  tb : TabB base mg (He.codeOf K at_) T
  mem : at_ ∈ lamNames
  un : ∀ p ∈ tabsK K, p.1 = T → p.2 = quOf at_ ++ ".<locals>." ++ "<lambda>"
theorem LamT.in_ {K : PySem.W.Frag} {mg : Str → Option Value} {base : Heap} {at_ : Str × Option Str} {T : Addr} (h : LamT K mg base at_ T) : (T, quOf at_ ++ ".<locals>." ++ "<lambda>") ∈ tabsK K := List.mem_map.mpr ⟨at_, h.mem, by rw [← h.e]⟩
/-- the table's ghost -/
def TabG (cl : Cl) (at_ : Str × Option Str) : Hp → Prop := fun H => TabS H (cl.tb at_) (quOf at_ ++ ".<locals>." ++ "<lambda>")
theorem TabG.st {K : PySem.W.Frag} {cl : Cl} {at_ : Str × Option Str} (h : (He.cT K at_).2 = cl.tb at_) (m : at_ ∈ lamNames) (H1 H2 : Hp) (g : TabG cl at_ H1) (t : TK K H1 H2) : TabG cl at_ H2 := t.2.1 (cl.tb at_, quOf at_ ++ ".<locals>." ++ "<lambda>") (List.mem_map.mpr ⟨at_, m, by rw [← h]⟩) g
section
variable {P : Program} {w : World} {K : PySem.W.Frag} {mg : Str → Option Value} {base : Heap} {x qual : Str} {params : Arguments} {body : List Stmt} {scope : Scope} {dvs : List V} {kws : List (Str × V)} {at_ : Str × Option Str} {fd : FuncData} {ps N : List Str} {k : Nat} {S : Sc} {t : TS'}
theorem fnOkSL (F : FunD K x qual params body scope dvs kws (He.fAd K at_) fd) (sc : FnScope N ps scope) (len : ∀ ds F R Φ, S ds F R Φ → ds.length = ps.length)
    (der : ∀ (A : Around) (outer : List Env) (s : Shared) (H : Hp) (E : XK), Room k (A.deeper (envOfC qual scope s.heap.objs.size (He.fAd K at_) (.ref (He.codeOf K at_)))) → PSs' (BX P w K mg base N qual scope (He.fAd K at_) (.ref (He.codeOf K at_)) A outer s H E) body t)
    (rd : ∀ ds F R Φ, S ds F R Φ → t (endD Φ) (startD N.length ds) (F ++ R)) : FnOk P w K mg base CX0 (k + 1) (He.fAd K at_) fd ps (liftC K (CtOf S)) := by
  obtain ⟨oc, od, dV, kV, doc, pm, an, cdv, ct, osl, rfl, lk, hcd, _, _⟩ := F.ex
  obtain ⟨c, rfl⟩ := He.codeIn_ref hcd
  have ec : He.codeOf K at_ = c := He.codeOf_eq lk rfl
  rw [ec] at der
  exact fn_of lk hcd sc (fun vs H Q E ⟨ds, L, Φ, r, _, ⟨F, R, p, s⟩, _⟩ => by rw [← r.length]; exact len ds F R Φ s) fun A outer s H vs Q E hr ⟨ds, L, Φ, r, l, ⟨F, R, p, hs⟩, q⟩ => ⟨_, PSs.nox (der A outer s H E hr), _, F ++ R, endD Φ, sr_start r, l.cov p.cov, rd ds F R Φ hs, endK q⟩
end
end DL

/-! a law's start with tables of code -/
namespace DL
open PySem PySem.Spec PyProof.Rows L2 LamX
/-- these tables stand -/
def TabGs (cl : Cl) (ats : List (Str × Option Str)) : Hp → Prop := fun H => ∀ at_ ∈ ats, TabG cl at_ H
theorem tabG_start {cl : Cl} {at_ : Str × Option Str} {H : Hp} (h : H (cl.tb at_) = some (.tbl #[])) : TabG cl at_ H := ⟨#[], h, (by simp [TriplesOk]), fun pos cv e => by
  simp [PySem.codeAmong] at e⟩
theorem law_startT {K : PySem.W.Frag} {H : Hp} {S : Sc} {a g : Addr} {ns : List Int} {E : XK} {PP : Hp → Prop} (hP : PP H) (st : ∀ H1 H2, PP H1 → TK K H1 H2 → PP H2) (hS : SqL K H a (ns.map V.int))
    (h : ∀ o, (o = .ro (ns.map .int) ∨ o = .lst (ns.map .int)) → S [.ref a] [(a, o), (g, .gh PP)] [] fun d _ => d = .bl true) :
    liftC K (CtOf S) [.ref a] H (fun v _ => v = .bl true) E := by
  have key : ∀ o, (o = .ro (ns.map .int) ∨ o = .lst (ns.map .int)) → OKo K H a o → liftC K (CtOf S) [.ref a] H (fun v _ => v = .bl true) E := fun o ho ok => by
    refine ⟨[.ref a], [(a, o), (g, .gh PP)], fun d _ => d = .bl true, .cons .ref .nil, ⟨fun p hp => ?_, ?_⟩, ⟨_, _, .cons .here rfl (.cons .here rfl .nil), h o ho⟩, fun d L v H' e _ r _ => ?_⟩
    · rcases List.mem_cons.mp hp with e | hp
      · subst e; exact ok
      · rcases List.mem_cons.mp hp with e | hp
        · subst e; exact ⟨hP, st⟩
        · cases hp
    · simp [List.pairwise_cons, isRw]
    · subst e
      cases r
      rfl
  rcases hS with (hS | ⟨o, hS⟩) | hS
  · exact key _ (.inr rfl) ⟨_, hS, DRs.ints ns⟩
  · exact key _ (.inl rfl) ⟨_, .inl ⟨o, hS⟩, DRs.ints ns⟩
  · exact key _ (.inl rfl) ⟨_, .inr hS, DRs.ints ns⟩
/-! a head's hook that also knows the table of the interpreter's own statics -/
def asY (g : Addr → Option Obj) (n : Nat) : List Addr := He.asD g n ++ [cStatics]
def obsY (n : Nat) (fa : List He.Fa) (fn : List He.DefD) (ts : List He.Tab) (tf : List He.Defn) (ex : PySem.W.Frag → Bool) (g : Addr → Option Obj) : He.AlX := (He.obsT fa fn ts (He.frT g (asY g n)), ex (He.frT g (asY g n)) && He.tabsB g tf (He.frT g (asY g n)))
theorem saysY_of {n : Nat} {fa : List He.Fa} {fn : List He.DefD} {ts : List He.Tab} {tf : List He.Defn} {ex : PySem.W.Frag → Bool} {w : World} {h : Heap} (e : obsY n fa fn ts tf ex h.get? = He.valX fn ts w) : He.SaysX fa fn ts tf ex w h (He.frT h.get? (asY h.get? n)) := by
  have e1 : He.obsT fa fn ts (He.frT h.get? (asY h.get? n)) = He.valT fn ts w := congrArg (fun z : He.AlX => z.1) e
  have e2 : (ex (He.frT h.get? (asY h.get? n)) && He.tabsB h.get? tf (He.frT h.get? (asY h.get? n))) = true := congrArg (fun z : He.AlX => z.2) e
  obtain ⟨h1, h2⟩ := (Bool.and_eq_true _ _).mp e2
  have key : ∀ p ∈ tf, PySem.W.codeHdIn (He.frT h.get? (asY h.get? n)) (He.cT (He.frT h.get? (asY h.get? n)) p).1 (He.cT (He.frT h.get? (asY h.get? n)) p).2 = true ∧ ∃ o, h.get? (He.cT (He.frT h.get? (asY h.get? n)) p).2 = some o ∧ He.emptyTab o = true := fun p hp => by
    obtain ⟨h3, h4⟩ := (Bool.and_eq_true _ _).mp (List.all_eq_true.mp h2 p hp)
    refine ⟨h3, ?_⟩
    cases q : h.get? (He.cT (He.frT h.get? (asY h.get? n)) p).2 with
    | none =>
      rw [q] at h4
      cases h4
    | some o =>
      rw [q] at h4
      exact ⟨o, rfl, h4⟩
  exact ⟨e1, h1, fun p hp => (key p hp).1, fun p hp => by
    obtain ⟨_, o, q, z⟩ := key p hp
    exact He.frT_none q z, fun p hp => by
    obtain ⟨_, o, q, z⟩ := key p hp
    rw [q, He.emptyTab_eq z]⟩
def hookY (n : Nat) (fa : List He.Fa) (fn : List He.DefD) (ts : List He.Tab) (tf : List He.Defn) (ex : PySem.W.Frag → Bool) : PySem.W.Hook where
  α := He.AlX
  obs := fun s => obsY n fa fn ts tf ex s.heap.get?
  val := fun w => He.valX fn ts w
  says := fun w h => ∃ K : PySem.W.Frag, K.In h ∧ He.SaysX fa fn ts tf ex w h K
  of := fun _ _ e => ⟨_, He.frT_in, saysY_of e⟩
  keeps := fun _ _ _ ⟨K, hK, c⟩ k => ⟨K, PySem.W.Frag.In.keeps hK k, ⟨c.t, c.more, c.hd, c.out, fun p hp => k _ _ (c.empty p hp)⟩⟩
theorem obsY_eq {n : Nat} {fa : List He.Fa} {fn : List He.DefD} {ts : List He.Tab} {tf : List He.Defn} {ex : PySem.W.Frag → Bool} {g : Addr → Option Obj} {s : Shared} (h : ∀ a, g a = s.heap.get? a) : obsY n fa fn ts tf ex g = (hookY n fa fn ts tf ex).obs s := by
  have e : g = s.heap.get? := funext h
  rw [e] <;> rfl
end DL

/-! sorted(xs, key=lambda z: y[z]), y a list of ints that the def that makes it has in a cell -/
namespace DL
open PySem PySem.Spec PyProof.Rows L2 LamX
/-- one parameter z, and captured names -/
structure Lam1 (sc scope : Scope) (z y : Str) : Prop where
  kind : scope.kind = .function
  co : scope.isCoroutine = false
  gen : scope.isGenerator = false
  own : ∀ x ∈ scope.names, x.2 ≠ .cell
  par : scope.names.lookup z = some .local
  cap : scope.names.lookup y = some .free
  free : ∀ x ∈ scope.names, x.2 = .free → sc.names.lookup x.1 = some .cell ∨ sc.names.lookup x.1 = some .free
def lam1B (sc scope : Scope) (z y : Str) : Bool :=
  decide (scope.kind = .function) && (!scope.isCoroutine && (!scope.isGenerator && (decide (scope.names.lookup z = some .local) && (decide (scope.names.lookup y = some .free) && scope.names.all fun x => !decide (x.2 = .cell) && (!decide (x.2 = .free) || (decide (sc.names.lookup x.1 = some .cell) || decide (sc.names.lookup x.1 = some .free)))))))
theorem lam1_by {sc scope : Scope} {z y : Str} (h : lam1B sc scope z y = true) : Lam1 sc scope z y := by
  unfold lam1B at h
  simp only [Bool.and_eq_true, Bool.or_eq_true, Bool.not_eq_true', decide_eq_true_eq, decide_eq_false_iff_not, List.all_eq_true] at h
  obtain ⟨h1, h2, h3, h4, h5, h6⟩ := h
  exact ⟨h1, h2, h3, fun x hx => (h6 x hx).1, h4, h5, fun x hx e => (h6 x hx).2.resolve_left fun n => n e⟩
/-- the key of x -/
def ixK (ks : List Int) (x : Int) : Int := ks.getD x.toNat 0
def sortK (k : Int → Int) (ns : List Int) : List Int := ns.mergeSort fun a b => decide (k a ≤ k b)
theorem each_ints : ∀ {ns : List Int} {its : List Value}, Vals (ns.map V.int) its → PySem.W.EachIs (fun v x => ∃ t, v = Value.int x t) its ns
  | [], _, .nil => .nil
  | _ :: _, _, .cons r rs => .cons r (each_ints rs)
section
variable {X : Cx} {pins : List (Addr × Obj)} {σ : L2.St} {H : Hp} {s : Shared} {f c' ga : Addr} {z y : Str} {scope : Scope} {params : Arguments} {p1 p2 p3 : Pos} {pm ctv : Value} {i : Nat} {ks : List Int} {x : Int}
theorem lam1_turn {A : Around} (I : Inv X pins σ H s) (L : Lam1 X.env.scope scope z y) (hN : X.N[i]? = some y) (hσ : σ[i]? = some (some (.ref ga))) (hks : SqL X.K H ga (ks.map V.int)) (h0 : 0 ≤ x) (h1 : x < ks.length)
    (of1 : s.heap.get? f = some (PySem.W.kla_obj "<lambda>" (X.env.qual ++ "<lambda>") params (.Subscript (.Name y p1) (.Name z p2) p3) scope (cloFrom X.env.cells scope.names []) pm c' ctv)) (hcd : s.heap.CodeRec (.ref c') (X.env.qual ++ "<lambda>")) (hA : A.depth < recursionLimit)
    (hbind : ∀ v : Value, bindArgs (PySem.W.kla_fn "<lambda>" (X.env.qual ++ "<lambda>") params (.Subscript (.Name y p1) (.Name z p2) p3) scope (cloFrom X.env.cells scope.names []) pm (.ref c') ctv) ⟨[v], []⟩ = pure [(z, v)])
    (hy : (y == ("__debug__" : Str)) = false) (hy2 : (y == ("__classdict__" : Str)) = false) (hz : (z == ("__debug__" : Str)) = false) (t : Tok) :
    wpAny (model X.prog X.w) A (call (.ref f) [.int x t]) (PySem.W.KeyPure (.int (ixK ks x)) s) (fun _ _ => False) s := by
  obtain ⟨m0, hn0, hl0⟩ := I.loc
  have hfree : scope.names.lookup y = some .free := L.cap
  have hy3 : X.env.scope.names.lookup y = some .cell ∨ X.env.scope.names.lookup y = some .free := L.free _ (PySem.mem_of_lookup hfree) rfl
  obtain ⟨u, ru, lu⟩ := hl0 i y _ hN hσ (hy3.elim (fun e => .inr (.inl e)) fun e => .inr (.inr e))
  obtain rfl : u = Value.ref ga := ru
  obtain ⟨cy, hcy, hcell⟩ : ∃ c, X.env.cells.lookup y = some c ∧ s.heap.IsCell c (some (.ref ga)) := by
    rcases lu with ⟨e, _⟩ | ⟨_, c, e1, e2⟩
    · have e : X.env.scope.names.lookup y = some .local := e
      rcases hy3 with e2 | e2 <;> rw [e] at e2 <;> cases e2
    · exact ⟨c, e1, e2⟩
  have hclo : (cloFrom X.env.cells scope.names []).lookup y = some cy := by
    obtain ⟨c, hc⟩ := mem_lookup (cloFrom_has (cells := X.env.cells) (acc := []) (PySem.mem_of_lookup hfree))
    rcases cloFrom_mem (PySem.mem_of_lookup hc) with hm | ⟨_, h2⟩
    · cases hm
    · rw [hc, h2, hcy]
      rfl
  obtain ⟨its, r, hlist, hsz⟩ := I.list hks
  have hlen : (ks.length : Int) < 2 ^ 63 := by
    have := hsz
    rw [List.length_map] at this
    have := line63
    omega
  refine wpAny_call (PySem.W.kla_callFunE hA of1 rfl L.co L.gen rfl hcd ?_)
  rw [hbind]
  refine wpAny_pure (wpAny_newFunctionEnv (fun w hw => L.own w hw) (fun w hw => ?_) (fun h₁ hns hsb => ⟨I.nolimit.fresh _ hsb, ?_⟩) L.kind)
  · simp only [List.mem_singleton] at hw
    subst hw
    exact L.par
  have kp : ∀ b o, s.heap.get? b = some o → h₁.get? b = some o := fun b o e => hsb.extBut b o (Nat.ne_of_lt (Heap.lt_size e)) (Heap.get?_push_of_some _ e)
  refine PySem.W.kla_codeExpr ?_
  refine Subscript_ ?_
  refine wpAny_Name (wpAny_loadName_free (c := cy) (v := .ref ga) L.kind hfree hclo ?_ ?_ hy2) hy
  · obtain ⟨o, ho, hd⟩ := hcell
    exact ⟨o, kp _ _ ho, hd⟩
  refine wpAny_Name (wpAny_loadName_local (v := .int x t) L.kind L.par hns ?_ ?_) hz
  · simp [List.lookup]
  have hl2 : h₁.IsList ga its.toArray := by
    obtain ⟨o, ho, hr⟩ := hlist.isList
    exact ⟨o, kp _ _ ho, hr⟩
  refine item_list_intsR hl2 r.ints h0 h1 (by omega) fun t2 => ?_
  exact ⟨h₁, _, rfl, kp, .int _ _⟩
end
theorem sortK_perm {k : Int → Int} {ns : List Int} : (sortK k ns).Perm ns := List.mergeSort_perm _ _
theorem vals_each : ∀ {ns : List Int} {its : List Value}, PySem.W.EachIs (fun v x => ∃ t, v = Value.int x t) its ns → Vals (ns.map V.int) its
  | _, _, .nil => .nil
  | _, _, .cons r rs => .cons r (vals_each rs)
/-- sorted(xs, key=lambda z: y[z]), y at slot i -/
def tSortK' (T : LL → Prop) (ta : TE') (i : Nat) : TE' := fun σ L Φ => ta σ L fun d L1 => intsL d L1 fun ns => T L1 ∧ Nth σ i fun g => match g with
  | .ref ga => ∃ ds, HasL L1 ga ds ∧ ∃ ks : List Int, ds = ks.map .int ∧ (∀ x ∈ ns, 0 ≤ x ∧ x < ks.length) ∧ ∀ p, Φ (.ref p) ((p, .lst ((sortK (ixK ks) ns).map .int)) :: L1)
  | _ => False
section
variable {X : Cx} {c P : Addr} {params : Arguments} {scope : Scope} {z y : Str} {p p1 p2 p3 lpos kpos pos : Pos} {ta : TE'} {a : Expr} {i k : Nat}
open Classical in
theorem pe_sortlam' (hg : Gl X "sorted") (hmg : X.mg "sorted" = none) (ha : PE' X a ta) (TB : TabB X.base X.mg c P) (hcode : X.env.code = .ref c) (hm : (P, X.env.qual ++ "<lambda>") ∈ tabsK X.K) (hu : ∀ p ∈ tabsK X.K, p.1 = P → p.2 = X.env.qual ++ "<lambda>")
    (hr : Room k X.A) (L : Lam1 X.env.scope scope z y) (hN : X.N[i]? = some y)
    (hdef : defaultsOf params X.env = ([], []))
    (hbind : ∀ (q : Str) (cl : List (Str × Addr)) (pm cv ctv v : Value), bindArgs (PySem.W.kla_fn "<lambda>" q params (.Subscript (.Name y p1) (.Name z p2) p3) scope cl pm cv ctv) ⟨[v], []⟩ = pure [(z, v)])
    (hst : starEach [a] X.env = (false, eval a X.env) :: starEach [] X.env := by rfl) (he : backTo pos (starEach [a] X.env) = (false, eval a X.env) :: backTo pos (starEach [] X.env) := by rfl) (hpl : (backTo pos (starEach [a] X.env)).any (·.1) = false := by rfl)
    (hy : (y == ("__debug__" : Str)) = false := by decide) (hy2 : (y == ("__classdict__" : Str)) = false := by decide) (hz : (z == ("__debug__" : Str)) = false := by decide) :
    PE' X (.Call (.Name "sorted" p) [a] [⟨some "key", .Lambda params (.Subscript (.Name y p1) (.Name z p2) p3) scope lpos, kpos⟩] pos) (tSortK' (HasT P (X.env.qual ++ "<lambda>")) ta i) := by
  refine ⟨fun pins s σ H Q I ⟨σd, L0, Φ, hs, hl, ht, kk⟩ => ?_⟩
  refine wpAny_Call_Name_kw (ld_blt I hg hmg PyProof.Rows.boot_sorted ?_ (by decide) (by decide))
  refine PyProof.Rows.callWith_kw (thn ((pa_cons' ha pa_nil' hst).run pos pins s σ H (fun vs H1 => ∃ d v L1, vs = [v] ∧ TK X.K H H1 ∧ DR X.K H1 d v ∧ HL X.K H1 L1 ∧ intsL d L1 fun ns => HasT P (X.env.qual ++ "<lambda>") L1 ∧ Nth σd i fun g => match g with
      | .ref ga => ∃ ds, HasL L1 ga ds ∧ ∃ ks : List Int, ds = ks.map .int ∧ (∀ x ∈ ns, 0 ≤ x ∧ x < ks.length) ∧ ∀ p, Φ (.ref p) ((p, .lst ((sortK (ixK ks) ns).map .int)) :: L1)
      | _ => False) I ⟨σd, L0, fun ds L1 => match ds with
    | [d] => intsL d L1 fun ns => HasT P (X.env.qual ++ "<lambda>") L1 ∧ Nth σd i fun g => match g with
      | .ref ga => ∃ ds, HasL L1 ga ds ∧ ∃ ks : List Int, ds = ks.map .int ∧ (∀ x ∈ ns, 0 ≤ x ∧ x < ks.length) ∧ ∀ p, Φ (.ref p) ((p, .lst ((sortK (ixK ks) ns).map .int)) :: L1)
      | _ => False
    | _ => False, hs, hl, ht, fun ds L1 vs H1 h1 t1 r1 l1 => ?_⟩) fun us s1 ⟨vs, H1, I1, r1, q1⟩ => ?_) he hpl (by rfl) (by rfl)
  · match ds, vs, r1 with
    | [d], [v], .cons r .nil => exact ⟨d, v, L1, rfl, t1, r, l1, h1⟩
  obtain ⟨d, v, L1, rfl, t1, rd, l1, q1⟩ := q1
  cases rd with
  | ref =>
    rename_i la
    obtain ⟨ds, hh, ns, rfl, ⟨g0, Qg, hgh, hq⟩, hnth⟩ := (show ∃ ds, _ from q1)
    have htab : TabS H1 P (X.env.qual ++ "<lambda>") := hq H1 (l1.has hgh).1
    obtain rfl := Vals.ref1 r1
    have hs1 := hs.mono t1
    obtain ⟨dg, vg, hσ, rg, hg2⟩ := Nth.get hs1 hnth
    cases rg with
    | ref =>
      rename_i ga
      obtain ⟨dks, hks, ks, rfl, hb, hΦ⟩ := hg2
      show wpAny _ _ (evalAll ((do let v ← eval _ X.env; standAt pos; pure v) :: (backToKw pos (keywordEach [] X.env)).map (·.2))) _ _ s1
      refine wpAny_evalAll_cons (wpAny_bind ?_)
      refine lam_make2 (T := (tabsK X.K).filter (fun p => decide (TabS H1 p.1 p.2))) I1 TB hcode (List.mem_filter.mpr ⟨hm, decide_eq_true htab⟩) (fun p hp e => hu p (List.mem_filter.mp hp).1 e) (fun p hp => of_decide_eq_true (List.mem_filter.mp hp).2) hdef
        (fun w hw e => I1.ok.has _ ((L.free w hw e).elim .inl .inr)) fun f c' pm ctv H2 s2 I2 eN T2 of2 hfn hfr hC => ?_
      refine wpAny_bind (wpAny_standAt (wpAny_pure ?_))
      refine wpAny_evalAll_nil ?_
      show wpAny _ _ (call (.builtin "sorted") [.ref la] [(Str.ofString "key", .ref f)]) _ _ s2
      have tk : TK X.K H1 H2 := ExtN.tk eN fun p hp h => T2 p (List.mem_filter.mpr ⟨hp, decide_eq_true h⟩)
      have l2 : HL X.K H2 L1 := l1.extN eN tk
      obtain ⟨xs, hxs, rxs⟩ := l2.seq hh
      obtain rfl := rxs.ints'
      obtain ⟨ys, hys, rys⟩ := l2.seq hks
      obtain rfl := rys.ints'
      obtain ⟨its, rits, plist, hsz⟩ := I2.list hxs
      have hcr : s2.heap.CodeRec (.ref c') (X.env.qual ++ "<lambda>") := by
        obtain ⟨⟨oc, vs, t, hoc, hdc, hvc⟩, _, _⟩ := I2.hok c' _ hC
        exact ⟨c', oc, vs, t, rfl, hoc, hdc, hvc⟩
      have hlen : ns.length ≤ sizeLine := by simpa using hsz
      refine PySem.W.sorted_key_data (b := false) (fun x : Int => .int (ixK ks x)) plist.isList (each_ints rits) (PySem.W.AllAlike.of fun _ _ => rfl) (PySem.W.Sortable.others fun _ => ⟨nofun, nofun⟩) hlen (fun x _ => ?_) (PyProof.Rows.ksk_s1 _ _) (fun _ => PyProof.Rows.ksk_l1 _ _) (fun x => PyProof.Rows.ksk_t1 f x) (fun v x hv hx h tk2 hk => ?_) fun out c2 h' tk2 hk2 hf2 ho2 hl2 he2 => ?_
      · show X.A.units + 2 + 0 < cLine
        have := hr.un
        omega
      · obtain ⟨t, rfl⟩ := hv
        have I3 : Inv X pins σ H2 { s2 with heap := h, toks := tk2 } := I2.kept hk
        have hcr3 : h.CodeRec (.ref c') (X.env.qual ++ "<lambda>") := by
          obtain ⟨c0, oc, vs, t, e, hoc, hdc, hvc⟩ := hcr
          exact ⟨c0, oc, vs, t, e, hk _ _ hoc, hdc, hvc⟩
        refine lam1_turn (A := X.A.in1.in1) I3 L hN hσ hys (hb x hx).1 (hb x hx).2 (hk _ _ of2) hcr3 ?_ (fun v => hbind _ _ _ _ _ v) hy hy2 hz t
        have := hr.dp
        show X.A.depth < recursionLimit
        omega
      · have hz2 : H2 (s2.heap.objs.size + 1) = none := I2.hok.fresh (Nat.le_succ _)
        have he3 : PySem.W.EachIs (fun v x => ∃ t, v = Value.int x t) out (sortK (ixK ks) ns) := by
          have e : PySem.W.dataLe false (fun x : Int => PyData.int (ixK ks x)) = fun a b => decide (ixK ks a ≤ ixK ks b) := PySem.W.dataLe_int _
          rw [e] at he2
          exact he2
        have hlen2 : ((sortK (ixK ks) ns).map V.int).length ≤ sizeLine := by
          rw [List.length_map, sortK_perm.length_eq]
          exact hlen
        have rv := vals_each he3
        refine ⟨.ref _, upd H2 (s2.heap.objs.size + 1) (.lst ((sortK (ixK ks) ns).map V.int)), I2.laid (t' := tk2) hk2 (Nat.le_succ _) ⟨hlen2, out, c2, rv, ho2⟩, rfl, ?_⟩
        exact kk _ _ _ _ (hΦ _) ((t1.trans tk).trans (TK.new hz2)) .ref (l2.newl hz2 (DRs.ints _))
    | _ => exact hg2.elim
  | _ => exact (show False from q1).elim
end
end DL

/-! sorted(set(xs)), len(set(xs)), xs a list of ints -/
namespace DL
open PySem PySem.Spec PyProof.Rows L2
abbrev mtSet (w : World) : Obj := { cls := .type "set", dict := none, data := .set #[] 0 (.fresh 0 0 (!w.params.followText "set-order")) }
section
variable {P : Program} {w : World} {A : Around} {E : Value → Shared → Prop} {s : Shared}
/-- what a fresh set holds once it has taken a list's ints -/
def TookAll (w : World) (s : Shared) (ns : List Int) (g : Heap) : Prop := ∃ c, c ≤ ns.length ∧ SetR w g s.heap.objs.size (fun j => decide (j ∈ ns)) c ∧ ∀ b o, s.heap.get? b = some o → g.get? b = some o
theorem took_init {q : Addr} {xs : Array Value} {ns : List Int} (hq : s.heap.IsList q xs) (hx : IntsAre xs.toList ns) (room : ns.length + 1 < scanBound) (calm : A.handled = none)
    (ht : Shared.TypeIs { s with heap := s.heap.push (mtSet w) } (.ref s.heap.objs.size) "set") :
    codeAny (model P w) A (.call (.builtin "set.__init__") ⟨[.ref s.heap.objs.size, .ref q], []⟩) (wants (fun r s2 => r = .none ∧ ∃ g tk, s2 = { s with heap := g, toks := tk } ∧ TookAll w s ns g) E) { s with heap := s.heap.push (mtSet w) } := by
  have nsz : xs.size = ns.length := by
    have e := IntsAre.length hx
    rwa [Array.length_toList] at e
  refine codeAny_call_builtin F.called_set.init.plain F.entry_set_init (check_set_init_1 ht ?_)
  obtain ⟨o1, ho1, hk1, n1, hd1⟩ := hq
  obtain ⟨k1, d1, t1, z1⟩ := o1
  simp only at hk1 hd1
  subst hk1; subst hd1
  have ho2 : (s.heap.push (mtSet w)).get? q = some { cls := .type "list", dict := d1, data := .seq xs n1, slots := z1 } := Heap.get?_push_of_some _ ho1
  have f1 := F.sub_list_set
  have f2 := F.sub_list_frozenset
  have f3 : (Value.type "list" == Value.type "dict") = false := by decide
  have hq2 : (s.heap.push (mtSet w)).IsList q xs := ⟨_, ho2, rfl, n1, rfl⟩
  unfold Builtin.«set.__init__» noKeywords Builtin.Frozenset.updateFrom
  generalize hgo : pyIter = go
  wp_walk
  subst hgo
  refine wpAny_pyIter_list hq2 ?_
  refine wpAny_bind (wpAny_runValue ?_)
  have lq : q < s.heap.objs.size := Heap.lt_size ho1
  have calm3 : A.in1.in1.handled = none := by simp [calm]
  have sz1 : (s.heap.push (mtSet w)).objs.size = s.heap.objs.size + 1 := Heap.size_push ..
  have ne1 : q ≠ (s.heap.push (mtSet w)).objs.size := by rw [sz1]; exact Nat.ne_of_lt (Nat.lt_succ_of_lt lq)
  have ne2 : s.heap.objs.size ∉ [(s.heap.push (mtSet w)).objs.size, q] := by
    rw [sz1]
    simp only [List.mem_cons, List.not_mem_nil, or_false, not_or]
    exact ⟨Nat.ne_of_lt (Nat.lt_succ_self _), Nat.ne_of_gt lq⟩
  have hv : ∀ (i : Nat) (v : Value), xs[i]? = some v → ∃ k t, ns[i]? = some k ∧ v = .int k t := fun i v e => by
    have hi : i < ns.length := by rw [← nsz]; exact (Array.getElem?_eq_some_iff.mp e).1
    obtain ⟨t, e2⟩ := IntsAre.int_at hx i v (by rw [Array.getElem?_toList]; exact e)
    exact ⟨ns[i], t, List.getElem?_eq_getElem hi, by rw [e2, List.getD_eq_getElem?_getD, List.getElem?_eq_getElem hi]; rfl⟩
  refine set_update_ints ((Walks.list calm3 _ q ne1 xs).toS) s.heap.objs.size ne2 ns nsz room hv xs.size 0 _ (by omega) (Nat.zero_le _) ⟨⟨_, Heap.get?_push_size _ rfl, rfl, rfl⟩, hq2.push _⟩ ⟨0, Nat.le_refl 0, setR_new_at ?_⟩ ?_
  · exact Heap.get?_push_of_some _ (Heap.get?_push_size _ rfl)
  · intro s3 c mv hc hR
    obtain ⟨g, gn, dr, tk, os⟩ := s3
    have e1 : gn = s.gens := mv.gens
    have e2 : dr = s.drawn := mv.drawn
    have e3 : os = s.os := mv.os
    subst e1; subst e2; subst e3
    show wpAny _ _ _ _ _ _
    refine wpAny_pure ?_
    show wpAny _ _ (ret Value.none) _ _ _
    refine wpAny_pure ⟨rfl, g, tk, rfl, c, by omega, hR, fun b o e => ?_⟩
    have lb : b < s.heap.objs.size := Heap.lt_size e
    refine mv.heap b o ?_ (Heap.get?_push_of_some _ (Heap.get?_push_of_some _ e))
    simp only [List.mem_cons, List.not_mem_nil, or_false, not_or, sz1]
    exact ⟨Nat.ne_of_lt lb, Nat.ne_of_lt (Nat.lt_succ_of_lt lb)⟩
theorem set_of_list {q : Addr} {xs : Array Value} {ns : List Int} {Q : Value → Shared → Prop} (hq : s.heap.IsList q xs) (hx : IntsAre xs.toList ns) (room : ns.length + 1 < scanBound) (calm : A.handled = none)
    (k : ∀ g tk, TookAll w s ns g → Q (.ref s.heap.objs.size) { s with heap := g, toks := tk }) : wpAny (model P w) A (call (.type "set") [.ref q]) Q E s := by
  obtain ⟨c, tl, m1⟩ := F.called_set.mro
  have m2 := F.called_set.made
  have m3 := F.called_set.sub
  refine wpAny_call (codeAny_of_tree ?_)
  show wpAny _ _ (callAny (.type "set") _) _ _ _
  refine wpAny_pure ⟨Code.quiet_builtin _ (by decide +kernel), codeAny_builtin F.entry_type_call ?_⟩
  rw [Around.under_plain (weight_type_call_type "set" [.ref q] []) rfl]
  have m4 := F.called_set.notType
  have m5 := F.called_set.canCreate
  have m6 := F.typeCall_set_1 (.ref q)
  repeat (any_goals (first | assumption | wp_step))
  refine codeAny_mono (code_set_led1 (.ref q) (E := E) (Q₁ := fun v s1 => v = .ref s.heap.objs.size ∧ s1 = { s with heap := s.heap.push (mtSet w) }) ⟨rfl, rfl⟩) fun r s1 hr => ?_
  cases r with
  | error e => exact hr
  | ok fl =>
    cases fl with
    | ret v =>
      obtain ⟨rfl, rfl⟩ := hr
      have ht : Shared.TypeIs { s with heap := s.heap.push (mtSet w) } (.ref s.heap.objs.size) "set" := ⟨_, Heap.get?_push_size _ rfl, rfl⟩
      have m7 := F.called_set.init.lookup
      have m8 := F.called_set.init.bind (.ref s.heap.objs.size)
      repeat (any_goals (first | assumption | wp_step))
      refine codeAny_mono (took_init (E := E) hq hx room (by simpa using calm) ht) fun r2 s2 hr2 => ?_
      cases r2 with
      | error e => exact hr2
      | ok fl2 =>
        cases fl2 with
        | ret v2 =>
          obtain ⟨rfl, g, tk, rfl, h⟩ := hr2
          repeat (any_goals (first | assumption | wp_step))
          exact k _ _ h
        | _ => exact hr2.elim
    | _ => exact hr.elim
end
/-- sorted(set(xs)) -/
def tSortSet' (ta : TE') : TE' := fun σ L Φ => ta σ L fun d L1 => intsL d L1 fun ns => ns.length < 64 ∧ ∀ (ns' : List Int) (p : Addr), ns'.Pairwise (· < ·) → (∀ k, k ∈ ns' ↔ k ∈ ns) → Φ (.ref p) ((p, .lst (ns'.map .int)) :: L1)
theorem pe_sortset' {X : Cx} {ta : TE'} {a : Expr} {p p2 q pos : Pos} (hc : X.calm = true) (hg : Gl X "sorted") (hm : X.mg "sorted" = none) (hg2 : Gl X "set") (hm2 : X.mg "set" = none) (ha : PE' X a ta)
    (na : starEach [a] X.env = (false, eval a X.env) :: starEach [] X.env := by rfl) : PE' X (.Call (.Name "sorted" p) [.Call (.Name "set" p2) [a] [] q] [] pos) (tSortSet' ta) := by
  refine ⟨fun pins s σ H Q I ⟨σd, L0, Φ, hs, hl, ht, kk⟩ => ?_⟩
  refine Call_ (ld_blt I hg hm PyProof.Rows.boot_sorted ?_)
  refine PyProof.Rows.callWith_builtin1 (PyProof.Rows.args_cons ?_ rfl) rfl rfl
  refine Call_ (ld_blt I hg2 hm2 PyProof.Rows.boot_set ?_)
  refine PyProof.Rows.callWith_type1 (PyProof.Rows.args_cons (thn (ha.run pins s σ H (fun v H1 => ∃ d L1, TK X.K H H1 ∧ DR X.K H1 d v ∧ HL X.K H1 L1 ∧ intsL d L1 fun ns => ns.length < 64 ∧ ∀ (ns' : List Int) (p : Addr), ns'.Pairwise (· < ·) → (∀ k, k ∈ ns' ↔ k ∈ ns) → Φ (.ref p) ((p, .lst (ns'.map .int)) :: L1)) I ⟨σd, L0, _, hs, hl, ht, fun d L1 v H1 h1 t1 r1 l1 => ⟨d, L1, t1, r1, l1, h1⟩⟩) fun v s1 ⟨x, H1, I1, r1, q1⟩ => PyProof.Rows.args_nil ?_) na) na rfl
  obtain ⟨d, L1, t1, rd, l1, q1⟩ := q1
  obtain ⟨la, ns, rfl, hq, h64, q1⟩ := intsL_dr rd l1 q1
  cases r1
  obtain ⟨its, r, pl, hz⟩ := I1.list hq
  refine set_of_list pl.isList (ns := ns) (by simpa using r.ints) (by unfold scanBound; omega) (I1.ok.hd hc) fun g tk ⟨c, hc1, hR, hk⟩ => ?_
  refine PyProof.Rows.args_nil ?_
  have I2 : Inv X pins σ H1 { s1 with heap := g, toks := tk } := I1.kept hk
  refine sorted_set (s := { s1 with heap := g, toks := tk }) hR (I2.ok.hd hc) (by omega) fun s' p out cc ns2 k g1 o hp hg1 hi hs1 hm1 hl1 => ?_
  have hn : H1 p = none := I2.hok.fresh hp
  have J : Inv X pins σ (upd H1 p (.lst (ns2.map V.int))) { s1 with heap := s'.heap, gens := s'.gens, drawn := s'.drawn, toks := s'.toks } :=
    L2.Inv.call (s := { s1 with heap := g, toks := tk }) (ch := []) I2 (Un.laid (h := g) k hp hn) (I2.hok.laid k hp ⟨by rw [List.length_map, sizeLine_eq]; omega, out.toList, cc, vals_of_ints hi, hg1⟩) (by rw [g1]; exact I2.bare) (fun _ z => nomatch z)
  have e : s' = { s1 with heap := s'.heap, gens := s'.gens, drawn := s'.drawn, toks := s'.toks } := by
    cases s'
    cases s1
    cases o
    rfl
  rw [e]
  exact ⟨.ref p, _, J, rfl, kk _ _ _ _ (q1 ns2 p hs1 (fun j => by rw [hm1 j]; simp)) (t1.trans (TK.new hn)) .ref (l1.newl hn (DRs.ints ns2))⟩
end DL

/-! more methods of lists; bit_length -/
namespace DL
open PySem PySem.Spec PyProof.Rows L2
section
variable {K : PySem.W.Frag} {X : Cx}
/-- xs.pop(i) -/
def fPopAt : FM := fun d ds L Φ => match d with
  | .ref l => one ds fun y => intD y fun i => ∃ xs L' j, Chg L l (.lst xs) (.lst (xs.eraseIdx j)) L' ∧ ixN xs.length i = some j ∧ ∃ z, xs[j]? = some z ∧ xs.length ≤ 1000000 ∧ Φ z L'
  | _ => False
theorem DRs.erase {H : Hp} : ∀ {ds : List D} {vs : List V} (j : Nat), DRs K H ds vs → DRs K H (ds.eraseIdx j) (vs.eraseIdx j)
  | _, _, _, .nil => .nil
  | _, _, 0, .cons _ r => r
  | _, _, j + 1, .cons a r => .cons a (DRs.erase j r)
theorem md_popAt : MD K fPopAt rPopAt := fun d ds x vs L H Φ Q r rs l h k => by
  cases r with
  | ref =>
    obtain ⟨y, v, rfl, rfl, ry, q⟩ := one_dr rs h
    obtain ⟨i, rfl, rfl, xs, L', j, c, hj, z, hz, hlen, q⟩ := int_dr ry q
    obtain ⟨us, e, ru⟩ := l.lst c.has
    obtain ⟨u, hu, rz⟩ := ru.get hz
    obtain ⟨t2, l2⟩ := l.chgl c e (ru.erase j)
    have hs := ixN_seq hj
    have hn : xs.length = us.length := ru.length
    have hl : j < us.length := (List.getElem?_eq_some_iff.mp hu).1
    exact ⟨_, us, i, j, u, rfl, rfl, e, by omega, by omega, by rw [← hn]; exact hs.1, hu, k _ _ _ _ q t2 (rz.mono t2) l2⟩
  | _ => exact (show False from h).elim
/-- xs.insert(i, y) -/
def fInsert : FM := fun d ds L Φ => match d with
  | .ref l => two ds fun y z => intD y fun i => ∃ xs L', Chg L l (.lst xs) (.lst (xs.take i.toNat ++ [z] ++ xs.drop i.toNat)) L' ∧ (xs.length ≤ 1000000 ∧ 0 ≤ i ∧ i < 2 ^ 62) ∧ Φ .non L'
  | _ => False
theorem md_insert : MD K fInsert (fun x vs H Q => ∃ (l : Addr) (xs : List V) (i : Int) (y : V), x = .ref l ∧ vs = [.int i, y] ∧ H l = some (.lst xs) ∧ xs.length < sizeLine ∧ 0 ≤ i ∧ i < 2 ^ 63 ∧
    Q .non (upd H l (.lst (xs.take i.toNat ++ [y] ++ xs.drop i.toNat)))) := fun d ds x vs L H Φ Q r rs l h k => by
  cases r with
  | ref =>
    obtain ⟨y, z, v, u, rfl, rfl, ry, rz, q⟩ := two_dr rs h
    obtain ⟨i, rfl, rfl, xs, L', c, ⟨z1, z2, z3⟩, q⟩ := int_dr ry q
    obtain ⟨us, e, ru⟩ := l.lst c.has
    obtain ⟨t2, l2⟩ := l.chgl c e (((ru.take i.toNat).append (.cons rz .nil)).append (ru.drop i.toNat))
    exact ⟨_, us, i, u, rfl, rfl, e, by rw [← ru.length]; exact szl' z1, z2, by omega, k _ _ _ _ q t2 .non l2⟩
  | _ => exact (show False from h).elim
/-- xs.count(i), ints -/
def fCount : FM := fun d ds L Φ => one ds fun y => intD y fun i => intsL d L fun ns => Φ (.int (ns.count i : Nat)) L
theorem md_count : MD K fCount (rCntI K) := fun d ds x vs L H Φ Q r rs l h k => by
  obtain ⟨y, v, rfl, rfl, ry, q⟩ := one_dr rs h
  obtain ⟨i, rfl, rfl, q⟩ := int_dr ry q
  obtain ⟨a, ns, rfl, e, q⟩ := intsL_dr r l q
  exact ⟨a, ns, i, rfl, rfl, e, k _ _ _ _ q .refl .int l⟩
def fClear : FM := fun d ds L Φ => match d with
  | .ref l => ds = [] ∧ ∃ xs L', Chg L l (.lst xs) (.lst []) L' ∧ Φ .non L'
  | _ => False
theorem md_clear : MD K fClear rClear := fun d ds x vs L H Φ Q r rs l h k => by
  cases r with
  | ref =>
    obtain ⟨rfl, xs, L', c, q⟩ := (show ds = [] ∧ _ from h)
    cases rs
    obtain ⟨us, e, ru⟩ := l.lst c.has
    obtain ⟨t2, l2⟩ := l.chgl c e (ds' := []) (vs' := []) .nil
    exact ⟨_, us, rfl, rfl, e, k _ _ _ _ q t2 .non l2⟩
  | _ => exact (show False from h).elim
/-- i.bit_length() -/
def tBitLen' (t : TE') : TE' := fun σ L Φ => t σ L fun d L1 => intD d fun i => Φ (.int (Builtin.Int.intBits i : Nat)) L1
theorem pe_bitlen' {o : Expr} {to : TE'} {apos pos : Pos} (h : PE' X o to) (hb : attributeBase o "bit_length" X.env (eval o X.env) = eval o X.env := by rfl) (hline : (apos.endLine == pos.line) = true := by rfl) : PE' X (.Call (.Attribute o "bit_length" apos) [] [] pos) (tBitLen' to) :=
  lE (pe_bits h hb hline) fun σ H Q ⟨σd, L, Φ, hs, hl, ht, k⟩ => ⟨σd, L, _, hs, hl, ht, fun d L1 v H1 h1 t1 r1 l1 => by
    obtain ⟨i, rfl, rfl, q⟩ := int_dr r1 h1
    exact ⟨i, rfl, k _ _ _ _ q t1 .int l1⟩⟩
end
end DL

/-! counts of sorts, by program and by law: mirrors, contracts -/
namespace DL
open PySem PySem.Spec PyProof.Rows L2
def S_require_number (cl : Cl) : Sc := fun ds F R Φ => ∃ (x : Str) (v lo hi : Int), ds = [.str x, .int v, .int lo, .int hi] ∧ F = [] ∧ (lo ≤ v ∧ v ≤ hi) ∧ Φ .non R
def C_require_number (cl : Cl) : Ct := CtOf (S_require_number cl)
def depGo (place : Nat) : Nat → Nat → Nat → Nat → Nat
  | 0, _, _, c => c
  | f + 1, lo, hi, c => if lo < hi then (if place ≤ (lo + hi) / 2 then depGo place f lo ((lo + hi) / 2) (c + 1) else depGo place f ((lo + hi) / 2 + 1) hi (c + 1)) else c
def depthN (index place : Nat) : Nat := depGo place index 0 index 0
def depthsN (index lo hi : Nat) : Nat := ((List.range (hi - lo)).map fun i => depthN index (lo + i)).sum
def factN (n : Nat) : Int := (List.range (n - 1)).foldl (fun (a : Int) (i : Nat) => a * ((i : Int) + 2)) 1
def swr (many len : Nat) (o : Int) (ways : List Int) : Int :=
  (List.range (many - (len + 1))).foldl (fun (a : Int) (i : Nat) => a + ((len * o) + ((len - 1) * o) + ((len - 2) * len * o)) / (((len : Int) + 1 + i) + 1) * ways.getD (len + 1 + i) 0)
    ((len * o) * (len + 1) + o * (depthsN len 0 len : Nat) + ((len - 1) * o) * (len + 2) + o * (depthsN len 1 len : Nat) + ((len - 2) * len * o) * (len + 2) + (len - 2) * o * (depthsN len 0 len : Nat))
def waysN (n : Nat) : List Int := (List.range n).map fun i => ((depthsN i 0 (i + 1) : Nat) : Int)
def sumOf (n : Nat) : Int := if n < 2 then 0 else
  (List.range (n - 2)).foldl (fun (a : Int) (i : Nat) => a + swr n (2 + i) (factN n / factN (2 + i + 1)) (waysN n)) (2 * ((n : Int) - 1) + ((n : Int) - 2) * (n + 1))
def S_depth (cl : Cl) : Sc := fun ds F R Φ => ∃ (i p : Nat), ds = [.int i, .int p] ∧ F = [] ∧ i ≤ 100000 ∧ Φ (.int (depthN i p)) R
def C_depth (cl : Cl) : Ct := CtOf (S_depth cl)
def S_depths (cl : Cl) : Sc := fun ds F R Φ => ∃ (i lo hi : Nat), ds = [.int i, .int lo, .int hi] ∧ F = [] ∧ (i ≤ 100000 ∧ lo ≤ 100000 ∧ hi ≤ 100000) ∧ Φ (.int (depthsN i lo hi : Nat)) R
def C_depths (cl : Cl) : Ct := CtOf (S_depths cl)
def S_factorial (cl : Cl) : Sc := fun ds F R Φ => ∃ n : Nat, ds = [.int n] ∧ F = [] ∧ n ≤ 100000 ∧ Φ (.int (factN n)) R
def C_factorial (cl : Cl) : Ct := CtOf (S_factorial cl)
def S_sum_with_run (cl : Cl) : Sc := fun ds F R Φ => ∃ (many len : Nat) (o : Int) (q : Addr) (ways : List Int), ds = [.int many, .int len, .int o, .ref q] ∧ F = [(q, intsO ways)] ∧ (many ≤ 63 ∧ len ≤ 63 ∧ many ≤ ways.length ∧ ∀ w ∈ ways, 0 ≤ w ∧ w ≤ 1000000) ∧ Φ (.int (swr many len o ways)) (F ++ R)
def C_sum_with_run (cl : Cl) : Ct := CtOf (S_sum_with_run cl)
def S_sum_of (cl : Cl) : Sc := fun ds F R Φ => ∃ n : Nat, ds = [.int n] ∧ F = [] ∧ n ≤ 63 ∧ Φ (.int (sumOf n)) R
def C_sum_of (cl : Cl) : Ct := CtOf (S_sum_of cl)
def g_sum_of__k0_many : List D → List D → List D := fun _ es => es
/-! the law -/
abbrev srcO (a b n : Int) : LO := .lst [.int a, .int b, .int n]
def S_law_source (cl : Cl) : Sc := fun ds F R Φ => ∃ c : Int, ds = [.int c] ∧ F = [] ∧ ∀ p a b, Φ (.ref p) ([(p, srcO a b 0)] ++ R)
def C__law_source (cl : Cl) : Ct := CtOf (S_law_source cl)
def S_law_draw (cl : Cl) : Sc := fun ds F R Φ => ∃ (p : Addr) (a b n z : Int), ds = [.ref p, .int z] ∧ F = [(p, srcO a b n)] ∧ (0 < z ∧ z < 2 ^ 70) ∧ ∀ d a' b' n' : Int, 0 ≤ d → d < z → Φ (.int d) ([(p, srcO a' b' n')] ++ R)
def C__law_draw (cl : Cl) : Ct := CtOf (S_law_draw cl)
def S_law_spots (cl : Cl) : Sc := fun ds F R Φ => ∃ (i p : Nat), ds = [.int i, .int p] ∧ F = [] ∧ i ≤ 100000 ∧ ∀ (q : Addr) (qs : List D), qs.length = depthN i p → Φ (.ref q) ((q, .lst qs) :: R)
def C__law_spots (cl : Cl) : Ct := CtOf (S_law_spots cl)
def preGo (ms : List Int) : Nat → Nat → Nat
  | 0, e => e
  | f + 1, e => if e < ms.length ∧ keyN ms (e - 1) ≤ keyN ms e then preGo ms f (e + 1) else e
def fallGo (ms : List Int) : Nat → Nat → Nat → Nat × Nat
  | 0, e, c => (e, c)
  | f + 1, e, c => if e < ms.length ∧ keyN ms e ≤ keyN ms (e - 1) then fallGo ms f (e + 1) (c + 1 + if keyN ms e = keyN ms (e - 1) then 1 else 0) else (e, c)
def goGo (ms : List Int) : Nat → Nat → Nat → Bool → Nat → Nat → Nat × Nat
  | 0, _, _, _, len, c => (len, c)
  | f + 1, i, last, going, len, c => if going then
      (if keyN ms last ≤ keyN ms i then goGo ms f (i + 1) i true (len + 1) (c + 1) else goGo ms f (i + 1) i false len (c + 1))
    else goGo ms f (i + 1) last false len c
def firstN (ms : List Int) : Nat := preGo ms ms.length 1
def dueTail (ms : List Int) (c1 : Nat) : Nat × Nat :=
  goGo ms (ms.length - (fallGo ms ms.length (firstN ms + 1) c1).1) (fallGo ms ms.length (firstN ms + 1) c1).1 (firstN ms - 1) true (fallGo ms ms.length (firstN ms + 1) c1).1
    ((fallGo ms ms.length (firstN ms + 1) c1).2 + if (fallGo ms ms.length (firstN ms + 1) c1).1 < ms.length then 2 else 0)
def runDue (ms : List Int) : Nat × Nat :=
  if firstN ms = ms.length then (ms.length, ms.length - 1)
  else if 1 < firstN ms then
    if keyN ms 0 < keyN ms (firstN ms - 1) then (firstN ms, firstN ms + 1) else dueTail ms (firstN ms + 1)
  else dueTail ms (firstN ms)
def belowN (ms : List Int) (i : Nat) : Nat := (List.range i).countP fun j => decide (keyN ms j ≤ keyN ms i)
def lawCount (ms : List Int) : Nat := (List.range (ms.length - (runDue ms).1)).foldl (fun (a i : Nat) => a + depthN ((runDue ms).1 + i) (belowN ms ((runDue ms).1 + i))) (runDue ms).2
def S_law_prefix (cl : Cl) : Sc := fun ds F R Φ => ∃ (q : Addr) (ms : List Int), ds = [.ref q, .int 0] ∧ F = [(q, intsO ms)] ∧ (1 ≤ ms.length ∧ ms.length ≤ 63) ∧ Φ (.int (firstN ms)) (F ++ R)
def C__law_prefix (cl : Cl) : Ct := CtOf (S_law_prefix cl)
abbrev atDue : Str × Option Str := ("_law_run_due", none)
abbrev tabDue (cl : Cl) : Addr × LO := (0, .gh (TabG cl atDue))
def S_law_run_due (cl : Cl) : Sc := fun ds F R Φ => ∃ (q : Addr) (ms : List Int), ds = [.ref q, .int 0] ∧ F = [(q, intsO ms), tabDue cl] ∧ (1 ≤ ms.length ∧ ms.length ≤ 63) ∧
  ∀ (p s : Addr) (its : List Nat) (qs : List D), its.Perm (List.range (runDue ms).1) → qs.length = (runDue ms).2 → Φ (.tup [.int (runDue ms).1, .ref p, .ref s]) ((p, rowO its) :: (s, .lst qs) :: (F ++ R))
def C__law_run_due (cl : Cl) : Ct := CtOf (S_law_run_due cl)
def S_law_sorted_count (cl : Cl) : Sc := fun ds F R Φ => ∃ (q : Addr) (ms : List Int), ds = [.ref q] ∧ F = [(q, intsO ms), tabDue cl] ∧ (1 ≤ ms.length ∧ ms.length ≤ 63) ∧ Φ (.int (lawCount ms)) (F ++ R)
def C__law_sorted_count (cl : Cl) : Ct := CtOf (S_law_sorted_count cl)
/-- lists of ints, each at its place -/
def cellI (cs : List (Addr × List Int)) : LL := cs.map fun c => (c.1, intsO c.2)
def refsI (cs : List (Addr × List Int)) : List D := cs.map fun c => .ref c.1
def bumpN (row : List Int) (p : Int) : List Int := (row.map fun x => x + if p ≤ x then 1 else 0) ++ [p]
def ordersN : Nat → List (List Int)
  | 0 => [[]]
  | n + 1 => (ordersN n).flatMap fun row => (List.range (n + 1)).map fun p => bumpN row (p : Nat)
def S_law_orders (cl : Cl) : Sc := fun ds F R Φ => ∃ n : Nat, ds = [.int n] ∧ F = [] ∧ n ≤ 6 ∧ ∀ (p : Addr) (cs : List (Addr × List Int)), cs.map (·.2) = ordersN n → Φ (.ref p) ((p, .lst (refsI cs)) :: (cellI cs ++ R))
def C__law_orders (cl : Cl) : Ct := CtOf (S_law_orders cl)
def S_law_ways (cl : Cl) : Sc := fun ds F R Φ => ∃ (i lo hi : Nat), ds = [.int i, .int lo, .int hi] ∧ F = [] ∧ (i ≤ 100000 ∧ lo ≤ 100000 ∧ hi ≤ 100000) ∧ Φ (.int (depthsN i lo hi : Nat)) R
def C__law_ways (cl : Cl) : Ct := CtOf (S_law_ways cl)
structure Stands where
  a : Int
  b : Int
  c : Int
  d : Int
def standsD (s : Stands) : D := .tup [.int s.a, .int s.b, .int s.c, .int s.d]
def stepN (s : Stands) (n : Nat) : Stands × Int :=
  (⟨s.a, s.b, s.c + s.b, s.d * (n + 1) + (s.a + s.c) * n + s.b * (n - 1)⟩,
   s.a * (1 + 2 * n + (depthsN n 0 n : Nat)) + s.b * (1 + 3 * n + (depthsN n 1 n : Nat)) + s.c * (1 + n + (depthsN n 0 n : Nat)) + s.d * (depthsN n 0 (n + 1) : Nat))
def S_law_step (cl : Cl) : Sc := fun ds F R Φ => ∃ (s : Stands) (n : Nat), ds = [standsD s, .int n] ∧ F = [] ∧ n ≤ 63 ∧ Φ (.tup [standsD (stepN s n).1, .int (stepN s n).2]) R
def C__law_step (cl : Cl) : Ct := CtOf (S_law_step cl)
def sumsGo : Nat → Nat → Stands → List Int → List Int
  | 0, _, _, l => l
  | f + 1, n, s, l => sumsGo f (n + 1) (stepN s n).1 (l ++ [l.getD (l.length - 1) 0 * (n + 1) + (stepN s n).2])
def sumsN : List Int := sumsGo 61 2 ⟨1, 1, 0, 0⟩ [0, 0, 2]
def S_law_sums (cl : Cl) : Sc := fun ds F R Φ => ds = [] ∧ F = [] ∧ ∀ q, Φ (.ref q) ((q, intsO sumsN) :: R)
def C__law_sums (cl : Cl) : Ct := CtOf (S_law_sums cl)
def S_law76 (cl : Cl) : Sc := fun ds F R Φ => ∃ (a : Addr) (ns : List Int), ds = [.ref a] ∧ (F = [(a, .ro (ns.map .int)), tabDue cl] ∨ F = [(a, .lst (ns.map .int)), tabDue cl]) ∧ ns.length ≤ 63 ∧ Φ (.bl true) R
def C_law76 (cl : Cl) : Ct := CtOf (S_law76 cl)
end DL

namespace DL
open PySem PySem.Spec PyProof.Rows L2
def t__law_source (cl : Cl) : TS' :=
  tRet' (tLst' (tCons' (tBin' fMul (tCB' fAbs (tCons' (tVar' 0) (tNil'))) (tCB' fInt (tCons' (tBin' fGe (tCB' fAbs (tCons' (tVar' 0) (tNil'))) (tBin' fPow (tC' (.int 10)) (tC' (.int 18)))) (tNil')))) (tCons' (tBin' fMod (tCB' fInt (tCons' (tVar' 0) (tNil'))) (tC' (.int 2147483587))) (tCons' (tC' (.int 0)) (tNil')))))
-- cell
def t__law_draw (cl : Cl) : TS' :=
  tSeq' (tIfS' (tTst' (tBin' fGt (tBin' fIx (tVar' 0) (tC' (.int 0))) (tC' (.int 0)))) (tSeq' (tAsg' (tBin' fMod (tCB' fInt (tCons' (tBin' fIx (tVar' 0) (tC' (.int 0))) (tNil'))) (tVar' 1)) (gName' 3))
  (tSeq' (tAsg' (tBin' fFdiv (tBin' fIx (tVar' 0) (tC' (.int 0))) (tVar' 1)) (gSub' (tVar' 0) (tC' (.int 0))))
  (tRet' (tVar' 3)))) (tNext'))
  (tSeq' (tAsg' (tBin' fAdd (tBin' fIx (tVar' 0) (tC' (.int 2))) (tC' (.int 1))) (gSub' (tVar' 0) (tC' (.int 2))))
  (tSeq' (tAsg' (tBin' fMod (tCB' fInt (tCons' (tBin' fMul (tBin' fAdd (tBin' fAdd (tBin' fIx (tVar' 0) (tC' (.int 1))) (tBin' fMul (tC' (.int 52711)) (tBin' fIx (tVar' 0) (tC' (.int 2))))) (tC' (.int 13))) (tC' (.int 48271))) (tNil'))) (tC' (.int 2147483629))) (gName' 2))
  (tSeq' (tAsg' (tBin' fMod (tCB' fInt (tCons' (tBin' fMul (tVar' 2) (tBin' fAdd (tBin' fAdd (tBin' fFdiv (tVar' 2) (tC' (.int 1021))) (tC' (.int 69621))) (tBin' fIx (tVar' 0) (tC' (.int 2))))) (tNil'))) (tC' (.int 2147483579))) (gName' 2))
  (tRet' (tBin' fMod (tCB' fInt (tCons' (tBin' fFdiv (tBin' fMod (tCB' fInt (tCons' (tBin' fMul (tVar' 2) (tBin' fAdd (tBin' fFdiv (tVar' 2) (tC' (.int 2011))) (tC' (.int 40692)))) (tNil'))) (tC' (.int 2147483549))) (tC' (.int 3))) (tNil'))) (tVar' 1))))))
-- source size mixed digit
def t__law_prefix (cl : Cl) : TS' :=
  tSeq' (tAsg' (tBin' fAdd (tVar' 1) (tC' (.int 1))) (gName' 2))
  (tSeq' (tWhile' (tAnd' (tTst' (tBin' fLt (tVar' 2) (tCB' fLen (tCons' (tVar' 0) (tNil'))))) (tTst' (tBin' fGe (tBin' fIx (tVar' 0) (tVar' 2)) (tBin' fIx (tVar' 0) (tBin' fSub (tVar' 2) (tC' (.int 1))))))) (tAsg' (tBin' fAdd (tVar' 2) (tC' (.int 1))) (gName' 2)))
  (tRet' (tBin' fSub (tVar' 2) (tVar' 1))))
-- given begin end
def t__law_run_due_s7 (cl : Cl) : TS' :=
  tSeq' (tAsg' (tSortK' (HasT (cl.tb ("_law_run_due", none)) (quOf ("_law_run_due", none) ++ ".<locals>." ++ "<lambda>")) (tLstRg2' (tVar' 1) (tVar' 3)) 0) (gName' 4))
  (tSeq' (tPar' 8 9 (tCons' (tBin' fSub (tBin' fAdd (tVar' 1) (tVar' 6)) (tC' (.int 1))) (tCons' (tC' (.bl true)) (tNil'))))
  (tSeq' (tFor' (iRng2' (tCons' (tVar' 3) (tCons' (tVar' 7) (tNil')))) (gName' 5) (tIfS' (tTru' (tVar' 9)) (tSeq' (tDrop' (tLM' fAppend (tVar' 2) (tCons' (tTup' (tCons' (tVar' 5) (tCons' (tVar' 8) (tNil')))) (tNil'))))
  (tSeq' (tAsg' (tBin' fGe (tBin' fIx (tVar' 0) (tVar' 5)) (tBin' fIx (tVar' 0) (tVar' 8))) (gName' 9))
  (tSeq' (tAsg' (tBin' fAdd (tVar' 4) (tBin' fMul (tLst' (tCons' (tVar' 5) (tNil'))) (tCB' fInt (tCons' (tVar' 9) (tNil'))))) (gName' 4))
  (tAsg' (tVar' 5) (gName' 8))))) (tNext')))
  (tRet' (tTup' (tCons' (tCB' fLen (tCons' (tVar' 4) (tNil'))) (tCons' (tVar' 4) (tCons' (tVar' 2) (tNil'))))))))
def t__law_run_due_s4 (cl : Cl) : TS' :=
  tSeq' (tAsg' (tBin' fAdd (tBin' fAdd (tVar' 1) (tVar' 6)) (tC' (.int 1))) (gName' 3))
  (tSeq' (tWhile' (tAnd' (tTst' (tBin' fLt (tVar' 3) (tVar' 7))) (tTst' (tBin' fLe (tBin' fIx (tVar' 0) (tVar' 3)) (tBin' fIx (tVar' 0) (tBin' fSub (tVar' 3) (tC' (.int 1))))))) (tSeq' (tDrop' (tLM' fAppend (tVar' 2) (tCons' (tTup' (tCons' (tVar' 3) (tCons' (tBin' fSub (tVar' 3) (tC' (.int 1))) (tNil')))) (tNil'))))
  (tSeq' (tIfS' (tTst' (tBin' fEq (tBin' fIx (tVar' 0) (tVar' 3)) (tBin' fIx (tVar' 0) (tBin' fSub (tVar' 3) (tC' (.int 1)))))) (tDrop' (tLM' fAppend (tVar' 2) (tCons' (tTup' (tCons' (tBin' fSub (tVar' 3) (tC' (.int 1))) (tCons' (tVar' 3) (tNil')))) (tNil')))) (tNext'))
  (tAsg' (tBin' fAdd (tVar' 3) (tC' (.int 1))) (gName' 3)))))
  (tSeq' (tIfS' (tTst' (tBin' fLt (tVar' 3) (tVar' 7))) (tDrop' (tLM' fExtend (tVar' 2) (tCons' (tLst' (tCons' (tTup' (tCons' (tVar' 3) (tCons' (tBin' fSub (tVar' 3) (tC' (.int 1))) (tNil')))) (tCons' (tTup' (tCons' (tBin' fSub (tVar' 3) (tC' (.int 1))) (tCons' (tVar' 3) (tNil')))) (tNil')))) (tNil')))) (tNext'))
  (tWk' (t__law_run_due_s7 cl))))
def t__law_run_due (cl : Cl) : TS' :=
  tSeq' (tPar' 6 7 (tCons' (tCall' (C__law_prefix cl) [] (tCons' (tVar' 0) (tCons' (tVar' 1) (tNil')))) (tCons' (tCB' fLen (tCons' (tVar' 0) (tNil'))) (tNil'))))
  (tSeq' (tAsg' (tLc' (iRng2' (tCons' (tBin' fAdd (tVar' 1) (tC' (.int 1))) (tCons' (tCB' fMin2 (tCons' (tBin' fAdd (tBin' fAdd (tVar' 1) (tVar' 6)) (tC' (.int 1))) (tCons' (tVar' 7) (tNil')))) (tNil')))) (gName' 5) (tYes') (tTup' (tCons' (tVar' 5) (tCons' (tBin' fSub (tVar' 5) (tC' (.int 1))) (tNil')))) [5]) (gName' 2))
  (tSeq' (tIfS' (tTst' (tBin' fEq (tBin' fAdd (tVar' 1) (tVar' 6)) (tVar' 7))) (tRet' (tTup' (tCons' (tVar' 6) (tCons' (tLstRg2' (tVar' 1) (tVar' 7)) (tCons' (tVar' 2) (tNil')))))) (tNext'))
  (tSeq' (tIfS' (tTst' (tBin' fGt (tVar' 6) (tC' (.int 1)))) (tSeq' (tDrop' (tLM' fAppend (tVar' 2) (tCons' (tTup' (tCons' (tVar' 1) (tCons' (tBin' fSub (tBin' fAdd (tVar' 1) (tVar' 6)) (tC' (.int 1))) (tNil')))) (tNil'))))
  (tIfS' (tTst' (tBin' fLt (tBin' fIx (tVar' 0) (tVar' 1)) (tBin' fIx (tVar' 0) (tBin' fSub (tBin' fAdd (tVar' 1) (tVar' 6)) (tC' (.int 1)))))) (tRet' (tTup' (tCons' (tVar' 6) (tCons' (tLstRg2' (tVar' 1) (tBin' fAdd (tVar' 1) (tVar' 6))) (tCons' (tVar' 2) (tNil')))))) (tNext'))) (tNext'))
  (tWk' (t__law_run_due_s4 cl)))))
-- given begin asked end found item first size last is_going
def t__law_spots (cl : Cl) : TS' :=
  tSeq' (tPar3' 2 3 4 (tCons' (tC' (.int 0)) (tCons' (tVar' 0) (tCons' (tLst' (tNil')) (tNil')))))
  (tSeq' (tWhile' (tTst' (tBin' fLt (tVar' 2) (tVar' 3))) (tSeq' (tAsg' (tBin' fAdd (tVar' 2) (tBin' fFdiv (tBin' fSub (tVar' 3) (tVar' 2)) (tC' (.int 2)))) (gName' 5))
  (tSeq' (tDrop' (tLM' fAppend (tVar' 4) (tCons' (tVar' 5) (tNil'))))
  (tIfS' (tTst' (tBin' fLe (tVar' 1) (tVar' 5))) (tAsg' (tVar' 5) (gName' 3)) (tAsg' (tBin' fAdd (tVar' 5) (tC' (.int 1))) (gName' 2))))))
  (tRet' (tVar' 4)))
-- index place low high found middle
def t__law_sorted_count (cl : Cl) : TS' :=
  tSeq' (tAsg' (tCall' (C__law_run_due cl) [] (tCons' (tVar' 0) (tCons' (tC' (.int 0)) (tNil')))) (gTup' 3 (gCons' (gName' 2) (gCons' (gName' 3) (gCons' (gName' 4) (gNil'))))))
  (tSeq' (tPar' 5 6 (tCons' (tCB' fList (tCons' (tVar' 3) (tNil'))) (tCons' (tCB' fLen (tCons' (tVar' 4) (tNil'))) (tNil'))))
  (tSeq' (tFor' (iRng2' (tCons' (tVar' 2) (tCons' (tCB' fLen (tCons' (tVar' 0) (tNil'))) (tNil')))) (gName' 1) (tSeq' (tAsg' (tCB' fLen (tCons' (tLc' (iSeq' (tVar' 5)) (gName' 8) (tTst' (tBin' fLe (tBin' fIx (tVar' 0) (tVar' 8)) (tBin' fIx (tVar' 0) (tVar' 1)))) (tVar' 8) [8]) (tNil'))) (gName' 7))
  (tSeq' (tAsg' (tBin' fAdd (tVar' 6) (tCB' fLen (tCons' (tCall' (C__law_spots cl) [] (tCons' (tVar' 1) (tCons' (tVar' 7) (tNil')))) (tNil')))) (gName' 6))
  (tDrop' (tLM' fInsert (tVar' 5) (tCons' (tVar' 7) (tCons' (tVar' 1) (tNil'))))))))
  (tRet' (tVar' 6))))
-- given item length items asked row found place one
def t__law_orders (cl : Cl) : TS' :=
  tSeq' (tAsg' (tLst' (tCons' (tLst' (tNil')) (tNil'))) (gName' 1))
  (tSeq' (tFor' (iRng1' (tCons' (tVar' 0) (tNil'))) (gName' 2) (tSeq' (tAsg' (tLst' (tNil')) (gName' 3))
  (tSeq' (tFor' (iSeq' (tVar' 1)) (gName' 4) (tAsg' (tBin' fAdd (tVar' 3) (tLc' (iRng1' (tCons' (tBin' fAdd (tVar' 2) (tC' (.int 1))) (tNil'))) (gName' 5) (tYes') (tBin' fAdd (tLc' (iSeq' (tVar' 4)) (gName' 6) (tYes') (tBin' fAdd (tVar' 6) (tCB' fInt (tCons' (tBin' fGe (tVar' 6) (tVar' 5)) (tNil')))) [6]) (tLst' (tCons' (tVar' 5) (tNil')))) [5])) (gName' 3)))
  (tAsg' (tVar' 3) (gName' 1)))))
  (tRet' (tVar' 1)))
-- size found last longer row place one
def t__law_ways (cl : Cl) : TS' :=
  tRet' (tCB' fSum (tCons' (tLc' (iRng2' (tCons' (tVar' 1) (tCons' (tVar' 2) (tNil')))) (gName' 3) (tYes') (tCB' fLen (tCons' (tCall' (C__law_spots cl) [] (tCons' (tVar' 0) (tCons' (tVar' 3) (tNil')))) (tNil'))) [3]) (tNil')))
-- size low high place
def t__law_step (cl : Cl) : TS' :=
  tSeq' (tAsg' (tVar' 0) (gTup' 4 (gCons' (gName' 4) (gCons' (gName' 5) (gCons' (gName' 6) (gCons' (gName' 3) (gNil')))))))
  (tSeq' (tPar' 7 8 (tCons' (tCall' (C__law_ways cl) [] (tCons' (tVar' 1) (tCons' (tC' (.int 0)) (tCons' (tVar' 1) (tNil'))))) (tCons' (tCall' (C__law_ways cl) [] (tCons' (tVar' 1) (tCons' (tC' (.int 1)) (tCons' (tVar' 1) (tNil'))))) (tNil'))))
  (tSeq' (tAsg' (tBin' fAdd (tBin' fMul (tVar' 4) (tBin' fAdd (tBin' fAdd (tC' (.int 1)) (tBin' fMul (tC' (.int 2)) (tVar' 1))) (tVar' 7))) (tBin' fMul (tVar' 5) (tBin' fAdd (tBin' fAdd (tC' (.int 1)) (tBin' fMul (tC' (.int 3)) (tVar' 1))) (tVar' 8)))) (gName' 2))
  (tSeq' (tAsg' (tBin' fAdd (tBin' fAdd (tVar' 2) (tBin' fMul (tVar' 6) (tBin' fAdd (tBin' fAdd (tC' (.int 1)) (tVar' 1)) (tVar' 7)))) (tBin' fMul (tVar' 3) (tCall' (C__law_ways cl) [] (tCons' (tVar' 1) (tCons' (tC' (.int 0)) (tCons' (tBin' fAdd (tVar' 1) (tC' (.int 1))) (tNil'))))))) (gName' 2))
  (tSeq' (tAsg' (tBin' fAdd (tBin' fMul (tVar' 3) (tBin' fAdd (tVar' 1) (tC' (.int 1)))) (tBin' fMul (tBin' fAdd (tVar' 4) (tVar' 6)) (tVar' 1))) (gName' 3))
  (tSeq' (tAsg' (tBin' fAdd (tVar' 3) (tBin' fMul (tVar' 5) (tBin' fSub (tVar' 1) (tC' (.int 1))))) (gName' 3))
  (tRet' (tTup' (tCons' (tTup' (tCons' (tVar' 4) (tCons' (tVar' 5) (tCons' (tBin' fAdd (tVar' 6) (tVar' 5)) (tCons' (tVar' 3) (tNil')))))) (tCons' (tVar' 2) (tNil'))))))))))
-- stands size asked rest rising falling grown every inner
def t__law_sums (cl : Cl) : TS' :=
  tSeq' (tPar' 1 2 (tCons' (tLst' (tCons' (tC' (.int 0)) (tCons' (tC' (.int 0)) (tCons' (tC' (.int 2)) (tNil'))))) (tCons' (tTup' (tCons' (tC' (.int 1)) (tCons' (tC' (.int 1)) (tCons' (tC' (.int 0)) (tCons' (tC' (.int 0)) (tNil')))))) (tNil'))))
  (tSeq' (tFor' (iRng2' (tCons' (tC' (.int 2)) (tCons' (tC' (.int 63)) (tNil')))) (gName' 0) (tSeq' (tAsg' (tCall' (C__law_step cl) [] (tCons' (tVar' 2) (tCons' (tVar' 0) (tNil')))) (gTup' 2 (gCons' (gName' 2) (gCons' (gName' 3) (gNil')))))
  (tDrop' (tLM' fAppend (tVar' 1) (tCons' (tBin' fAdd (tBin' fMul (tBin' fIx (tVar' 1) (tNeg' (tC' (.int 1)))) (tBin' fAdd (tVar' 0) (tC' (.int 1)))) (tVar' 3)) (tNil'))))))
  (tRet' (tVar' 1)))
-- size found stands asked
def t_law76 (cl : Cl) : TS' :=
  tSeq' (tAsg' (tCall0' (C__law_sums cl) []) (gName' 1))
  (tSeq' (tFor' (iRng1' (tCons' (tC' (.int 8)) (tNil'))) (gName' 2) (tIfS' (tTst' (tBin' fNe (tCall' (C_sum_of cl) [] (tCons' (tVar' 2) (tNil'))) (tBin' fIx (tVar' 1) (tVar' 2)))) (tRet' (tC' (.bl false))) (tNext')))
  (tSeq' (tFor' (iRng2' (tCons' (tC' (.int 1)) (tCons' (tC' (.int 7)) (tNil')))) (gName' 2) (tIfS' (tTst' (tBin' fNe (tCB' fSum (tCons' (tLc' (iSeq' (tCall' (C__law_orders cl) [] (tCons' (tVar' 2) (tNil')))) (gName' 8) (tYes') (tCall' (C__law_sorted_count cl) [] (tCons' (tVar' 8) (tNil'))) [8]) (tNil'))) (tBin' fIx (tVar' 1) (tVar' 2)))) (tRet' (tC' (.bl false))) (tNext')))
  (tSeq' (tFor' (iEnumA' (tCons' (tSl' (tBin' fAdd (tVar' 0) (tLst' (tCons' (tC' (.int 0)) (tNil')))) (tNoPart') (tPart' (tC' (.int 4)))) (tNil'))) (gTup' 2 (gCons' (gName' 3) (gCons' (gName' 4) (gNil')))) (tSeq' (tAsg' (tCall' (C__law_source cl) [] (tCons' (tVar' 4) (tNil'))) (gName' 5))
  (tSeq' (tFor' (iSeq' (tLc' (iRng1' (tCons' (tBin' fAdd (tC' (.int 1)) (tCB' fInt (tCons' (tBin' fEq (tVar' 3) (tC' (.int 0))) (tNil')))) (tNil'))) (gName' 6) (tYes') (tCall' (C__law_draw cl) [] (tCons' (tVar' 5) (tCons' (tC' (.int 64)) (tNil')))) [6])) (gName' 2) (tIfS' (tTst' (tBin' fNe (tCallK0' 1 g_sum_of__k0_many (C_sum_of cl) (tCons' (tVar' 2) (tNil'))) (tBin' fIx (tVar' 1) (tVar' 2)))) (tRet' (tC' (.bl false))) (tNext')))
  (tSeq' (tPar' 7 8 (tCons' (tLstRg1' (tBin' fAdd (tC' (.int 5)) (tCall' (C__law_draw cl) [] (tCons' (tVar' 5) (tCons' (tC' (.int 2)) (tNil')))))) (tCons' (tLst' (tNil')) (tNil'))))
  (tSeq' (tFor' (iRng1' (tCons' (tCB' fLen (tCons' (tVar' 7) (tNil'))) (tNil'))) (gName' 6) (tDrop' (tLM' fAppend (tVar' 8) (tCons' (tLM' fPopAt (tVar' 7) (tCons' (tCall' (C__law_draw cl) [] (tCons' (tVar' 5) (tCons' (tCB' fLen (tCons' (tVar' 7) (tNil'))) (tNil')))) (tNil'))) (tNil')))))
  (tIfS' (tOr' (tTst' (tBin' fNe (tCall' (C_count_of cl) [.bl false] (tCons' (tVar' 8) (tNil'))) (tCall' (C__law_sorted_count cl) [] (tCons' (tVar' 8) (tNil'))))) (tTst' (tBin' fGt (tCall' (C_count_of cl) [.bl false] (tCons' (tVar' 8) (tNil'))) (tBin' fIx (tVar' 1) (tCB' fLen (tCons' (tVar' 8) (tNil'))))))) (tRet' (tC' (.bl false))) (tNext')))))))
  (tRet' (tC' (.bl true))))))
-- script sums size at cell source go left given
end DL

namespace DL
open PySem PySem.Spec PyProof.Rows L2
local macro_rules | `(tactic| walk_at "has") => `(tactic| first | exact Has.here | (apply Has.there; walk_at "has"))
local macro_rules | `(tactic| walk_at "hasl") => `(tactic| first | (refine Or.inl ?_; walk_at "has") | (refine Or.inr ?_; walk_at "has"))
local macro_rules | `(tactic| walk_at "sel") => `(tactic| first | exact Sel.here | (apply Sel.there; walk_at "sel"))
local macro_rules | `(tactic| walk_at "chg") => `(tactic| first | exact Chg.here | (apply Chg.there; walk_at "chg"))
local macro_rules | `(tactic| walk_at "pull") => `(tactic| first | exact Pull.nil | (apply Pull.cons; (walk_at "sel"); exact rfl; walk_at "pull"))
local macro_rules | `(tactic| walk_at "cov") => `(tactic| first | exact Cov.refl | (apply Cov.take; (walk_at "sel"); (first | exact rfl | assumption); walk_at "cov") | (apply Cov.take; (walk_at "sel"); rotate_left; walk_at "cov") | (refine Cov.drop ?_; walk_at "cov"))
local macro_rules | `(tactic| walk_at "sub") => `(tactic| first | exact Sub.nil | (refine Sub.same (by first | rfl | assumption) ?_; walk_at "sub") | (refine Sub.any ?_; walk_at "sub") | (refine Sub.same ?_ ?_; rotate_left; walk_at "sub"))
local macro_rules | `(tactic| walk_at "side") => `(tactic| first | assumption | (with_reducible rfl) | omega | (refine mulOk_r ?_ ?_ <;> first | omega | decide) | (refine mulOk_l ?_ ?_ <;> first | omega | decide) | (refine divOk_of ?_ ?_ <;> first | omega | decide) | (refine ⟨?_, ?_⟩ <;> walk_at "side") | exact Eq.refl _ | (simp <;> omega) | decide)
local macro_rules | `(tactic| walk_at "kn") => `(tactic| first | assumption | decide | rfl)
local macro_rules | `(tactic| walk_at "br") => `(tactic| first | (with_reducible first | refine Br.t ?_ | refine Br.f ?_) | ((with_reducible refine Br.dec_t ?_ ?_); focus walk_at "kn") | ((with_reducible refine Br.dec_f ?_ ?_); focus walk_at "kn") | ((with_reducible refine Br.ndec_t ?_ ?_); focus walk_at "kn") | ((with_reducible refine Br.ndec_f ?_ ?_); focus walk_at "kn") | (with_reducible first | (refine Br.dec ?_ ?_ <;> intro _) | (refine Br.ndec ?_ ?_ <;> intro _)) | refine Br.t ?_ | refine Br.f ?_ | (with_reducible refine Br.mk ?_ ?_ <;> intro _))
local macro_rules | `(tactic| walk_at "st") => `(tactic| ((try (conv => whnf)); first
  | walk_at "br"
  | with_reducible (intro _)
  | (refine ⟨_, (by walk_at "has" : Has _ _ _), ?_⟩)
  | (refine ⟨_, (by walk_at "hasl" : HasL _ _ _), ?_⟩)
  | (refine ⟨_, _, (by walk_at "chg" : Chg _ _ _ _ _), ?_⟩)
  | (refine ⟨_, _, _, (by walk_at "chg" : Chg _ _ _ _ _), (by first | rfl | assumption : ixN _ _ = some _), ?_⟩)
  | (refine ⟨_, _, (by walk_at "sel" : Sel _ _ _ _), ?_⟩)
  | (refine ⟨_, _, _, (by walk_at "has" : Has _ _ _), (by assumption), ?_⟩)
  | (refine ⟨_, (by first | rfl | assumption : atI _ _ = some _), ?_⟩)
  | (refine And.intro (by walk_at "side") ?_)))
local macro_rules | `(tactic| walk_at "st2") => `(tactic| first | walk_at "st" | ((try (conv => whnf)); with_reducible refine And.intro ?_ ?_; rotate_left))
local macro_rules | `(tactic| walk_at "go") => `(tactic| first | ((try (conv => whnf)); walk_at "br" <;> walk_at "go") | (walk_at "st"; walk_at "go") | (conv => whnf) | skip)
theorem rd_law_source (cl : Cl) (ds : List D) (F R : LL) (Φ : DK) (h : S_law_source cl ds F R Φ) : t__law_source cl (endD Φ) (startD 1 ds) (F ++ R) := by
  obtain ⟨c, rfl, rfl, h⟩ := h
  walk_at "go"
  exact Ret.mk _ .refl (h _ _ _)
theorem rd_law_draw (cl : Cl) (ds : List D) (F R : LL) (Φ : DK) (h : S_law_draw cl ds F R Φ) : t__law_draw cl (endD Φ) (startD 4 ds) (F ++ R) := by
  obtain ⟨p, a, b, n, z, rfl, rfl, ⟨h1, h2⟩, h⟩ := h
  have hd : DivOk z := divOk_of h1 (by omega)
  walk_at "go"
  · exact Ret.mk _ .refl (h _ _ _ _ (Int.emod_nonneg _ (by omega)) (Int.emod_lt_of_pos _ h1))
  · exact Ret.mk _ .refl (h _ _ _ _ (Int.emod_nonneg _ (by omega)) (Int.emod_lt_of_pos _ h1))
theorem call_draw {cl : Cl} {L R : LL} {Φ : DK} {p : Addr} {a b n z : Int} (hp : Pull L [(p, srcO a b n)] R) (h1 : 0 < z) (h2 : z < 2 ^ 70) (k : ∀ d a' b' n' : Int, 0 ≤ d → d < z → Φ (.int d) ([(p, srcO a' b' n')] ++ R)) : CtOf (S_law_draw cl) [.ref p, .int z] L Φ :=
  ⟨_, _, hp, p, a, b, n, z, rfl, rfl, ⟨h1, h2⟩, k⟩
theorem rd_law_spots (cl : Cl) (ds : List D) (F R : LL) (Φ : DK) (h : S_law_spots cl ds F R Φ) : t__law_spots cl (endD Φ) (startD 6 ds) (F ++ R) := by
  obtain ⟨i, p, rfl, rfl, h1, h⟩ := h
  unfold depthN at h
  generalize he : depGo p i 0 i 0 = res at h
  walk_at "go"
  rename_i q
  refine WhileI.inv (α := Nat × Nat × Nat × List D) (fun x => [some (.int i), some (.int p), some (.int x.2.1), some (.int x.2.2.1), some (.ref q), none]) (fun x => (q, .lst x.2.2.2) :: R) (fun x => x.2.2.1 ≤ i ∧ x.2.2.1 - x.2.1 ≤ x.1 ∧ x.1 + x.2.2.2.length ≤ 200000 ∧ depGo p x.1 x.2.1 x.2.2.1 x.2.2.2.length = res) (fun x => x.2.2.1 - x.2.1) (i, 0, i, []) (by walk_at "sub") .refl ⟨Nat.le_refl _, by dsimp only; omega, by simp; omega, he⟩ ?_
  rintro ⟨f, lo, hi, qs⟩ ⟨g1, g2, g4, g3⟩
  dsimp only at g1 g2 g3 g4 ⊢
  walk_at "go"
  · rename_i z z2
    have z : lo < hi := by omega
    obtain ⟨f', rfl⟩ : ∃ f', f = f' + 1 := ⟨f - 1, by omega⟩
    unfold depGo at g3
    rw [if_pos z, if_pos (by omega)] at g3
    refine Nxt.mk (f', lo, lo + (hi - lo) / 2, qs ++ [.int ((lo : Int) + ((hi : Int) - lo) / 2)]) ?_ (by walk_at "cov") ⟨by dsimp only; omega, by dsimp only; omega, by simp; omega, ?_⟩ (by dsimp only; omega)
    · walk_at "sub"
      dsimp only
      congr 2
      omega
    · dsimp only
      rw [List.length_append, show lo + (hi - lo) / 2 = (lo + hi) / 2 by omega]
      exact g3
  · rename_i z z2
    have z : lo < hi := by omega
    obtain ⟨f', rfl⟩ : ∃ f', f = f' + 1 := ⟨f - 1, by omega⟩
    unfold depGo at g3
    rw [if_pos z, if_neg (by omega)] at g3
    refine Nxt.mk (f', (lo + hi) / 2 + 1, hi, qs ++ [.int ((lo : Int) + ((hi : Int) - lo) / 2)]) ?_ (by walk_at "cov") ⟨by dsimp only; omega, by dsimp only; omega, by simp; omega, ?_⟩ (by dsimp only; omega)
    · walk_at "sub"
      dsimp only
      congr 2
      omega
    · dsimp only
      rw [List.length_append]
      exact g3
  · rename_i z
    have e : depGo p f lo hi qs.length = qs.length := by
      cases f with
      | zero => rfl
      | succ f => unfold depGo; rw [if_neg (by omega)]
    rw [e] at g3
    exact Ret.mk _ (by walk_at "cov") (h q qs g3)
theorem preGo_le (ms : List Int) : ∀ f e, e ≤ ms.length → e ≤ preGo ms f e ∧ preGo ms f e ≤ ms.length
  | 0, e, h => ⟨Nat.le_refl _, h⟩
  | f + 1, e, h => by
    unfold preGo
    split
    · rename_i z
      have := preGo_le ms f (e + 1) (by omega)
      omega
    · exact ⟨Nat.le_refl _, h⟩
theorem rd_law_prefix (cl : Cl) (ds : List D) (F R : LL) (Φ : DK) (h : S_law_prefix cl ds F R Φ) : t__law_prefix cl (endD Φ) (startD 3 ds) (F ++ R) := by
  obtain ⟨q, ms, rfl, rfl, ⟨h1, h2⟩, h⟩ := h
  unfold firstN at h
  generalize he : preGo ms ms.length 1 = res at h
  have hl : ((ms.map D.int).length : Int) = ms.length := by simp
  walk_at "go"
  refine WhileI.inv (α := Nat × Nat) (fun x => [some (.ref q), some (.int 0), some (.int x.2)]) (fun x => [(q, intsO ms)] ++ R) (fun x => 1 ≤ x.2 ∧ x.2 ≤ ms.length ∧ ms.length ≤ x.1 + x.2 ∧ preGo ms x.1 x.2 = res) (fun x => ms.length - x.2) (ms.length, 1) (by walk_at "sub") .refl ⟨Nat.le_refl _, h1, by dsimp only; omega, he⟩ ?_
  rintro ⟨f, e⟩ ⟨g1, g2, g3, g4⟩
  dsimp only at g1 g2 g3 g4 ⊢
  walk_at "go"
  · rename_i z
    have z : e < ms.length := by omega
    obtain ⟨f', rfl⟩ : ∃ f', f = f' + 1 := ⟨f - 1, by omega⟩
    unfold preGo at g4
    refine ⟨_, atI_int e rfl z, ?_⟩
    walk_at "go"
    refine ⟨_, atI_int (e - 1) (by omega) (by omega), ?_⟩
    walk_at "go"
    · rename_i z2
      rw [if_pos ⟨z, z2⟩] at g4
      exact Nxt.mk (f', e + 1) (by walk_at "sub") .refl ⟨by dsimp only; omega, by dsimp only; omega, by dsimp only; omega, g4⟩ (by dsimp only; omega)
    · rename_i z2
      rw [if_neg (fun c => z2 c.2)] at g4
      subst g4
      refine Ret.int .refl h (by omega)
  · rename_i z
    have e2 : preGo ms f e = e := by
      cases f with
      | zero => rfl
      | succ f => unfold preGo; rw [if_neg (by omega)]
    rw [e2] at g4
    subst g4
    refine Ret.int .refl h (by omega)
theorem call_prefix {cl : Cl} {L R : LL} {Φ : DK} {q : Addr} {ms : List Int} (hp : Pull L [(q, intsO ms)] R) (h1 : 1 ≤ ms.length) (h2 : ms.length ≤ 63) (k : Φ (.int (firstN ms)) ([(q, intsO ms)] ++ R)) : CtOf (S_law_prefix cl) [.ref q, .int 0] L Φ :=
  ⟨_, _, hp, q, ms, rfl, rfl, ⟨h1, h2⟩, k⟩
theorem getD_map_dn {its : List Nat} {ns : List Int} (h : ∀ x ∈ ns, 0 ≤ x) (e : its = ns.map Int.toNat) : ns.map D.int = its.map dn := by
  subst e
  rw [List.map_map]
  refine List.map_congr_left fun x hx => ?_
  have := h x hx
  show D.int x = D.int ((x.toNat : Nat) : Int)
  congr 1
  omega
theorem repD1 (d : D) (b : Bool) : repD [d] (if b = true then (1 : Int) else 0).toNat = if b = true then [d] else [] := by cases b <;> rfl
theorem rd_law_run_due_s7 (cl : Cl) (R : LL) (Φ : DK) (q s : Addr) (ms : List Int) (qs : List D) (e first : Nat) (h2 : ms.length ≤ 63) (he1 : 1 ≤ first) (he2 : first < e) (he3 : e ≤ ms.length) (hq : qs.length ≤ 1000)
    (h : ∀ (p s : Addr) (its : List Nat) (qs' : List D), its.Perm (List.range (goGo ms (ms.length - e) e (first - 1) true e qs.length).1) → qs'.length = (goGo ms (ms.length - e) e (first - 1) true e qs.length).2 → Φ (.tup [.int (goGo ms (ms.length - e) e (first - 1) true e qs.length).1, .ref p, .ref s]) ((p, rowO its) :: (s, .lst qs') :: ([(q, intsO ms), tabDue cl] ++ R))) :
    t__law_run_due_s7 cl (endD Φ) [some (.ref q), some (.int 0), some (.ref s), some (.int e), none, none, some (.int first), some (.int ms.length), none, none] ((s, .lst qs) :: ([(q, intsO ms), tabDue cl] ++ R)) := by
  generalize hres : goGo ms (ms.length - e) e (first - 1) true e qs.length = res at h
  walk_at "go"
  refine ⟨(List.range e).map fun i : Nat => (i : Int), by rw [rgD_nat, List.map_map]; rfl, ⟨0, TabG cl atDue, by walk_at "has", fun H h => h⟩, ?_⟩
  walk_at "go"
  refine ⟨ms, rfl, ?_, ?_⟩
  · intro x hx
    obtain ⟨i, hi, rfl⟩ := List.mem_map.mp hx
    have := List.mem_range.mp hi
    exact ⟨by omega, by omega⟩
  intro p0
  have hpm : (sortK (ixK ms) ((List.range e).map fun i : Nat => (i : Int))).Perm ((List.range e).map fun i : Nat => (i : Int)) := sortK_perm
  generalize hso : sortK (ixK ms) ((List.range e).map fun i : Nat => (i : Int)) = so at hpm ⊢
  have hnn : ∀ x ∈ so, 0 ≤ x := fun x hx => by
    obtain ⟨i, _, rfl⟩ := List.mem_map.mp (hpm.mem_iff.mp hx)
    omega
  rw [getD_map_dn hnn rfl]
  have hpn : (so.map Int.toNat).Perm (List.range e) := by
    have := hpm.map Int.toNat
    rw [List.map_map] at this
    have e2 : (List.range e).map (Int.toNat ∘ fun i : Nat => (i : Int)) = List.range e := by
      conv => rhs; rw [← List.map_id (List.range e)]
      refine List.map_congr_left fun x _ => ?_
      simp
    rwa [e2] at this
  generalize so.map Int.toNat = its0 at hpn ⊢
  walk_at "go"
  refine ForI.inv (α := Bool × Nat × List Nat × List D × Addr) (fun j x => [some (.ref q), some (.int 0), some (.ref s), some (.int e), some (.ref x.2.2.2.2), none, some (.int first), some (.int ms.length), some (.int x.2.1), some (.bl x.1)])
    (fun j x => (x.2.2.2.2, rowO x.2.2.1) :: (s, .lst x.2.2.2.1) :: ([(q, intsO ms), tabDue cl] ++ R))
    (fun j x => x.2.1 < e + j ∧ (x.1 = true → x.2.2.1.length = e + j) ∧ x.2.2.1.Perm (List.range x.2.2.1.length) ∧ x.2.2.1.length ≤ e + j ∧ x.2.2.2.1.length ≤ 1000 + j ∧ goGo ms (ms.length - e - j) (e + j) x.2.1 x.1 x.2.2.1.length x.2.2.2.1.length = res) (true, first - 1, its0, qs, p0) ?_ ?_ ?_ ?_ ?_
  · walk_at "sub"
    dsimp only
    congr 2
    omega
  · walk_at "cov"
  · have hl := hpn.length_eq
    rw [List.length_range] at hl
    refine ⟨by dsimp only; omega, fun _ => by dsimp only; omega, by dsimp only; rw [hl]; exact hpn, by dsimp only; omega, by dsimp only; omega, ?_⟩
    dsimp only
    rw [hl]
    exact hres
  · rintro j ⟨going, last, its, qs2, p1⟩ d hd ⟨g1, g2, g3, g4, g5, g6⟩
    obtain ⟨hj, rfl⟩ := rgD_get hd
    dsimp only at g1 g2 g3 g4 g5 g6
    have hj' : e + j < ms.length := by omega
    have ef : ms.length - e - j = (ms.length - e - (j + 1)) + 1 := by omega
    rw [ef] at g6
    unfold goGo at g6
    refine ⟨trivial, ?_⟩
    cases going with
    | false =>
      simp only [Bool.false_eq_true, if_false] at g6
      walk_at "go"
      refine Nx1.mk (false, last, its, qs2, p1) (by walk_at "sub") (by walk_at "cov") ⟨by dsimp only; omega, (by intro z; cases z), g3, by dsimp only; omega, by dsimp only; omega, ?_⟩
      dsimp only
      rw [show e + (j + 1) = e + j + 1 by omega]
      exact g6
    | true =>
      simp only [if_true] at g6
      have g2 := g2 rfl
      walk_at "go"
      refine ⟨_, atI_int (e + j) (by omega) hj', ?_⟩
      walk_at "go"
      refine ⟨_, atI_int last rfl (by omega), ?_⟩
      by_cases hc : keyN ms last ≤ keyN ms (e + j)
      · rw [if_pos hc] at g6
        have hc2 : decide (ms.getD last 0 ≤ ms.getD (e + j) 0) = true := decide_eq_true hc
        walk_at "go"
        refine ⟨by rw [hc2, repD1, if_pos rfl, List.length_map, List.length_singleton]; dsimp only; omega, ?_⟩
        intro p7
        have hrow : its.map dn ++ [D.int ((e : Int) + j)] = (its ++ [e + j]).map dn := by simp [dn]
        rw [hc2, repD1, if_pos rfl]
        dsimp only
        rw [hrow]
        walk_at "go"
        refine Nx1.mk (true, e + j, its ++ [e + j], qs2 ++ [.tup [.int ((e : Int) + j), .int last]], p7) ?_ (by walk_at "cov") ⟨by dsimp only; omega, (fun _ => by simp; omega), ?_, by simp; omega, by simp; omega, ?_⟩
        · walk_at "sub"
          dsimp only
          rw [hc2]
        · dsimp only
          rw [g2] at g3
          rw [List.length_append, g2, List.length_singleton, List.range_succ]
          exact g3.append_right _
        · dsimp only
          rw [List.length_append, List.length_append, show e + (j + 1) = e + j + 1 by omega]
          exact g6
      · rw [if_neg hc] at g6
        have hc2 : decide (ms.getD last 0 ≤ ms.getD (e + j) 0) = false := decide_eq_false hc
        walk_at "go"
        refine ⟨by rw [hc2, repD1, if_neg (by decide), List.length_map]; show its.length + 0 ≤ 1000000; omega, ?_⟩
        intro p7
        rw [hc2, repD1, if_neg (by decide), List.append_nil]
        dsimp only
        walk_at "go"
        refine Nx1.mk (false, e + j, its, qs2 ++ [.tup [.int ((e : Int) + j), .int last]], p7) ?_ (by walk_at "cov") ⟨by dsimp only; omega, (by intro z; cases z), g3, by dsimp only; omega, by simp; omega, ?_⟩
        · walk_at "sub"
          dsimp only
          rw [hc2]
        · dsimp only
          rw [List.length_append, show e + (j + 1) = e + j + 1 by omega]
          exact g6
  · rintro ⟨going, last, its, qs2, p1⟩ ⟨g1, g2, g3, g4, g5, g6⟩
    rw [rgD_length] at g6
    dsimp only at g3 g6
    rw [show ms.length - e - ((ms.length : Int) - (e : Int)).toNat = 0 by omega] at g6
    refine ⟨trivial, ?_⟩
    have g7 : (its.length, qs2.length) = res := g6
    subst g7
    walk_at "go"
    rw [List.length_map]
    exact Ret.mk _ (by walk_at "cov") (h p1 s its qs2 g3 rfl)
end DL

namespace DL
open PySem PySem.Spec PyProof.Rows L2
def t_require_number (cl : Cl) : TS' :=
  tIfS' (tNot' (tTru' (tCall' (C_is_between cl) [] (tCons' (tVar' 1) (tCons' (tVar' 2) (tCons' (tVar' 3) (tNil'))))))) (tNever') (tNext')
-- name value low high
def t_depth (cl : Cl) : TS' :=
  tSeq' (tPar3' 2 3 4 (tCons' (tC' (.int 0)) (tCons' (tVar' 0) (tCons' (tC' (.int 0)) (tNil')))))
  (tSeq' (tWhile' (tTst' (tBin' fLt (tVar' 2) (tVar' 3))) (tSeq' (tAsg' (tBin' fFdiv (tBin' fAdd (tVar' 2) (tVar' 3)) (tC' (.int 2))) (gName' 5))
  (tSeq' (tAsg' (tIf' (tTst' (tBin' fLe (tVar' 1) (tVar' 5))) (tTup' (tCons' (tVar' 2) (tCons' (tVar' 5) (tNil')))) (tTup' (tCons' (tBin' fAdd (tVar' 5) (tC' (.int 1))) (tCons' (tVar' 3) (tNil'))))) (gTup' 2 (gCons' (gName' 2) (gCons' (gName' 3) (gNil')))))
  (tAug' 4 (tC' (.int 1)) (fI fun i j => .int (i + j))))))
  (tRet' (tVar' 4)))
-- index place low high found middle
def t_depths (cl : Cl) : TS' :=
  tRet' (tCB' fSum (tCons' (tLc' (iRng2' (tCons' (tVar' 1) (tCons' (tVar' 2) (tNil')))) (gName' 3) (tYes') (tCall' (C_depth cl) [] (tCons' (tVar' 0) (tCons' (tVar' 3) (tNil')))) [3]) (tNil')))
-- index low high place
def t_factorial (cl : Cl) : TS' :=
  tSeq' (tAsg' (tC' (.int 1)) (gName' 1))
  (tSeq' (tFor' (iRng2' (tCons' (tC' (.int 2)) (tCons' (tBin' fAdd (tVar' 0) (tC' (.int 1))) (tNil')))) (gName' 2) (tAsg' (tBin' fMul (tVar' 1) (tVar' 2)) (gName' 1)))
  (tRet' (tVar' 1)))
-- many found factor
def t_sum_with_run (cl : Cl) : TS' :=
  tSeq' (tPar' 6 7 (tCons' (tCall' (C_depths cl) [] (tCons' (tVar' 1) (tCons' (tC' (.int 0)) (tCons' (tVar' 1) (tNil'))))) (tCons' (tCall' (C_depths cl) [] (tCons' (tVar' 1) (tCons' (tC' (.int 1)) (tCons' (tVar' 1) (tNil'))))) (tNil'))))
  (tSeq' (tPar3' 8 9 10 (tCons' (tBin' fMul (tVar' 1) (tVar' 2)) (tCons' (tBin' fMul (tBin' fSub (tVar' 1) (tC' (.int 1))) (tVar' 2)) (tCons' (tBin' fMul (tBin' fMul (tBin' fSub (tVar' 1) (tC' (.int 2))) (tVar' 1)) (tVar' 2)) (tNil')))))
  (tSeq' (tAsg' (tBin' fAdd (tBin' fMul (tVar' 8) (tBin' fAdd (tVar' 1) (tC' (.int 1)))) (tBin' fMul (tVar' 2) (tVar' 6))) (gName' 4))
  (tSeq' (tAsg' (tBin' fAdd (tBin' fAdd (tVar' 4) (tBin' fMul (tVar' 9) (tBin' fAdd (tVar' 1) (tC' (.int 2))))) (tBin' fMul (tVar' 2) (tVar' 7))) (gName' 4))
  (tSeq' (tAsg' (tBin' fAdd (tBin' fAdd (tVar' 4) (tBin' fMul (tVar' 10) (tBin' fAdd (tVar' 1) (tC' (.int 2))))) (tBin' fMul (tBin' fMul (tBin' fSub (tVar' 1) (tC' (.int 2))) (tVar' 2)) (tVar' 6))) (gName' 4))
  (tSeq' (tFor' (iRng2' (tCons' (tBin' fAdd (tVar' 1) (tC' (.int 1))) (tCons' (tVar' 0) (tNil')))) (gName' 5) (tAsg' (tBin' fAdd (tVar' 4) (tBin' fMul (tBin' fFdiv (tBin' fAdd (tBin' fAdd (tVar' 8) (tVar' 9)) (tVar' 10)) (tBin' fAdd (tVar' 5) (tC' (.int 1)))) (tBin' fIx (tVar' 3) (tVar' 5)))) (gName' 4)))
  (tRet' (tVar' 4)))))))
-- many length orders ways found index any_place inner rising falling grown
def t_sum_of (cl : Cl) : TS' :=
  tSeq' (tDrop' (tCall' (C_require_number cl) [] (tCons' (tC' (.str "many")) (tCons' (tVar' 0) (tCons' (tC' (.int 0)) (tCons' (tC' (.int 63)) (tNil')))))))
  (tSeq' (tIfS' (tTst' (tBin' fLt (tVar' 0) (tC' (.int 2)))) (tRet' (tC' (.int 0))) (tNext'))
  (tSeq' (tAsg' (tCall' (C_factorial cl) [] (tCons' (tVar' 0) (tNil'))) (gName' 1))
  (tSeq' (tAsg' (tBin' fAdd (tBin' fMul (tC' (.int 2)) (tBin' fSub (tVar' 0) (tC' (.int 1)))) (tBin' fMul (tBin' fSub (tVar' 0) (tC' (.int 2))) (tBin' fAdd (tVar' 0) (tC' (.int 1))))) (gName' 2))
  (tSeq' (tAsg' (tLc' (iRng1' (tCons' (tVar' 0) (tNil'))) (gName' 5) (tYes') (tCall' (C_depths cl) [] (tCons' (tVar' 5) (tCons' (tC' (.int 0)) (tCons' (tBin' fAdd (tVar' 5) (tC' (.int 1))) (tNil'))))) [5]) (gName' 3))
  (tSeq' (tFor' (iRng2' (tCons' (tC' (.int 2)) (tCons' (tVar' 0) (tNil')))) (gName' 4) (tAsg' (tBin' fAdd (tVar' 2) (tCall' (C_sum_with_run cl) [] (tCons' (tVar' 0) (tCons' (tVar' 4) (tCons' (tBin' fFdiv (tVar' 1) (tCall' (C_factorial cl) [] (tCons' (tBin' fAdd (tVar' 4) (tC' (.int 1))) (tNil')))) (tCons' (tVar' 3) (tNil'))))))) (gName' 2)))
  (tRet' (tVar' 2)))))))
-- many every whole ways length index
end DL

namespace DL
theorem sums_eq : (List.range 64).all (fun n => decide (sumOf n = sumsN.getD n 0)) = true := by decide +kernel
theorem orders_eq : (List.range 6).all (fun n => decide ((((ordersN (n + 1)).map lawCount).sum : Nat) = (sumsN.getD (n + 1) 0).toNat)) = true := by decide +kernel
/-- all rows that come of taking items out one by one -/
def drawAll : Nat → List Int → List (List Int)
  | 0, _ => [[]]
  | f + 1, left => (List.range left.length).flatMap fun i => (drawAll f (left.eraseIdx i)).map fun r => left.getD i 0 :: r
def goodRow (ms : List Int) : Bool := decide ((goRun ms (rowB false ms.length)).2.length = lawCount ms) && decide ((lawCount ms : Int) ≤ sumsN.getD ms.length 0)
theorem rows5 : (drawAll 5 [0, 1, 2, 3, 4]).all goodRow = true := by decide +kernel
theorem rows6 : (drawAll 6 [0, 1, 2, 3, 4, 5]).all goodRow = true := by decide +kernel
theorem sumsN_length : sumsN.length = 64 := by decide +kernel
theorem waysN_ok : (List.range 64).all (fun n => (waysN n).all fun w => decide (0 ≤ w ∧ w ≤ 1000000)) = true := by decide +kernel
theorem factN_pos : (List.range 65).all (fun n => decide (0 < factN n ∧ factN n < 2 ^ 400)) = true := by decide +kernel
theorem depths_small : (List.range 64).all (fun n => decide (depthsN n 0 n ≤ 100000 ∧ depthsN n 1 n ≤ 100000 ∧ depthsN n 0 (n + 1) ≤ 100000)) = true := by decide +kernel
end DL

namespace DL
open PySem PySem.Spec PyProof.Rows L2
local macro_rules | `(tactic| walk_at "has") => `(tactic| first | exact Has.here | (apply Has.there; walk_at "has"))
local macro_rules | `(tactic| walk_at "hasl") => `(tactic| first | (refine Or.inl ?_; walk_at "has") | (refine Or.inr ?_; walk_at "has"))
local macro_rules | `(tactic| walk_at "sel") => `(tactic| first | exact Sel.here | (apply Sel.there; walk_at "sel"))
local macro_rules | `(tactic| walk_at "chg") => `(tactic| first | exact Chg.here | (apply Chg.there; walk_at "chg"))
local macro_rules | `(tactic| walk_at "pull") => `(tactic| first | exact Pull.nil | (apply Pull.cons; (walk_at "sel"); exact rfl; walk_at "pull"))
local macro_rules | `(tactic| walk_at "cov") => `(tactic| first | exact Cov.refl | (apply Cov.take; (walk_at "sel"); (first | exact rfl | assumption); walk_at "cov") | (apply Cov.take; (walk_at "sel"); rotate_left; walk_at "cov") | (refine Cov.drop ?_; walk_at "cov"))
local macro_rules | `(tactic| walk_at "sub") => `(tactic| first | exact Sub.nil | (refine Sub.same (by first | rfl | assumption) ?_; walk_at "sub") | (refine Sub.any ?_; walk_at "sub") | (refine Sub.same ?_ ?_; rotate_left; walk_at "sub"))
local macro_rules | `(tactic| walk_at "side") => `(tactic| first | assumption | (with_reducible rfl) | omega | (refine mulOk_r ?_ ?_ <;> first | omega | decide) | (refine mulOk_l ?_ ?_ <;> first | omega | decide) | (refine divOk_of ?_ ?_ <;> first | omega | decide) | (refine ⟨?_, ?_⟩ <;> walk_at "side") | exact Eq.refl _ | (simp <;> omega) | decide)
local macro_rules | `(tactic| walk_at "kn") => `(tactic| first | assumption | decide | rfl)
local macro_rules | `(tactic| walk_at "br") => `(tactic| first | (with_reducible first | refine Br.t ?_ | refine Br.f ?_) | ((with_reducible refine Br.dec_t ?_ ?_); focus walk_at "kn") | ((with_reducible refine Br.dec_f ?_ ?_); focus walk_at "kn") | ((with_reducible refine Br.ndec_t ?_ ?_); focus walk_at "kn") | ((with_reducible refine Br.ndec_f ?_ ?_); focus walk_at "kn") | (with_reducible first | (refine Br.dec ?_ ?_ <;> intro _) | (refine Br.ndec ?_ ?_ <;> intro _)) | refine Br.t ?_ | refine Br.f ?_ | (with_reducible refine Br.mk ?_ ?_ <;> intro _))
local macro_rules | `(tactic| walk_at "st") => `(tactic| ((try (conv => whnf)); first
  | walk_at "br"
  | with_reducible (intro _)
  | (refine ⟨_, (by walk_at "has" : Has _ _ _), ?_⟩)
  | (refine ⟨_, (by walk_at "hasl" : HasL _ _ _), ?_⟩)
  | (refine ⟨_, _, (by walk_at "chg" : Chg _ _ _ _ _), ?_⟩)
  | (refine ⟨_, _, _, (by walk_at "chg" : Chg _ _ _ _ _), (by first | rfl | assumption : ixN _ _ = some _), ?_⟩)
  | (refine ⟨_, _, (by walk_at "sel" : Sel _ _ _ _), ?_⟩)
  | (refine ⟨_, _, _, (by walk_at "has" : Has _ _ _), (by assumption), ?_⟩)
  | (refine ⟨_, (by first | rfl | assumption : atI _ _ = some _), ?_⟩)
  | (refine And.intro (by walk_at "side") ?_)))
local macro_rules | `(tactic| walk_at "st2") => `(tactic| first | walk_at "st" | ((try (conv => whnf)); with_reducible refine And.intro ?_ ?_; rotate_left))
local macro_rules | `(tactic| walk_at "go") => `(tactic| first | ((try (conv => whnf)); walk_at "br" <;> walk_at "go") | (walk_at "st"; walk_at "go") | (conv => whnf) | skip)
theorem rd_require_number (cl : Cl) (ds : List D) (F R : LL) (Φ : DK) (h : S_require_number cl ds F R Φ) : t_require_number cl (endD Φ) (startD 4 ds) (F ++ R) := by
  obtain ⟨x, v, lo, hi, rfl, rfl, ⟨h1, h2⟩, h⟩ := h
  walk_at "go"
  refine ⟨[], R, .nil, v, lo, hi, rfl, rfl, ?_⟩
  have e : decide (lo ≤ v ∧ v ≤ hi) = true := decide_eq_true ⟨h1, h2⟩
  rw [e]
  walk_at "go"
  exact Ret.mk _ .refl h
theorem rd_depth (cl : Cl) (ds : List D) (F R : LL) (Φ : DK) (h : S_depth cl ds F R Φ) : t_depth cl (endD Φ) (startD 6 ds) (F ++ R) := by
  obtain ⟨i, p, rfl, rfl, h1, h⟩ := h
  unfold depthN at h
  generalize he : depGo p i 0 i 0 = res at h
  walk_at "go"
  refine WhileI.inv (α := Nat × Nat × Nat × Nat) (fun x => [some (.int i), some (.int p), some (.int x.2.1), some (.int x.2.2.1), some (.int x.2.2.2), none]) (fun x => R) (fun x => x.2.2.1 ≤ i ∧ x.2.2.1 - x.2.1 ≤ x.1 ∧ depGo p x.1 x.2.1 x.2.2.1 x.2.2.2 = res) (fun x => x.2.2.1 - x.2.1) (i, 0, i, 0) (by walk_at "sub") .refl ⟨Nat.le_refl _, by dsimp only; omega, he⟩ ?_
  rintro ⟨f, lo, hi, c⟩ ⟨g1, g2, g3⟩
  dsimp only at g1 g2 g3 ⊢
  walk_at "go"
  · rename_i z z2
    have z : lo < hi := by omega
    obtain ⟨f', rfl⟩ : ∃ f', f = f' + 1 := ⟨f - 1, by omega⟩
    unfold depGo at g3
    rw [if_pos z, if_pos (by omega)] at g3
    refine Nxt.mk (f', lo, (lo + hi) / 2, c + 1) (by walk_at "sub") .refl ⟨by dsimp only; omega, by dsimp only; omega, g3⟩ (by dsimp only; omega)
  · rename_i z z2
    have z : lo < hi := by omega
    obtain ⟨f', rfl⟩ : ∃ f', f = f' + 1 := ⟨f - 1, by omega⟩
    unfold depGo at g3
    rw [if_pos z, if_neg (by omega)] at g3
    refine Nxt.mk (f', (lo + hi) / 2 + 1, hi, c + 1) (by walk_at "sub") .refl ⟨by dsimp only; omega, by dsimp only; omega, g3⟩ (by dsimp only; omega)
  · rename_i z
    have e : depGo p f lo hi c = c := by
      cases f with
      | zero => rfl
      | succ f => unfold depGo; rw [if_neg (by omega)]
    rw [e] at g3
    subst g3
    exact Ret.mk _ .refl h
theorem rgD_at {lo hi : Nat} : rgD (lo : Int) (hi : Int) = (List.range (hi - lo)).map fun i => .int ((lo + i : Nat) : Int) := by
  unfold rgD
  have : ((hi : Int) - lo).toNat = hi - lo := by omega
  rw [this]
  refine List.map_congr_left fun i _ => ?_
  congr 1
theorem rd_depths (cl : Cl) (ds : List D) (F R : LL) (Φ : DK) (h : S_depths cl ds F R Φ) : t_depths cl (endD Φ) (startD 4 ds) (F ++ R) := by
  obtain ⟨i, lo, hi, rfl, rfl, ⟨h1, h2, h3⟩, h⟩ := h
  walk_at "go"
  rename_i q
  refine LcI.pure (xs := List.range (hi - lo)) (toD := fun j => .int ((lo + j : Nat) : Int)) (out := fun j => .int (depthN i (lo + j) : Nat)) rgD_at (fun _ => trivial) (by simp; omega) ?_ ?_
  · intro j hj acc Ψ hk
    walk_at "go"
    refine CtOf.mk [] _ .nil ⟨i, lo + j, rfl, rfl, h1, ?_⟩
    exact hk _ .refl
  · walk_at "go"
    refine ⟨(List.range (hi - lo)).map fun j => ((depthN i (lo + j) : Nat) : Int), by rw [List.map_map]; rfl, ?_⟩
    have e : ((List.range (hi - lo)).map fun j => ((depthN i (lo + j) : Nat) : Int)).sum = ((depthsN i lo hi : Nat) : Int) := by
      unfold depthsN
      induction List.range (hi - lo) with
      | nil => rfl
      | cons a r ih => simp only [List.map_cons, List.sum_cons, ih]; omega
    dsimp only
    rw [e]
    exact Ret.mk _ (by walk_at "cov") h
theorem rd_factorial (cl : Cl) (ds : List D) (F R : LL) (Φ : DK) (h : S_factorial cl ds F R Φ) : t_factorial cl (endD Φ) (startD 3 ds) (F ++ R) := by
  obtain ⟨n, rfl, rfl, h1, h⟩ := h
  walk_at "go"
  refine ForI.inv (α := Unit) (fun j _ => [some (.int n), some (.int ((List.range j).foldl (fun (a : Int) (i : Nat) => a * ((i : Int) + 2)) 1)), none]) (fun _ _ => R) (fun _ _ => True) () (by walk_at "sub") .refl trivial ?_ ?_
  · rintro j _ d hd _
    obtain ⟨hj, rfl⟩ := rgD_get hd
    refine ⟨trivial, ?_⟩
    walk_at "go"
    refine Nx1.mk () ?_ .refl trivial
    walk_at "sub"
    rw [List.range_succ, List.foldl_append]
    simp only [List.foldl_cons, List.foldl_nil]
    rw [Int.add_comm 2]
  · rintro _ _
    rw [rgD_length, show ((n : Int) + 1 - 2).toNat = n - 1 by omega]
    refine ⟨trivial, ?_⟩
    exact Ret.mk _ .refl h
theorem call_depths {cl : Cl} {L : LL} {Φ : DK} {a b c : Int} (i lo hi : Nat) (e1 : a = i) (e2 : b = lo) (e3 : c = hi) (h1 : i ≤ 100000) (h2 : lo ≤ 100000) (h3 : hi ≤ 100000) (k : Φ (.int (depthsN i lo hi : Nat)) L) : CtOf (S_depths cl) [.int a, .int b, .int c] L Φ := by
  subst e1 e2 e3
  exact ⟨[], L, .nil, i, lo, hi, rfl, rfl, ⟨h1, h2, h3⟩, k⟩
theorem dep_small {n : Nat} (h : n ≤ 63) : depthsN n 0 n ≤ 100000 ∧ depthsN n 1 n ≤ 100000 ∧ depthsN n 0 (n + 1) ≤ 100000 := of_decide_eq_true (List.all_eq_true.mp depths_small n (by simp; omega))
theorem mulOk_two {a b c : Int} (h1 : -100 ≤ a) (h2 : a ≤ 100) (h3 : -100 ≤ b) (h4 : b ≤ 100) : MulOk (a * b) c := by
  have h5 : (a * b).natAbs ≤ 100 * 100 := by
    rw [Int.natAbs_mul]
    exact Nat.mul_le_mul (by omega) (by omega)
  exact mulOk_l (by omega) (by omega)
theorem rd_sum_with_run (cl : Cl) (ds : List D) (F R : LL) (Φ : DK) (h : S_sum_with_run cl ds F R Φ) : t_sum_with_run cl (endD Φ) (startD 11 ds) (F ++ R) := by
  obtain ⟨many, len, o, q, ways, rfl, rfl, ⟨h1, h2, h3, h4⟩, h⟩ := h
  have ds := dep_small h2
  walk_at "go"
  refine call_depths len 0 len rfl rfl rfl (by omega) (by omega) (by omega) ?_
  walk_at "go"
  refine call_depths len 1 len rfl rfl rfl (by omega) (by omega) (by omega) ?_
  walk_at "go"
  refine ⟨mulOk_two (by omega) (by omega) (by omega) (by omega), ?_⟩
  walk_at "go"
  unfold swr at h
  refine ForI.inv (α := Unit) (fun j _ => [some (.int many), some (.int len), some (.int o), some (.ref q), some (.int ((List.range j).foldl (fun (a : Int) (i : Nat) => a + ((len * o) + ((len - 1) * o) + ((len - 2) * len * o)) / (((len : Int) + 1 + i) + 1) * ways.getD (len + 1 + i) 0)
    ((len * o) * (len + 1) + o * (depthsN len 0 len : Nat) + ((len - 1) * o) * (len + 2) + o * (depthsN len 1 len : Nat) + ((len - 2) * len * o) * (len + 2) + (len - 2) * o * (depthsN len 0 len : Nat)))), none, none, none, some (.int ((len : Int) * o)), some (.int (((len : Int) - 1) * o)), some (.int (((len : Int) - 2) * len * o))])
    (fun _ _ => [(q, intsO ways)] ++ R) (fun _ _ => True) () (by walk_at "sub") .refl trivial ?_ ?_
  · rintro j _ d hd _
    obtain ⟨hj, rfl⟩ := rgD_get hd
    have hj' : len + 1 + j < many := by omega
    refine ⟨trivial, ?_⟩
    walk_at "go"
    refine ⟨_, atI_int (len + 1 + j) (by omega) (by omega), ?_⟩
    have hw := h4 (ways.getD (len + 1 + j) 0) (by simp [List.getD, List.getElem?_eq_getElem (show len + 1 + j < ways.length by omega)])
    walk_at "go"
    refine Nx1.mk () ?_ .refl trivial
    walk_at "sub"
    rw [List.range_succ, List.foldl_append]
    rfl
  · rintro _ _
    rw [rgD_length, show ((many : Int) - ((len : Int) + 1)).toNat = many - (len + 1) by omega]
    refine ⟨trivial, ?_⟩
    walk_at "go"
    exact Ret.mk _ .refl h
theorem call_factorial {cl : Cl} {L : LL} {Φ : DK} {a : Int} (n : Nat) (e : a = n) (h1 : n ≤ 100000) (k : Φ (.int (factN n)) L) : CtOf (S_factorial cl) [.int a] L Φ := by
  subst e
  exact ⟨[], L, .nil, n, rfl, rfl, h1, k⟩
theorem fact_ok {n : Nat} (h : n ≤ 64) : DivOk (factN n) := by
  have f : 0 < factN n ∧ factN n < 2 ^ 400 := of_decide_eq_true (List.all_eq_true.mp factN_pos n (by simp; omega))
  refine ⟨f.1, ?_⟩
  have h3 : (factN n).natAbs < 2 ^ 400 := by omega
  have h4 := (Nat.log2_lt (by omega)).mpr h3
  omega
theorem rd_sum_of (cl : Cl) (ds : List D) (F R : LL) (Φ : DK) (h : S_sum_of cl ds F R Φ) : t_sum_of cl (endD Φ) (startD 6 ds) (F ++ R) := by
  obtain ⟨n, rfl, rfl, h1, h⟩ := h
  unfold sumOf at h
  walk_at "go"
  refine CtOf.mk [] _ .nil ⟨_, n, 0, 63, rfl, rfl, ⟨by omega, by omega⟩, ?_⟩
  walk_at "go"
  · rename_i z
    rw [if_pos (by omega)] at h
    exact Ret.mk _ .refl h
  · rename_i z
    rw [if_neg (by omega)] at h
    refine call_factorial n rfl (by omega) ?_
    walk_at "go"
    rename_i q
    refine LcI.pure (xs := List.range n) (toD := fun i => .int (i : Nat)) (out := fun i => .int (depthsN i 0 (i + 1) : Nat)) (by rw [rgD_nat]; rfl) (fun _ => trivial) (by simp; omega) ?_ ?_
    · intro i hi acc Ψ hk
      have hi : i < n := by simpa using hi
      walk_at "go"
      refine call_depths i 0 (i + 1) rfl rfl (by omega) (by omega) (by omega) (by omega) ?_
      exact hk _ .refl
    · have ew : (List.range n).map (fun i => D.int (depthsN i 0 (i + 1) : Nat)) = (waysN n).map .int := by unfold waysN; rw [List.map_map]; rfl
      rw [ew]
      have wl : (waysN n).length = n := by unfold waysN; simp
      have wo : ∀ w ∈ waysN n, 0 ≤ w ∧ w ≤ 1000000 := fun w hw => of_decide_eq_true (List.all_eq_true.mp (List.all_eq_true.mp waysN_ok n (by simp; omega)) w hw)
      walk_at "go"
      refine ForI.inv (α := Unit) (fun j _ => [some (.int n), some (.int (factN n)), some (.int ((List.range j).foldl (fun (a : Int) (i : Nat) => a + swr n (2 + i) (factN n / factN (2 + i + 1)) (waysN n)) (2 * ((n : Int) - 1) + ((n : Int) - 2) * (n + 1)))), some (.ref q), none, none])
        (fun _ _ => (q, intsO (waysN n)) :: R) (fun _ _ => True) () (by walk_at "sub") .refl trivial ?_ ?_
      · rintro j _ d hd _
        obtain ⟨hj, rfl⟩ := rgD_get hd
        have hj' : 2 + j < n := by omega
        refine ⟨trivial, ?_⟩
        walk_at "go"
        refine call_factorial (2 + j + 1) (by omega) (by omega) ?_
        walk_at "go"
        refine ⟨fact_ok (by omega), ?_⟩
        walk_at "go"
        refine ⟨[(q, intsO (waysN n))], _, (by walk_at "pull"), n, 2 + j, _, q, waysN n, (by rfl), rfl, ⟨h1, by omega, by omega, wo⟩, ?_⟩
        walk_at "go"
        refine Nx1.mk () ?_ .refl trivial
        walk_at "sub"
        rw [List.range_succ, List.foldl_append]
        rfl
      · rintro _ _
        rw [rgD_length, show ((n : Int) - 2).toNat = n - 2 by omega]
        refine ⟨trivial, ?_⟩
        walk_at "go"
        exact Ret.mk _ (by walk_at "cov") h
end DL

namespace DL
open PySem PySem.Spec PyProof.Rows L2
local macro_rules | `(tactic| walk_at "has") => `(tactic| first | exact Has.here | (apply Has.there; walk_at "has"))
local macro_rules | `(tactic| walk_at "hasl") => `(tactic| first | (refine Or.inl ?_; walk_at "has") | (refine Or.inr ?_; walk_at "has"))
local macro_rules | `(tactic| walk_at "sel") => `(tactic| first | exact Sel.here | (apply Sel.there; walk_at "sel"))
local macro_rules | `(tactic| walk_at "chg") => `(tactic| first | exact Chg.here | (apply Chg.there; walk_at "chg"))
local macro_rules | `(tactic| walk_at "pull") => `(tactic| first | exact Pull.nil | (apply Pull.cons; (walk_at "sel"); exact rfl; walk_at "pull"))
local macro_rules | `(tactic| walk_at "cov") => `(tactic| first | exact Cov.refl | (apply Cov.take; (walk_at "sel"); (first | exact rfl | assumption); walk_at "cov") | (apply Cov.take; (walk_at "sel"); rotate_left; walk_at "cov") | (refine Cov.drop ?_; walk_at "cov"))
local macro_rules | `(tactic| walk_at "sub") => `(tactic| first | exact Sub.nil | (refine Sub.same (by first | rfl | assumption) ?_; walk_at "sub") | (refine Sub.any ?_; walk_at "sub") | (refine Sub.same ?_ ?_; rotate_left; walk_at "sub"))
local macro_rules | `(tactic| walk_at "side") => `(tactic| first | assumption | (with_reducible rfl) | omega | (refine mulOk_r ?_ ?_ <;> first | omega | decide) | (refine mulOk_l ?_ ?_ <;> first | omega | decide) | (refine divOk_of ?_ ?_ <;> first | omega | decide) | (refine ⟨?_, ?_⟩ <;> walk_at "side") | exact Eq.refl _ | (simp <;> omega) | decide)
local macro_rules | `(tactic| walk_at "kn") => `(tactic| first | assumption | decide | rfl)
local macro_rules | `(tactic| walk_at "br") => `(tactic| first | (with_reducible first | refine Br.t ?_ | refine Br.f ?_) | ((with_reducible refine Br.dec_t ?_ ?_); focus walk_at "kn") | ((with_reducible refine Br.dec_f ?_ ?_); focus walk_at "kn") | ((with_reducible refine Br.ndec_t ?_ ?_); focus walk_at "kn") | ((with_reducible refine Br.ndec_f ?_ ?_); focus walk_at "kn") | (with_reducible first | (refine Br.dec ?_ ?_ <;> intro _) | (refine Br.ndec ?_ ?_ <;> intro _)) | refine Br.t ?_ | refine Br.f ?_ | (with_reducible refine Br.mk ?_ ?_ <;> intro _))
local macro_rules | `(tactic| walk_at "st") => `(tactic| ((try (conv => whnf)); first
  | walk_at "br"
  | with_reducible (intro _)
  | (refine ⟨_, (by walk_at "has" : Has _ _ _), ?_⟩)
  | (refine ⟨_, (by walk_at "hasl" : HasL _ _ _), ?_⟩)
  | (refine ⟨_, _, (by walk_at "chg" : Chg _ _ _ _ _), ?_⟩)
  | (refine ⟨_, _, _, (by walk_at "chg" : Chg _ _ _ _ _), (by first | rfl | assumption : ixN _ _ = some _), ?_⟩)
  | (refine ⟨_, _, (by walk_at "sel" : Sel _ _ _ _), ?_⟩)
  | (refine ⟨_, _, _, (by walk_at "has" : Has _ _ _), (by assumption), ?_⟩)
  | (refine ⟨_, (by first | rfl | assumption : atI _ _ = some _), ?_⟩)
  | (refine And.intro (by walk_at "side") ?_)))
local macro_rules | `(tactic| walk_at "st2") => `(tactic| first | walk_at "st" | ((try (conv => whnf)); with_reducible refine And.intro ?_ ?_; rotate_left))
local macro_rules | `(tactic| walk_at "go") => `(tactic| first | ((try (conv => whnf)); walk_at "br" <;> walk_at "go") | (walk_at "st"; walk_at "go") | (conv => whnf) | skip)
theorem rd_law_run_due_s4 (cl : Cl) (R : LL) (Φ : DK) (q s : Addr) (ms : List Int) (qs : List D) (first : Nat) (h2 : ms.length ≤ 63) (he1 : 1 ≤ first) (he2 : first < ms.length) (hf : firstN ms = first) (hq : qs.length ≤ 200)
    (h : ∀ (p s : Addr) (its : List Nat) (qs' : List D), its.Perm (List.range (dueTail ms qs.length).1) → qs'.length = (dueTail ms qs.length).2 → Φ (.tup [.int (dueTail ms qs.length).1, .ref p, .ref s]) ((p, rowO its) :: (s, .lst qs') :: ([(q, intsO ms), tabDue cl] ++ R))) :
    t__law_run_due_s4 cl (endD Φ) [some (.ref q), some (.int 0), some (.ref s), none, none, none, some (.int first), some (.int ms.length), none, none] ((s, .lst qs) :: ([(q, intsO ms), tabDue cl] ++ R)) := by
  unfold dueTail at h
  rw [hf] at h
  generalize hec : fallGo ms ms.length (first + 1) qs.length = ec at h
  have hl : ((ms.map D.int).length : Int) = ms.length := by simp
  walk_at "go"
  refine WhileI.inv (α := Nat × Nat × List D) (fun x => [some (.ref q), some (.int 0), some (.ref s), some (.int x.2.1), none, none, some (.int first), some (.int ms.length), none, none]) (fun x => (s, .lst x.2.2) :: ([(q, intsO ms), tabDue cl] ++ R)) (fun x => first < x.2.1 ∧ x.2.1 ≤ ms.length ∧ ms.length ≤ x.1 + x.2.1 ∧ x.2.2.length ≤ 200 + 2 * x.2.1 ∧ fallGo ms x.1 x.2.1 x.2.2.length = ec) (fun x => ms.length - x.2.1) (ms.length, first + 1, qs) ?_ .refl ⟨by dsimp only; omega, by dsimp only; omega, by dsimp only; omega, by dsimp only; omega, hec⟩ ?_
  · walk_at "sub"
    dsimp only
    congr 2
    omega
  rintro ⟨f, e, qs2⟩ ⟨g1, g2, g3, g4, g5⟩
  dsimp only at g1 g2 g3 g4 g5 ⊢
  walk_at "go"
  · rename_i z
    have z : e < ms.length := by omega
    obtain ⟨f', rfl⟩ : ∃ f', f = f' + 1 := ⟨f - 1, by omega⟩
    unfold fallGo at g5
    refine ⟨_, atI_int e rfl z, ?_⟩
    walk_at "go"
    refine ⟨_, atI_int (e - 1) (by omega) (by omega), ?_⟩
    walk_at "go"
    · rename_i z2
      rw [if_pos ⟨z, z2⟩] at g5
      refine ⟨_, atI_int e rfl z, ?_⟩
      walk_at "go"
      refine ⟨_, atI_int (e - 1) (by omega) (by omega), ?_⟩
      walk_at "go"
      · rename_i z3
        have z3 : keyN ms e = keyN ms (e - 1) := z3
        rw [if_pos z3] at g5
        refine Nxt.mk (f', e + 1, qs2 ++ [.tup [.int e, .int ((e : Int) - 1)]] ++ [.tup [.int ((e : Int) - 1), .int e]]) (by walk_at "sub") (by walk_at "cov") ⟨by dsimp only; omega, by dsimp only; omega, by dsimp only; omega, by simp; omega, ?_⟩ (by dsimp only; omega)
        dsimp only
        rw [List.length_append, List.length_append]
        exact g5
      · rename_i z3
        have z3 : ¬ keyN ms e = keyN ms (e - 1) := z3
        rw [if_neg z3] at g5
        refine Nxt.mk (f', e + 1, qs2 ++ [.tup [.int e, .int ((e : Int) - 1)]]) (by walk_at "sub") (by walk_at "cov") ⟨by dsimp only; omega, by dsimp only; omega, by dsimp only; omega, by simp; omega, ?_⟩ (by dsimp only; omega)
        dsimp only
        rw [List.length_append]
        exact g5
    · have z2 : ¬ keyN ms e ≤ keyN ms (e - 1) := by assumption
      rw [if_neg (fun c => z2 c.2)] at g5
      subst g5
      walk_at "go"
      have := rd_law_run_due_s7 cl R Φ q s ms (qs2 ++ [.tup [.int e, .int ((e : Int) - 1)], .tup [.int ((e : Int) - 1), .int e]]) e first h2 he1 g1 g2 (by simp; omega) (by
        rw [List.length_append]
        simp only [if_pos z] at h
        exact h)
      refine Wk.mk _ _ ?_ ?_ this
      · walk_at "sub"
      · walk_at "cov"
  · rename_i z
    have z : ¬ e < ms.length := by omega
    have e2 : fallGo ms f e qs2.length = (e, qs2.length) := by
      cases f with
      | zero => rfl
      | succ f => unfold fallGo; rw [if_neg (by omega)]
    rw [e2] at g5
    subst g5
    walk_at "go"
    have := rd_law_run_due_s7 cl R Φ q s ms qs2 e first h2 he1 g1 g2 (by omega) (by
      simpa only [if_neg z, Nat.add_zero] using h)
    refine Wk.mk _ _ ?_ ?_ this
    · walk_at "sub"
    · walk_at "cov"
theorem rd_law_run_due (cl : Cl) (ds : List D) (F R : LL) (Φ : DK) (h : S_law_run_due cl ds F R Φ) : t__law_run_due cl (endD Φ) (startD 10 ds) (F ++ R) := by
  obtain ⟨q, ms, rfl, rfl, ⟨h1, h2⟩, h⟩ := h
  have hl : ((ms.map D.int).length : Int) = ms.length := by simp
  have hfe := preGo_le ms ms.length 1 h1
  have hf1 : 1 ≤ firstN ms := hfe.1
  have hf2 : firstN ms ≤ ms.length := hfe.2
  unfold runDue at h
  walk_at "go"
  refine call_prefix (by walk_at "pull") h1 h2 ?_
  generalize hf : firstN ms = first at *
  walk_at "go"
  rename_i s
  have hm : (if ((ms.map D.int).length : Int) < 0 + (first : Int) + 1 then ((ms.map D.int).length : Int) else 0 + (first : Int) + 1) = ((min (first + 1) ms.length : Nat) : Int) := by
    rw [hl]
    split <;> omega
  rw [hm]
  refine LcI.pure (xs := List.range (min (first + 1) ms.length - 1)) (toD := fun j => .int ((1 + j : Nat) : Int)) (out := fun j => .tup [.int ((1 + j : Nat) : Int), .int (((1 + j : Nat) : Int) - 1)]) (rgD_at (lo := 1)) (fun _ => trivial) (by first | (simp; done) | (simp; omega) | omega) ?_ ?_
  · intro e _ acc Ψ hk
    walk_at "go"
    exact hk _ .refl
  have hq : (((List.range (min (first + 1) ms.length - 1)).map fun j => D.tup [.int ((1 + j : Nat) : Int), .int (((1 + j : Nat) : Int) - 1)])).length = min (first + 1) ms.length - 1 := by simp
  generalize ((List.range (min (first + 1) ms.length - 1)).map fun j => D.tup [.int ((1 + j : Nat) : Int), .int (((1 + j : Nat) : Int) - 1)]) = qs0 at hq ⊢
  have hrg : ∀ k : Nat, rgD 0 (k : Int) = (List.range k).map dn := fun k => by rw [rgD_nat]
  walk_at "go"
  · have e : first = ms.length := by omega
    subst e
    simp only [if_true] at h
    rw [hl, hrg]
    refine Ret.mk _ ?_ (h _ _ (List.range ms.length) qs0 (List.Perm.refl _) (by omega))
    walk_at "cov"
  · have e : ¬ first = ms.length := by omega
    have e1 : 1 < first := by omega
    simp only [if_neg e, if_pos e1] at h
    refine ⟨_, atI_int 0 rfl h1, ?_⟩
    walk_at "go"
    refine ⟨_, atI_int (first - 1) (by omega) (by omega), ?_⟩
    walk_at "go"
    · have z : keyN ms 0 < keyN ms (first - 1) := by assumption
      simp only [if_pos z] at h
      rw [show (0 : Int) + (first : Int) = (first : Int) by omega, hrg]
      refine Ret.mk _ ?_ (h _ _ (List.range first) (qs0 ++ [D.tup [.int 0, .int ((first : Int) - 1)]]) (List.Perm.refl _) (by simp; omega))
      walk_at "cov"
    · have z : ¬ keyN ms 0 < keyN ms (first - 1) := by assumption
      simp only [if_neg z] at h
      have hk : (qs0 ++ [D.tup [.int 0, .int (0 + (first : Int) - 1)]]).length = first + 1 := by simp; omega
      rw [← hk] at h
      have := rd_law_run_due_s4 cl R Φ q s ms (qs0 ++ [D.tup [.int 0, .int (0 + (first : Int) - 1)]]) first h2 hf1 (by omega) hf (by omega) h
      refine Wk.mk _ _ ?_ ?_ this
      · rw [hl]
        walk_at "sub"
      · walk_at "cov"
  · have e : ¬ first = ms.length := by omega
    have e1 : ¬ 1 < first := by omega
    simp only [if_neg e, if_neg e1] at h
    have hk : qs0.length = first := by omega
    rw [← hk] at h
    have := rd_law_run_due_s4 cl R Φ q s ms qs0 first h2 hf1 (by omega) hf (by omega) (by rw [hk] at h ⊢; exact h)
    refine Wk.mk _ _ ?_ ?_ this
    · rw [hl]
      walk_at "sub"
    · walk_at "cov"
end DL

namespace DL
open PySem PySem.Spec PyProof.Rows L2
local macro_rules | `(tactic| walk_at "has") => `(tactic| first | exact Has.here | (apply Has.there; walk_at "has"))
local macro_rules | `(tactic| walk_at "hasl") => `(tactic| first | (refine Or.inl ?_; walk_at "has") | (refine Or.inr ?_; walk_at "has"))
local macro_rules | `(tactic| walk_at "sel") => `(tactic| first | exact Sel.here | (apply Sel.there; walk_at "sel"))
local macro_rules | `(tactic| walk_at "chg") => `(tactic| first | exact Chg.here | (apply Chg.there; walk_at "chg"))
local macro_rules | `(tactic| walk_at "pull") => `(tactic| first | exact Pull.nil | (apply Pull.cons; (walk_at "sel"); exact rfl; walk_at "pull"))
local macro_rules | `(tactic| walk_at "cov") => `(tactic| first | exact Cov.refl | (apply Cov.take; (walk_at "sel"); (first | exact rfl | assumption); walk_at "cov") | (apply Cov.take; (walk_at "sel"); rotate_left; walk_at "cov") | (refine Cov.drop ?_; walk_at "cov"))
local macro_rules | `(tactic| walk_at "sub") => `(tactic| first | exact Sub.nil | (refine Sub.same (by first | rfl | assumption) ?_; walk_at "sub") | (refine Sub.any ?_; walk_at "sub") | (refine Sub.same ?_ ?_; rotate_left; walk_at "sub"))
local macro_rules | `(tactic| walk_at "side") => `(tactic| first | assumption | (with_reducible rfl) | omega | (refine mulOk_r ?_ ?_ <;> first | omega | decide) | (refine mulOk_l ?_ ?_ <;> first | omega | decide) | (refine divOk_of ?_ ?_ <;> first | omega | decide) | (refine ⟨?_, ?_⟩ <;> walk_at "side") | exact Eq.refl _ | (simp <;> omega) | decide)
local macro_rules | `(tactic| walk_at "kn") => `(tactic| first | assumption | decide | rfl)
local macro_rules | `(tactic| walk_at "br") => `(tactic| first | (with_reducible first | refine Br.t ?_ | refine Br.f ?_) | ((with_reducible refine Br.dec_t ?_ ?_); focus walk_at "kn") | ((with_reducible refine Br.dec_f ?_ ?_); focus walk_at "kn") | ((with_reducible refine Br.ndec_t ?_ ?_); focus walk_at "kn") | ((with_reducible refine Br.ndec_f ?_ ?_); focus walk_at "kn") | (with_reducible first | (refine Br.dec ?_ ?_ <;> intro _) | (refine Br.ndec ?_ ?_ <;> intro _)) | refine Br.t ?_ | refine Br.f ?_ | (with_reducible refine Br.mk ?_ ?_ <;> intro _))
local macro_rules | `(tactic| walk_at "st") => `(tactic| ((try (conv => whnf)); first
  | walk_at "br"
  | with_reducible (intro _)
  | (refine ⟨_, (by walk_at "has" : Has _ _ _), ?_⟩)
  | (refine ⟨_, (by walk_at "hasl" : HasL _ _ _), ?_⟩)
  | (refine ⟨_, _, (by walk_at "chg" : Chg _ _ _ _ _), ?_⟩)
  | (refine ⟨_, _, _, (by walk_at "chg" : Chg _ _ _ _ _), (by first | rfl | assumption : ixN _ _ = some _), ?_⟩)
  | (refine ⟨_, _, (by walk_at "sel" : Sel _ _ _ _), ?_⟩)
  | (refine ⟨_, _, _, (by walk_at "has" : Has _ _ _), (by assumption), ?_⟩)
  | (refine ⟨_, (by first | rfl | assumption : atI _ _ = some _), ?_⟩)
  | (refine And.intro (by walk_at "side") ?_)))
local macro_rules | `(tactic| walk_at "st2") => `(tactic| first | walk_at "st" | ((try (conv => whnf)); with_reducible refine And.intro ?_ ?_; rotate_left))
local macro_rules | `(tactic| walk_at "go") => `(tactic| first | ((try (conv => whnf)); walk_at "br" <;> walk_at "go") | (walk_at "st"; walk_at "go") | (conv => whnf) | skip)
theorem call_spots {cl : Cl} {L R : LL} {Φ : DK} {a b : Int} (i p : Nat) (hp : Pull L [] R) (ea : a = i) (eb : b = p) (h1 : i ≤ 100000) (k : ∀ (q : Addr) (qs : List D), qs.length = depthN i p → Φ (.ref q) ((q, .lst qs) :: R)) : CtOf (S_law_spots cl) [.int a, .int b] L Φ := by
  subst ea eb
  exact ⟨_, _, hp, i, p, rfl, rfl, h1, k⟩
theorem filterMap_len {α : Type} (f : α → Bool) (g : α → D) : ∀ xs : List α, (xs.filterMap fun x => if f x = true then some (g x) else none).length = xs.countP f
  | [] => rfl
  | x :: xs => by
    have := filterMap_len f g xs
    by_cases h : f x = true
    · rw [List.filterMap_cons_some (b := g x) (by rw [if_pos h]), List.countP_cons_of_pos h, List.length_cons, this]
    · rw [List.filterMap_cons_none (by rw [if_neg h]), List.countP_cons_of_neg h, this]
theorem belowN_le (ms : List Int) (i : Nat) : belowN ms i ≤ i := by
  have := List.countP_le_length (p := fun j => decide (keyN ms j ≤ keyN ms i)) (l := List.range i)
  rw [List.length_range] at this
  exact this
theorem goGo_le (ms : List Int) : ∀ f i last going len c, (goGo ms f i last going len c).1 ≤ len + f
  | 0, _, _, _, _, _ => Nat.le_refl _
  | f + 1, i, last, going, len, c => by
    unfold goGo
    split
    · split
      · have := goGo_le ms f (i + 1) i true (len + 1) (c + 1)
        omega
      · have := goGo_le ms f (i + 1) i false len (c + 1)
        omega
    · have := goGo_le ms f (i + 1) last false len c
      omega
theorem fallGo_le (ms : List Int) : ∀ f e c, e ≤ ms.length → (fallGo ms f e c).1 ≤ ms.length
  | 0, _, _, h => h
  | f + 1, e, c, h => by
    unfold fallGo
    split
    · rename_i z
      exact fallGo_le ms f _ _ (by omega)
    · exact h
theorem dueTail_le (ms : List Int) (c : Nat) (h : firstN ms < ms.length) : (dueTail ms c).1 ≤ ms.length := by
  have h1 := fallGo_le ms ms.length (firstN ms + 1) c h
  have h2 := goGo_le ms (ms.length - (fallGo ms ms.length (firstN ms + 1) c).1) (fallGo ms ms.length (firstN ms + 1) c).1 (firstN ms - 1) true (fallGo ms ms.length (firstN ms + 1) c).1
    ((fallGo ms ms.length (firstN ms + 1) c).2 + if (fallGo ms ms.length (firstN ms + 1) c).1 < ms.length then 2 else 0)
  unfold dueTail
  omega
theorem runDue_le (ms : List Int) (h1 : 1 ≤ ms.length) : (runDue ms).1 ≤ ms.length := by
  have hf : firstN ms ≤ ms.length := (preGo_le ms ms.length 1 h1).2
  unfold runDue
  split
  · exact Nat.le_refl _
  · split
    · split
      · exact hf
      · exact dueTail_le ms _ (by omega)
    · exact dueTail_le ms _ (by omega)
theorem rd_law_sorted_count (cl : Cl) (ds : List D) (F R : LL) (Φ : DK) (h : S_law_sorted_count cl ds F R Φ) : t__law_sorted_count cl (endD Φ) (startD 9 ds) (F ++ R) := by
  obtain ⟨q, ms, rfl, rfl, ⟨h1, h2⟩, h⟩ := h
  have hl : ((ms.map D.int).length : Int) = ms.length := by simp
  unfold lawCount at h
  have hlen := runDue_le ms h1
  generalize hrd : runDue ms = rdv at h hlen
  walk_at "go"
  refine CtOf.mk [(q, intsO ms), tabDue cl] _ (by walk_at "pull") ⟨q, ms, rfl, rfl, ⟨h1, h2⟩, ?_⟩
  rw [hrd]
  obtain ⟨len, c0⟩ := rdv
  intro p s its qs hp hq
  dsimp only at hp hq h hlen
  have hil : its.length = len := by have := hp.length_eq; rwa [List.length_range] at this
  walk_at "go"
  rename_i r
  refine ForI.inv (α := Int × List Nat) (fun j x => [some (.ref q), none, some (.int len), some (.ref p), some (.ref s), some (.ref r), some (.int x.1), none, none])
    (fun j x => (r, rowO x.2) :: ([(q, intsO ms), tabDue cl] ++ R))
    (fun j x => x.1 = ((List.range j).foldl (fun (a i : Nat) => a + depthN (len + i) (belowN ms (len + i))) c0 : Nat) ∧ x.2.Perm (List.range (len + j))) (qs.length, its) ?_ ?_ ?_ ?_ ?_
  · walk_at "sub"
  · walk_at "cov"
  · refine ⟨?_, hp⟩
    dsimp only
    rw [hq, List.range_zero, List.foldl_nil]
  · rintro j ⟨fd, row⟩ d hd ⟨g1, g2⟩
    obtain ⟨hj, rfl⟩ := rgD_get hd
    dsimp only at g1 g2
    rw [hl] at hj
    have hj' : len + j < ms.length := by omega
    have hrl : row.length = len + j := by have := g2.length_eq; rwa [List.length_range] at this
    have hrm : ∀ x ∈ row, x < len + j := fun x hx => List.mem_range.mp (g2.mem_iff.mp hx)
    refine ⟨trivial, ?_⟩
    walk_at "go"
    refine LcI.sel (xs := row) (toD := dn) (out := fun x => if decide (keyN ms x ≤ keyN ms (len + j)) = true then some (dn x) else none) rfl (fun _ => by walk_at "hasl") (by omega) ?_ ?_
    · intro x hx acc Ψ Z hk
      have hx' := hrm x hx
      walk_at "go"
      refine ⟨_, atI_int x rfl (by omega), ?_⟩
      walk_at "go"
      refine ⟨_, atI_int (len + j) (by omega) (by omega), ?_⟩
      walk_at "go"
      · have z : keyN ms x ≤ keyN ms (len + j) := by assumption
        have := hk _ .refl
        rw [if_pos (decide_eq_true z)] at this
        exact this
      · have z : ¬ keyN ms x ≤ keyN ms (len + j) := by assumption
        have := hk _ .refl
        rw [if_neg (by rw [decide_eq_false z]; decide)] at this
        exact this
    have hcl := filterMap_len (fun x => decide (keyN ms x ≤ keyN ms (len + j))) dn row
    generalize (row.filterMap fun x => if decide (keyN ms x ≤ keyN ms (len + j)) = true then some (dn x) else none) = fm at hcl ⊢
    have hcb : fm.length = belowN ms (len + j) := by rw [hcl]; exact g2.countP_eq _
    have hbl := belowN_le ms (len + j)
    generalize hbe : belowN ms (len + j) = pl at hcb hbl
    walk_at "go"
    refine call_spots (len + j) pl (by walk_at "pull") (by omega) (by omega) (by omega) ?_
    intro q2 qs2 hq2
    walk_at "go"
    have erow : (row.map dn).take (fm.length : Int).toNat ++ [D.int ((len : Int) + (j : Int))] ++ (row.map dn).drop (fm.length : Int).toNat = (row.take pl ++ [len + j] ++ row.drop pl).map dn := by
      rw [Int.toNat_natCast, hcb, List.map_append, List.map_append, List.map_take, List.map_drop]
      rfl
    dsimp only
    rw [erow]
    refine Nx1.mk (fd + (qs2.length : Nat), row.take pl ++ [len + j] ++ row.drop pl) (by walk_at "sub") (by walk_at "cov") ⟨?_, ?_⟩
    · dsimp only
      rw [g1, List.range_succ, List.foldl_append, hq2, List.foldl_cons, List.foldl_nil, hbe]
      omega
    · dsimp only
      rw [show len + (j + 1) = len + j + 1 by omega, List.range_succ]
      have e1 : (row.take pl ++ [len + j] ++ row.drop pl).Perm ((row.take pl ++ row.drop pl) ++ [len + j]) := by
        rw [List.append_assoc, List.append_assoc]
        exact (List.perm_append_comm).append_left _
      rw [List.take_append_drop] at e1
      exact e1.trans (g2.append_right _)
  · rintro ⟨fd, row⟩ ⟨g1, g2⟩
    dsimp only at g1 g2
    rw [rgD_length, hl] at g1
    rw [show ((ms.length : Int) - (len : Int)).toNat = ms.length - len by omega] at g1
    refine ⟨trivial, ?_⟩
    walk_at "go"
    rw [← g1] at h
    exact Ret.mk _ (by walk_at "cov") h
theorem rd_law_ways (cl : Cl) (ds : List D) (F R : LL) (Φ : DK) (h : S_law_ways cl ds F R Φ) : t__law_ways cl (endD Φ) (startD 4 ds) (F ++ R) := by
  obtain ⟨i, lo, hi, rfl, rfl, ⟨h1, h2, h3⟩, h⟩ := h
  walk_at "go"
  refine LcI.pure (xs := List.range (hi - lo)) (toD := fun j => .int ((lo + j : Nat) : Int)) (out := fun j => .int (depthN i (lo + j) : Nat)) rgD_at (fun _ => trivial) (by simp; omega) ?_ ?_
  · intro e _ acc Ψ hk
    walk_at "go"
    refine call_spots i (lo + e) .nil rfl rfl h1 ?_
    intro q qs hq
    walk_at "go"
    rw [hq]
    refine hk _ ?_
    walk_at "cov"
  · walk_at "go"
    refine ⟨(List.range (hi - lo)).map fun j => ((depthN i (lo + j) : Nat) : Int), by rw [List.map_map]; rfl, ?_⟩
    have e : ((List.range (hi - lo)).map fun j => ((depthN i (lo + j) : Nat) : Int)).sum = ((depthsN i lo hi : Nat) : Int) := by
      unfold depthsN
      induction List.range (hi - lo) with
      | nil => rfl
      | cons a r ih => simp only [List.map_cons, List.sum_cons, ih]; omega
    dsimp only
    rw [e]
    exact Ret.mk _ (by walk_at "cov") h
theorem call_ways {cl : Cl} {L R : LL} {Φ : DK} {a b c : Int} (i lo hi : Nat) (hp : Pull L [] R) (ea : a = i) (eb : b = lo) (ec : c = hi) (h1 : i ≤ 100000 ∧ lo ≤ 100000 ∧ hi ≤ 100000) (k : Φ (.int (depthsN i lo hi : Nat)) R) : CtOf (S_law_ways cl) [.int a, .int b, .int c] L Φ := by
  subst ea eb ec
  exact ⟨_, _, hp, i, lo, hi, rfl, rfl, h1, k⟩
end DL

namespace DL
open PySem PySem.Spec PyProof.Rows L2
local macro_rules | `(tactic| walk_at "has") => `(tactic| first | exact Has.here | (apply Has.there; walk_at "has"))
local macro_rules | `(tactic| walk_at "hasl") => `(tactic| first | (refine Or.inl ?_; walk_at "has") | (refine Or.inr ?_; walk_at "has"))
local macro_rules | `(tactic| walk_at "sel") => `(tactic| first | exact Sel.here | (apply Sel.there; walk_at "sel"))
local macro_rules | `(tactic| walk_at "chg") => `(tactic| first | exact Chg.here | (apply Chg.there; walk_at "chg"))
local macro_rules | `(tactic| walk_at "pull") => `(tactic| first | exact Pull.nil | (apply Pull.cons; (walk_at "sel"); exact rfl; walk_at "pull"))
local macro_rules | `(tactic| walk_at "cov") => `(tactic| first | exact Cov.refl | (apply Cov.take; (walk_at "sel"); (first | exact rfl | assumption); walk_at "cov") | (apply Cov.take; (walk_at "sel"); rotate_left; walk_at "cov") | (refine Cov.drop ?_; walk_at "cov"))
local macro_rules | `(tactic| walk_at "sub") => `(tactic| first | exact Sub.nil | (refine Sub.same (by first | rfl | assumption) ?_; walk_at "sub") | (refine Sub.any ?_; walk_at "sub") | (refine Sub.same ?_ ?_; rotate_left; walk_at "sub"))
local macro_rules | `(tactic| walk_at "side") => `(tactic| first | assumption | (with_reducible rfl) | omega | (refine mulOk_r ?_ ?_ <;> first | omega | decide) | (refine mulOk_l ?_ ?_ <;> first | omega | decide) | (refine divOk_of ?_ ?_ <;> first | omega | decide) | (refine ⟨?_, ?_⟩ <;> walk_at "side") | exact Eq.refl _ | (simp <;> omega) | decide)
local macro_rules | `(tactic| walk_at "kn") => `(tactic| first | assumption | decide | rfl)
local macro_rules | `(tactic| walk_at "br") => `(tactic| first | (with_reducible first | refine Br.t ?_ | refine Br.f ?_) | ((with_reducible refine Br.dec_t ?_ ?_); focus walk_at "kn") | ((with_reducible refine Br.dec_f ?_ ?_); focus walk_at "kn") | ((with_reducible refine Br.ndec_t ?_ ?_); focus walk_at "kn") | ((with_reducible refine Br.ndec_f ?_ ?_); focus walk_at "kn") | (with_reducible first | (refine Br.dec ?_ ?_ <;> intro _) | (refine Br.ndec ?_ ?_ <;> intro _)) | refine Br.t ?_ | refine Br.f ?_ | (with_reducible refine Br.mk ?_ ?_ <;> intro _))
local macro_rules | `(tactic| walk_at "st") => `(tactic| ((try (conv => whnf)); first
  | walk_at "br"
  | with_reducible (intro _)
  | (refine ⟨_, (by walk_at "has" : Has _ _ _), ?_⟩)
  | (refine ⟨_, (by walk_at "hasl" : HasL _ _ _), ?_⟩)
  | (refine ⟨_, _, (by walk_at "chg" : Chg _ _ _ _ _), ?_⟩)
  | (refine ⟨_, _, _, (by walk_at "chg" : Chg _ _ _ _ _), (by first | rfl | assumption : ixN _ _ = some _), ?_⟩)
  | (refine ⟨_, _, (by walk_at "sel" : Sel _ _ _ _), ?_⟩)
  | (refine ⟨_, _, _, (by walk_at "has" : Has _ _ _), (by assumption), ?_⟩)
  | (refine ⟨_, (by first | rfl | assumption : atI _ _ = some _), ?_⟩)
  | (refine And.intro (by walk_at "side") ?_)))
local macro_rules | `(tactic| walk_at "st2") => `(tactic| first | walk_at "st" | ((try (conv => whnf)); with_reducible refine And.intro ?_ ?_; rotate_left))
local macro_rules | `(tactic| walk_at "go") => `(tactic| first | ((try (conv => whnf)); walk_at "br" <;> walk_at "go") | (walk_at "st"; walk_at "go") | (conv => whnf) | skip)
local macro_rules | `(tactic| walk_at "st") => `(tactic| ((try (conv => whnf)); with_reducible refine And.intro (by first | (refine mulOk_r ?_ ?_ <;> omega) | (refine mulOk_l ?_ ?_ <;> omega)) ?_))
theorem depths_at {n : Nat} (h : n ≤ 63) : depthsN n 0 n ≤ 100000 ∧ depthsN n 1 n ≤ 100000 ∧ depthsN n 0 (n + 1) ≤ 100000 := by
  have := List.all_eq_true.mp depths_small n (List.mem_range.mpr (by omega))
  exact of_decide_eq_true this
theorem rd_law_step (cl : Cl) (ds : List D) (F R : LL) (Φ : DK) (h : S_law_step cl ds F R Φ) : t__law_step cl (endD Φ) (startD 9 ds) (F ++ R) := by
  obtain ⟨⟨a, b, c, d⟩, n, rfl, rfl, h1, h⟩ := h
  have hd : depthsN n 0 n ≤ 100000 ∧ depthsN n 1 n ≤ 100000 ∧ depthsN n 0 (n + 1) ≤ 100000 := depths_at h1
  obtain ⟨hd1, hd2, hd3⟩ := hd
  unfold stepN standsD at h
  dsimp only at h
  unfold standsD
  dsimp only
  generalize he1 : depthsN n 0 n = e1 at h hd1
  generalize he2 : depthsN n 1 n = e2 at h hd2
  generalize he3 : depthsN n 0 (n + 1) = e3 at h hd3
  walk_at "go"
  refine call_ways n 0 n .nil rfl rfl rfl (by omega) ?_
  rw [he1]
  walk_at "go"
  refine call_ways n 1 n .nil rfl rfl rfl (by omega) ?_
  rw [he2]
  walk_at "go"
  refine call_ways n 0 (n + 1) .nil rfl rfl (by omega) (by omega) ?_
  rw [he3]
  walk_at "go"
  refine Ret.mk _ ?_ h
  exact Cov.refl
end DL

namespace DL
open PySem PySem.Spec PyProof.Rows L2
local macro_rules | `(tactic| walk_at "has") => `(tactic| first | exact Has.here | (apply Has.there; walk_at "has"))
local macro_rules | `(tactic| walk_at "hasl") => `(tactic| first | (refine Or.inl ?_; walk_at "has") | (refine Or.inr ?_; walk_at "has"))
local macro_rules | `(tactic| walk_at "sel") => `(tactic| first | exact Sel.here | (apply Sel.there; walk_at "sel"))
local macro_rules | `(tactic| walk_at "chg") => `(tactic| first | exact Chg.here | (apply Chg.there; walk_at "chg"))
local macro_rules | `(tactic| walk_at "pull") => `(tactic| first | exact Pull.nil | (apply Pull.cons; (walk_at "sel"); exact rfl; walk_at "pull"))
local macro_rules | `(tactic| walk_at "cov") => `(tactic| first | exact Cov.refl | (apply Cov.take; (walk_at "sel"); (first | exact rfl | assumption); walk_at "cov") | (apply Cov.take; (walk_at "sel"); rotate_left; walk_at "cov") | (refine Cov.drop ?_; walk_at "cov"))
local macro_rules | `(tactic| walk_at "sub") => `(tactic| first | exact Sub.nil | (refine Sub.same (by first | rfl | assumption) ?_; walk_at "sub") | (refine Sub.any ?_; walk_at "sub") | (refine Sub.same ?_ ?_; rotate_left; walk_at "sub"))
local macro_rules | `(tactic| walk_at "side") => `(tactic| first | assumption | (with_reducible rfl) | omega | (refine mulOk_r ?_ ?_ <;> first | omega | decide) | (refine mulOk_l ?_ ?_ <;> first | omega | decide) | (refine divOk_of ?_ ?_ <;> first | omega | decide) | (refine ⟨?_, ?_⟩ <;> walk_at "side") | exact Eq.refl _ | (simp <;> omega) | decide)
local macro_rules | `(tactic| walk_at "kn") => `(tactic| first | assumption | decide | rfl)
local macro_rules | `(tactic| walk_at "br") => `(tactic| first | (with_reducible first | refine Br.t ?_ | refine Br.f ?_) | ((with_reducible refine Br.dec_t ?_ ?_); focus walk_at "kn") | ((with_reducible refine Br.dec_f ?_ ?_); focus walk_at "kn") | ((with_reducible refine Br.ndec_t ?_ ?_); focus walk_at "kn") | ((with_reducible refine Br.ndec_f ?_ ?_); focus walk_at "kn") | (with_reducible first | (refine Br.dec ?_ ?_ <;> intro _) | (refine Br.ndec ?_ ?_ <;> intro _)) | refine Br.t ?_ | refine Br.f ?_ | (with_reducible refine Br.mk ?_ ?_ <;> intro _))
local macro_rules | `(tactic| walk_at "st") => `(tactic| ((try (conv => whnf)); first
  | walk_at "br"
  | with_reducible (intro _)
  | (refine ⟨_, (by walk_at "has" : Has _ _ _), ?_⟩)
  | (refine ⟨_, (by walk_at "hasl" : HasL _ _ _), ?_⟩)
  | (refine ⟨_, _, (by walk_at "chg" : Chg _ _ _ _ _), ?_⟩)
  | (refine ⟨_, _, _, (by walk_at "chg" : Chg _ _ _ _ _), (by first | rfl | assumption : ixN _ _ = some _), ?_⟩)
  | (refine ⟨_, _, (by walk_at "sel" : Sel _ _ _ _), ?_⟩)
  | (refine ⟨_, _, _, (by walk_at "has" : Has _ _ _), (by assumption), ?_⟩)
  | (refine ⟨_, (by first | rfl | assumption : atI _ _ = some _), ?_⟩)
  | (refine And.intro (by walk_at "side") ?_)))
local macro_rules | `(tactic| walk_at "st2") => `(tactic| first | walk_at "st" | ((try (conv => whnf)); with_reducible refine And.intro ?_ ?_; rotate_left))
local macro_rules | `(tactic| walk_at "go") => `(tactic| first | ((try (conv => whnf)); walk_at "br" <;> walk_at "go") | (walk_at "st"; walk_at "go") | (conv => whnf) | skip)
theorem rd_law_sums (cl : Cl) (ds : List D) (F R : LL) (Φ : DK) (h : S_law_sums cl ds F R Φ) : t__law_sums cl (endD Φ) (startD 4 ds) (F ++ R) := by
  obtain ⟨rfl, rfl, h⟩ := h
  walk_at "go"
  rename_i p
  refine ForI.inv (α := Stands × List Int) (fun j x => [none, some (.ref p), some (standsD x.1), none]) (fun j x => (p, intsO x.2) :: R)
    (fun j x => x.2.length = 3 + j ∧ sumsGo (61 - j) (2 + j) x.1 x.2 = sumsN) (⟨1, 1, 0, 0⟩, [0, 0, 2]) (by walk_at "sub") (by walk_at "cov") ⟨rfl, rfl⟩ ?_ ?_
  · rintro j ⟨s, l⟩ d hd ⟨g1, g2⟩
    obtain ⟨hj, rfl⟩ := rgD_get hd
    dsimp only at g1 g2
    have hj' : j < 61 := by omega
    rw [show 61 - j = (61 - (j + 1)) + 1 by omega] at g2
    unfold sumsGo at g2
    refine ⟨trivial, ?_⟩
    walk_at "go"
    refine CtOf.mk [] _ .nil ⟨s, 2 + j, by congr 2, rfl, by omega, ?_⟩
    walk_at "go"
    refine ⟨_, atI_lastD (v := .int (l.getD (l.length - 1) 0)) ?_, ?_⟩
    · rw [List.getElem?_map, List.length_map]
      dsimp only
      rw [List.getElem?_eq_getElem (by omega), List.getD_eq_getElem?_getD, List.getElem?_eq_getElem (by omega)]
      rfl
    walk_at "go"
    have ex : l.map D.int ++ [D.int (l.getD (l.length - 1) 0 * (2 + (j : Int) + 1) + (stepN s (2 + j)).2)] = (l ++ [l.getD (l.length - 1) 0 * (((2 + j : Nat) : Int) + 1) + (stepN s (2 + j)).2]).map D.int := by
      rw [List.map_append, Int.natCast_add]
      rfl
    dsimp only
    rw [ex]
    refine Nx1.mk ((stepN s (2 + j)).1, l ++ [l.getD (l.length - 1) 0 * (((2 + j : Nat) : Int) + 1) + (stepN s (2 + j)).2]) ?_ (by walk_at "cov") ⟨by simp; omega, ?_⟩
    · walk_at "sub"
    · dsimp only
      rw [show 2 + (j + 1) = 2 + j + 1 by omega]
      exact g2
  · rintro ⟨s, l⟩ ⟨g1, g2⟩
    dsimp only at g1 g2
    rw [rgD_length] at g2
    have e : sumsGo (61 - ((63 : Int) - 2).toNat) (2 + ((63 : Int) - 2).toNat) s l = l := rfl
    rw [e] at g2
    subst g2
    refine ⟨trivial, ?_⟩
    walk_at "go"
    exact Ret.mk _ (by walk_at "cov") (h p)
end DL

namespace DL
open PySem PySem.Spec PyProof.Rows L2
local macro_rules | `(tactic| walk_at "has") => `(tactic| first | exact Has.here | (apply Has.there; walk_at "has"))
local macro_rules | `(tactic| walk_at "hasl") => `(tactic| first | (refine Or.inl ?_; walk_at "has") | (refine Or.inr ?_; walk_at "has"))
local macro_rules | `(tactic| walk_at "sel") => `(tactic| first | exact Sel.here | (apply Sel.there; walk_at "sel"))
local macro_rules | `(tactic| walk_at "chg") => `(tactic| first | exact Chg.here | (apply Chg.there; walk_at "chg"))
local macro_rules | `(tactic| walk_at "pull") => `(tactic| first | exact Pull.nil | (apply Pull.cons; (walk_at "sel"); exact rfl; walk_at "pull"))
local macro_rules | `(tactic| walk_at "cov") => `(tactic| first | exact Cov.refl | (apply Cov.take; (walk_at "sel"); (first | exact rfl | assumption); walk_at "cov") | (apply Cov.take; (walk_at "sel"); rotate_left; walk_at "cov") | (refine Cov.drop ?_; walk_at "cov"))
local macro_rules | `(tactic| walk_at "sub") => `(tactic| first | exact Sub.nil | (refine Sub.same (by first | rfl | assumption) ?_; walk_at "sub") | (refine Sub.any ?_; walk_at "sub") | (refine Sub.same ?_ ?_; rotate_left; walk_at "sub"))
local macro_rules | `(tactic| walk_at "side") => `(tactic| first | assumption | (with_reducible rfl) | omega | (refine mulOk_r ?_ ?_ <;> first | omega | decide) | (refine mulOk_l ?_ ?_ <;> first | omega | decide) | (refine divOk_of ?_ ?_ <;> first | omega | decide) | (refine ⟨?_, ?_⟩ <;> walk_at "side") | exact Eq.refl _ | (simp <;> omega) | decide)
local macro_rules | `(tactic| walk_at "kn") => `(tactic| first | assumption | decide | rfl)
local macro_rules | `(tactic| walk_at "br") => `(tactic| first | (with_reducible first | refine Br.t ?_ | refine Br.f ?_) | ((with_reducible refine Br.dec_t ?_ ?_); focus walk_at "kn") | ((with_reducible refine Br.dec_f ?_ ?_); focus walk_at "kn") | ((with_reducible refine Br.ndec_t ?_ ?_); focus walk_at "kn") | ((with_reducible refine Br.ndec_f ?_ ?_); focus walk_at "kn") | (with_reducible first | (refine Br.dec ?_ ?_ <;> intro _) | (refine Br.ndec ?_ ?_ <;> intro _)) | refine Br.t ?_ | refine Br.f ?_ | (with_reducible refine Br.mk ?_ ?_ <;> intro _))
local macro_rules | `(tactic| walk_at "st") => `(tactic| ((try (conv => whnf)); first
  | walk_at "br"
  | with_reducible (intro _)
  | (refine ⟨_, (by walk_at "has" : Has _ _ _), ?_⟩)
  | (refine ⟨_, (by walk_at "hasl" : HasL _ _ _), ?_⟩)
  | (refine ⟨_, _, (by walk_at "chg" : Chg _ _ _ _ _), ?_⟩)
  | (refine ⟨_, _, _, (by walk_at "chg" : Chg _ _ _ _ _), (by first | rfl | assumption : ixN _ _ = some _), ?_⟩)
  | (refine ⟨_, _, (by walk_at "sel" : Sel _ _ _ _), ?_⟩)
  | (refine ⟨_, _, _, (by walk_at "has" : Has _ _ _), (by assumption), ?_⟩)
  | (refine ⟨_, (by first | rfl | assumption : atI _ _ = some _), ?_⟩)
  | (refine And.intro (by walk_at "side") ?_)))
local macro_rules | `(tactic| walk_at "st2") => `(tactic| first | walk_at "st" | ((try (conv => whnf)); with_reducible refine And.intro ?_ ?_; rotate_left))
local macro_rules | `(tactic| walk_at "go") => `(tactic| first | ((try (conv => whnf)); walk_at "br" <;> walk_at "go") | (walk_at "st"; walk_at "go") | (conv => whnf) | skip)
theorem Has.app {P M : LL} {a : Addr} {o : LO} (h : Has M a o) : Has (P ++ M) a o := Has.of_mem (List.mem_append_right _ h.mem)
theorem Has.appl {P M : LL} {a : Addr} {o : LO} (h : Has P a o) : Has (P ++ M) a o := Has.of_mem (List.mem_append_left _ h.mem)
theorem Sel.of_mem {a : Addr} {o : LO} : ∀ {L : LL}, (a, o) ∈ L → ∃ L1, Sel L a o L1
  | x :: L, h => by
    rcases List.mem_cons.mp h with h | h
    · subst h
      exact ⟨_, .here⟩
    · obtain ⟨L1, s⟩ := Sel.of_mem h
      exact ⟨_, .there s⟩
theorem Cov.of_perm : ∀ {M L : LL}, L.Perm M → Cov L M
  | [], L, h => by rw [h.eq_nil]; exact .refl
  | (a, o) :: M, L, h => by
    obtain ⟨L1, s⟩ := Sel.of_mem (h.mem_iff.mpr List.mem_cons_self)
    exact .take s rfl (Cov.of_perm ((s.perm.symm.trans h).cons_inv))
theorem Cov.nil : ∀ {L : LL}, Cov L []
  | [] => .refl
  | _ :: _ => .drop Cov.nil
theorem Cov.of_permG {G : LL} : ∀ {M L : LL}, L.Perm (M ++ G) → Cov L M
  | [], L, _ => Cov.nil
  | (a, o) :: M, L, h => by
    obtain ⟨L1, s⟩ := Sel.of_mem (h.mem_iff.mpr List.mem_cons_self)
    exact .take s rfl (Cov.of_permG ((s.perm.symm.trans h).cons_inv))
theorem Cov.mid (A B R : LL) : Cov (A ++ (B ++ R)) (A ++ R) := by
  refine Cov.of_permG (G := B) ?_
  rw [List.append_assoc]
  exact List.perm_append_comm.append_left A
theorem cellI_append (a b : List (Addr × List Int)) : cellI (a ++ b) = cellI a ++ cellI b := List.map_append
theorem refsI_append (a b : List (Addr × List Int)) : refsI (a ++ b) = refsI a ++ refsI b := List.map_append
theorem cellI_mem {c : Addr × List Int} {cs : List (Addr × List Int)} (h : c ∈ cs) : Has (cellI cs) c.1 (intsO c.2) := Has.of_mem (List.mem_map_of_mem h)
theorem orders_len : (List.range 7).all (fun j => decide ((ordersN j).length ≤ 720) && (ordersN j).all fun r => decide (r.length = j)) = true := by decide +kernel
theorem orders_at {j : Nat} (h : j ≤ 6) : (ordersN j).length ≤ 720 ∧ ∀ r ∈ ordersN j, r.length = j := by
  have := List.all_eq_true.mp orders_len j (List.mem_range.mpr (by omega))
  rw [Bool.and_eq_true] at this
  exact ⟨of_decide_eq_true this.1, fun r hr => of_decide_eq_true (List.all_eq_true.mp this.2 r hr)⟩
theorem rd_law_orders (cl : Cl) (ds : List D) (F R : LL) (Φ : DK) (h : S_law_orders cl ds F R Φ) : t__law_orders cl (endD Φ) (startD 7 ds) (F ++ R) := by
  obtain ⟨n, rfl, rfl, h1, h⟩ := h
  walk_at "go"
  rename_i q0 p0
  refine ForI.inv (α := Addr × List (Addr × List Int)) (fun j x => [some (.int n), some (.ref x.1), none, none, none, none, none]) (fun j x => (x.1, .lst (refsI x.2.reverse)) :: (cellI x.2 ++ R))
    (fun j x => x.2.reverse.map (·.2) = ordersN j) (p0, [(q0, [])]) (by walk_at "sub") (by walk_at "cov") rfl ?_ ?_
  · rintro j ⟨p, cs⟩ d hd g1
    obtain ⟨hj, rfl⟩ := rgD_get hd
    dsimp only at g1
    have hj' : j < 6 := by omega
    obtain ⟨hlen, hrows⟩ := orders_at (by omega : j ≤ 6)
    rw [← g1, List.length_map, List.length_reverse] at hlen
    refine ⟨trivial, ?_⟩
    walk_at "go"
    rename_i r0
    refine ForI.inv (α := Addr × List (Addr × List Int)) (fun i x => [some (.int n), some (.ref p), some (.int j), some (.ref x.1), none, none, none])
      (fun i x => (x.1, .lst (refsI x.2.reverse)) :: (p, .lst (refsI cs.reverse)) :: (cellI x.2 ++ (cellI cs ++ R)))
      (fun i x => x.2.length = i * (j + 1) ∧ x.2.reverse.map (·.2) = (cs.reverse.take i).flatMap fun c => (List.range (j + 1)).map fun pl => bumpN c.2 (pl : Nat)) (r0, []) ?_ (by walk_at "cov") ⟨by simp, by simp⟩ ?_ ?_
    · walk_at "sub"
      congr 2
      omega
    · rintro i ⟨r, es⟩ d hd2 ⟨g2, g3⟩
      dsimp only at g2 g3
      have hd3 : (cs.reverse.map fun c => D.ref c.1)[i]? = some d := hd2
      rw [List.getElem?_map] at hd3
      obtain ⟨c, hc, rfl⟩ := Option.map_eq_some_iff.mp hd3
      have hil := (List.getElem?_eq_some_iff.mp hc).1
      rw [List.length_reverse] at hil
      have hcm : c ∈ cs := List.mem_reverse.mp (List.mem_of_getElem? hc)
      have hrow0 : Has (cellI cs ++ R) c.1 (intsO c.2) := (cellI_mem hcm).appl
      have hcl : c.2.length = j := hrows _ (by rw [← g1]; exact List.mem_map_of_mem (List.mem_reverse.mpr hcm))
      have hes : es.length ≤ 720 * 6 := by
        rw [g2]
        exact Nat.mul_le_mul (by omega) (by omega)
      refine ⟨.inl (.there .here), ?_⟩
      walk_at "go"
      rename_i m
      refine LcI.inv (α := List (Addr × List Int)) (fun t gs => (m, .lst (refsI gs.reverse)) :: (r, .lst (refsI es.reverse)) :: (p, .lst (refsI cs.reverse)) :: (cellI gs ++ (cellI es ++ (cellI cs ++ R))))
        (fun t gs => gs.length = t ∧ gs.reverse.map (·.2) = (List.range t).map fun pl => bumpN c.2 (pl : Nat)) [] (by walk_at "cov") ⟨rfl, rfl⟩ ?_ ?_
      · rintro t gs d hd4 ⟨g4, g5⟩
        obtain ⟨ht, rfl⟩ := rgD_get hd4
        refine ⟨trivial, ?_⟩
        walk_at "go"
        refine ⟨_, .inl (by repeat first | exact hrow0 | apply Has.there | apply Has.app), ?_⟩
        walk_at "go"
        refine LcI.pure (xs := c.2) (toD := .int) (out := fun x => .int (x + if decide ((0 : Int) + (t : Int) ≤ x) = true then 1 else 0)) rfl (fun _ => .inl (by repeat first | exact hrow0 | apply Has.there | apply Has.app)) (by omega) ?_ ?_
        · intro x _ acc Ψ hk
          walk_at "go"
          exact hk _ .refl
        have hgl : (refsI gs.reverse).length ≤ 1000000 := by
          unfold refsI
          rw [List.length_map, List.length_reverse]
          omega
        have hcl2 : (c.2.map fun x => D.int (x + if decide ((0 : Int) + (t : Int) ≤ x) = true then 1 else 0)).length ≤ 1000 := by
          rw [List.length_map]
          omega
        have eb : (c.2.map fun x => D.int (x + if decide ((0 : Int) + (t : Int) ≤ x) = true then 1 else 0)) ++ [D.int (0 + (t : Int))] = (bumpN c.2 (t : Nat)).map D.int := by
          unfold bumpN
          rw [List.map_append, List.map_map, Int.zero_add]
          congr 1
          refine List.map_congr_left fun x _ => ?_
          show D.int _ = D.int _
          congr 2
          by_cases z : (t : Int) ≤ x
          · rw [if_pos (decide_eq_true z), if_pos z]
          · rw [if_neg (by rw [decide_eq_false z]; decide), if_neg z]
        generalize (c.2.map fun x => D.int (x + if decide ((0 : Int) + (t : Int) ≤ x) = true then 1 else 0)) = bs at hcl2 eb ⊢
        walk_at "go"
        rename_i k
        rw [eb]
        refine NxL.mk ((k, bumpN c.2 (t : Nat)) :: gs) ?_ ⟨by simp [g4], ?_⟩
        · have e2 : refsI ((k, bumpN c.2 (t : Nat)) :: gs).reverse = refsI gs.reverse ++ [D.ref k] := by
            rw [List.reverse_cons, refsI_append]
            rfl
          rw [e2]
          show Cov _ (_ :: _ :: _ :: (k, intsO (bumpN c.2 (t : Nat))) :: (cellI gs ++ (cellI es ++ (cellI cs ++ R))))
          walk_at "cov"
        · rw [List.reverse_cons, List.map_append, g5, List.range_succ, List.map_append]
          rfl
      · rintro gs ⟨g4, g5⟩
        rw [rgD_length, show ((j : Int) + 1 - 0).toNat = j + 1 by omega] at g4 g5
        have hgl : (refsI gs.reverse).length ≤ 1000 := by
          unfold refsI
          rw [List.length_map, List.length_reverse]
          omega
        have hel : (refsI es.reverse).length ≤ 10000 := by
          unfold refsI
          rw [List.length_map, List.length_reverse]
          omega
        refine ⟨trivial, ?_⟩
        walk_at "go"
        rename_i k
        refine Nx1.mk (k, gs ++ es) (by walk_at "sub") ?_ ⟨?_, ?_⟩
        · have e2 : refsI (gs ++ es).reverse = refsI es.reverse ++ refsI gs.reverse := by rw [List.reverse_append, refsI_append]
          dsimp only
          rw [e2, cellI_append, List.append_assoc]
          walk_at "cov"
        · dsimp only
          rw [List.length_append, g4, g2, Nat.succ_mul]
          omega
        · dsimp only
          rw [List.reverse_append, List.map_append, g3, g5, List.take_add_one, hc, List.flatMap_append]
          simp
    · rintro ⟨r, es⟩ ⟨g2, g3⟩
      refine ⟨.inl (.there .here), ?_⟩
      walk_at "go"
      refine Nx1.mk (r, es) (by walk_at "sub") ?_ ?_
      · refine .take .here rfl ?_
        refine .drop ?_
        dsimp only
        exact Cov.mid _ _ _
      · show es.reverse.map (·.2) = ordersN (j + 1)
        have hll : (refsI cs.reverse).length = cs.reverse.length := by simp [refsI]
        dsimp only at g3
        rw [hll, List.take_length] at g3
        rw [g3]
        show _ = (ordersN j).flatMap _
        rw [← g1, List.flatMap_map]
  · rintro ⟨p, cs⟩ g1
    rw [rgD_length, show ((n : Int) - 0).toNat = n by omega] at g1
    refine ⟨trivial, ?_⟩
    walk_at "go"
    refine Ret.mk _ ?_ (h p cs.reverse g1)
    refine .take .here rfl ?_
    exact Cov.of_perm ((cs.reverse_perm.symm.map _).append_right _)
end DL

namespace DL
open PySem PySem.Spec PyProof.Rows L2
local macro_rules | `(tactic| walk_at "has") => `(tactic| first | exact Has.here | (apply Has.there; walk_at "has"))
local macro_rules | `(tactic| walk_at "hasl") => `(tactic| first | (refine Or.inl ?_; walk_at "has") | (refine Or.inr ?_; walk_at "has"))
local macro_rules | `(tactic| walk_at "sel") => `(tactic| first | exact Sel.here | (apply Sel.there; walk_at "sel"))
local macro_rules | `(tactic| walk_at "chg") => `(tactic| first | exact Chg.here | (apply Chg.there; walk_at "chg"))
local macro_rules | `(tactic| walk_at "pull") => `(tactic| first | exact Pull.nil | (apply Pull.cons; (walk_at "sel"); exact rfl; walk_at "pull"))
local macro_rules | `(tactic| walk_at "cov") => `(tactic| first | exact Cov.refl | (apply Cov.take; (walk_at "sel"); (first | exact rfl | assumption); walk_at "cov") | (apply Cov.take; (walk_at "sel"); rotate_left; walk_at "cov") | (refine Cov.drop ?_; walk_at "cov"))
local macro_rules | `(tactic| walk_at "sub") => `(tactic| first | exact Sub.nil | (refine Sub.same (by first | rfl | assumption) ?_; walk_at "sub") | (refine Sub.any ?_; walk_at "sub") | (refine Sub.same ?_ ?_; rotate_left; walk_at "sub"))
local macro_rules | `(tactic| walk_at "side") => `(tactic| first | assumption | (with_reducible rfl) | omega | (refine mulOk_r ?_ ?_ <;> first | omega | decide) | (refine mulOk_l ?_ ?_ <;> first | omega | decide) | (refine divOk_of ?_ ?_ <;> first | omega | decide) | (refine ⟨?_, ?_⟩ <;> walk_at "side") | exact Eq.refl _ | (simp <;> omega) | decide)
local macro_rules | `(tactic| walk_at "kn") => `(tactic| first | assumption | decide | rfl)
local macro_rules | `(tactic| walk_at "br") => `(tactic| first | (with_reducible first | refine Br.t ?_ | refine Br.f ?_) | ((with_reducible refine Br.dec_t ?_ ?_); focus walk_at "kn") | ((with_reducible refine Br.dec_f ?_ ?_); focus walk_at "kn") | ((with_reducible refine Br.ndec_t ?_ ?_); focus walk_at "kn") | ((with_reducible refine Br.ndec_f ?_ ?_); focus walk_at "kn") | (with_reducible first | (refine Br.dec ?_ ?_ <;> intro _) | (refine Br.ndec ?_ ?_ <;> intro _)) | refine Br.t ?_ | refine Br.f ?_ | (with_reducible refine Br.mk ?_ ?_ <;> intro _))
local macro_rules | `(tactic| walk_at "st") => `(tactic| ((try (conv => whnf)); first
  | walk_at "br"
  | with_reducible (intro _)
  | (refine ⟨_, (by walk_at "has" : Has _ _ _), ?_⟩)
  | (refine ⟨_, (by walk_at "hasl" : HasL _ _ _), ?_⟩)
  | (refine ⟨_, _, (by walk_at "chg" : Chg _ _ _ _ _), ?_⟩)
  | (refine ⟨_, _, _, (by walk_at "chg" : Chg _ _ _ _ _), (by first | rfl | assumption : ixN _ _ = some _), ?_⟩)
  | (refine ⟨_, _, (by walk_at "sel" : Sel _ _ _ _), ?_⟩)
  | (refine ⟨_, _, _, (by walk_at "has" : Has _ _ _), (by assumption), ?_⟩)
  | (refine ⟨_, (by first | rfl | assumption : atI _ _ = some _), ?_⟩)
  | (refine And.intro (by walk_at "side") ?_)))
local macro_rules | `(tactic| walk_at "st2") => `(tactic| first | walk_at "st" | ((try (conv => whnf)); with_reducible refine And.intro ?_ ?_; rotate_left))
local macro_rules | `(tactic| walk_at "go") => `(tactic| first | ((try (conv => whnf)); walk_at "br" <;> walk_at "go") | (walk_at "st"; walk_at "go") | (conv => whnf) | skip)
theorem call_sum {cl : Cl} {L R : LL} {Φ : DK} {a : Int} (n : Nat) (hp : Pull L [] R) (ea : a = n) (h1 : n ≤ 63) (k : Φ (.int (sumOf n)) R) : CtOf (S_sum_of cl) [.int a] L Φ := by
  subst ea
  exact ⟨_, _, hp, n, rfl, rfl, h1, k⟩
theorem call_sorted76 {cl : Cl} {L R : LL} {Φ : DK} {q : Addr} {ms : List Int} (hp : Pull L [(q, intsO ms), tabDue cl] R) (h1 : 1 ≤ ms.length) (h2 : ms.length ≤ 63) (k : Φ (.int (lawCount ms)) ([(q, intsO ms), tabDue cl] ++ R)) : CtOf (S_law_sorted_count cl) [.ref q] L Φ :=
  ⟨_, _, hp, q, ms, rfl, rfl, ⟨h1, h2⟩, k⟩
theorem call_count {cl : Cl} {L R : LL} {Φ : DK} {q : Addr} {ms : List Int} {b : Bool} (hp : Pull L [(q, intsO ms)] R) (h2 : ms.length ≤ 63) (k : Φ (.int (goRun ms (rowB b ms.length)).2.length) ([(q, intsO ms)] ++ R)) : CtOf (S_count_of cl) [.ref q, .bl b] L Φ :=
  ⟨_, _, hp, .ref q, ms, b, rfl, .inl ⟨q, rfl, rfl⟩, h2, k⟩
theorem sum_at {n : Nat} (h : n ≤ 63) : sumOf n = sumsN.getD n 0 :=
  of_decide_eq_true (List.all_eq_true.mp sums_eq n (List.mem_range.mpr (by omega)))
theorem drawAll_step {f i : Nat} {left r : List Int} (h : i < left.length) (hr : r ∈ drawAll f (left.eraseIdx i)) : left.getD i 0 :: r ∈ drawAll (f + 1) left :=
  List.mem_flatMap.mpr ⟨i, List.mem_range.mpr h, List.mem_map_of_mem hr⟩
theorem sums_nonneg : (List.range 64).all (fun n => decide (0 ≤ sumsN.getD n 0)) = true := by decide +kernel
theorem orders_sum {n : Nat} (h1 : 1 ≤ n) (h2 : n ≤ 6) : ((((ordersN n).map lawCount).sum : Nat) : Int) = sumsN.getD n 0 := by
  have a := of_decide_eq_true (List.all_eq_true.mp orders_eq (n - 1) (List.mem_range.mpr (by omega)))
  have b := of_decide_eq_true (List.all_eq_true.mp sums_nonneg n (List.mem_range.mpr (by omega)))
  rw [show n - 1 + 1 = n by omega] at a
  rw [a]
  exact Int.toNat_of_nonneg b
def startI (n : Nat) : List Int := (List.range n).map fun i : Nat => (i : Int)
theorem draw_good {n : Nat} {ms : List Int} (hn : n = 5 ∨ n = 6) (h : ms ∈ drawAll n (startI n)) : (goRun ms (rowB false ms.length)).2.length = lawCount ms ∧ (lawCount ms : Int) ≤ sumsN.getD ms.length 0 := by
  have g : goodRow ms = true := by
    rcases hn with rfl | rfl
    · exact List.all_eq_true.mp rows5 ms h
    · exact List.all_eq_true.mp rows6 ms h
  unfold goodRow at g
  rw [Bool.and_eq_true] at g
  exact ⟨of_decide_eq_true g.1, of_decide_eq_true g.2⟩
theorem erase_map : ∀ (l : List Int) (k : Nat), (l.map D.int).eraseIdx k = (l.eraseIdx k).map D.int
  | [], _ => rfl
  | _ :: _, 0 => rfl
  | a :: l, k + 1 => by
    show D.int a :: (l.map D.int).eraseIdx k = D.int a :: (l.eraseIdx k).map D.int
    rw [erase_map l k]
theorem rd_law76 (cl : Cl) (ds : List D) (F R : LL) (Φ : DK) (h : S_law76 cl ds F R Φ) : t_law76 cl (endD Φ) (startD 9 ds) (F ++ R) := by
  obtain ⟨a, ns, rfl, hF, hz, h⟩ := h
  obtain ⟨xs, hx, hxl⟩ : ∃ xs : List Int, cutD (ns.map D.int ++ [.int 0]) none (some 4) = xs.map D.int ∧ xs.length ≤ 64 := by
    have e : ns.map D.int ++ [.int 0] = (ns ++ [0]).map D.int := by simp
    refine ⟨(ns ++ [0]).take 4, ?_, by simp; omega⟩
    rw [e, List.map_take]
    exact cutD_toAny 4 rfl
  have hz2 : (ns.map D.int).length ≤ 63 := by simpa using hz
  have hs1 : ∀ n ≤ 63, sumOf n = sumsN.getD n 0 := fun n h => sum_at h
  have hs2 := sumsN_length
  have hs3 : ∀ n, 1 ≤ n → n ≤ 6 → ((((ordersN n).map lawCount).sum : Nat) : Int) = sumsN.getD n 0 := fun n h1 h2 => orders_sum h1 h2
  have hs4 : ∀ n ms, (n = 5 ∨ n = 6) → ms ∈ drawAll n (startI n) → (goRun ms (rowB false ms.length)).2.length = lawCount ms ∧ (lawCount ms : Int) ≤ sumsN.getD ms.length 0 := fun n ms hn h => draw_good hn h
  rcases hF with rfl | rfl
  all_goals
    walk_at "go"
    refine CtOf.mk [] _ .nil ⟨rfl, rfl, ?_⟩
    intro pS
    generalize sumsN = sm at hs1 hs2 hs3 hs4 ⊢
    walk_at "go"
    refine ForI.inv (α := Unit) (fun j _ => [some (.ref a), some (.ref pS), none, none, none, none, none, none, none]) (fun _ _ => (pS, intsO sm) :: ([_, tabDue cl] ++ R)) (fun _ _ => True) () (by walk_at "sub") .refl trivial ?_ ?_
    · intro j _ d hd _
      obtain ⟨hj, rfl⟩ := rgD_get hd
      have hj' : j < 8 := by omega
      refine ⟨trivial, ?_⟩
      walk_at "go"
      refine call_sum j .nil (by omega) (by omega) ?_
      rw [hs1 j (by omega)]
      walk_at "go"
      refine ⟨_, atI_int j (by omega) (by omega), ?_⟩
      walk_at "go"
      exact Nx1.mk () (by walk_at "sub") .refl trivial
    intro _ _
    refine ⟨trivial, ?_⟩
    walk_at "go"
    refine ForI.inv (α := Unit) (fun j _ => [some (.ref a), some (.ref pS), none, none, none, none, none, none, none]) (fun _ _ => (pS, intsO sm) :: ([_, tabDue cl] ++ R)) (fun _ _ => True) () (by walk_at "sub") .refl trivial ?_ ?_
    · intro j _ d hd _
      obtain ⟨hj, rfl⟩ := rgD_get hd
      have hj' : j < 6 := by omega
      refine ⟨trivial, ?_⟩
      walk_at "go"
      refine CtOf.mk [] _ .nil ⟨1 + j, by congr 2, rfl, by omega, ?_⟩
      intro p cs hcs
      have hcl : cs.length ≤ 720 := by
        have := (orders_at (by omega : 1 + j ≤ 6)).1
        rw [← hcs, List.length_map] at this
        exact this
      have hcr : ∀ c ∈ cs, c.2.length = 1 + j := fun c hc => (orders_at (by omega : 1 + j ≤ 6)).2 _ (by rw [← hcs]; exact List.mem_map_of_mem hc)
      walk_at "go"
      rename_i m
      refine LcI.pure (xs := cs) (toD := fun c => .ref c.1) (out := fun c => .int (lawCount c.2 : Nat)) rfl (fun _ => .inl (.there .here)) (by omega) ?_ ?_
      · intro c hc acc Ψ hk
        have hl1 := hcr c hc
        obtain ⟨L1, hs⟩ := Sel.of_mem (L := cellI cs ++ ((pS, intsO sm) :: ([_, tabDue cl] ++ R))) (cellI_mem hc).appl.mem
        obtain ⟨L2, hs2⟩ := Sel.of_mem (L := L1) (a := 0) (o := .gh (TabG cl atDue)) (by
          rcases List.mem_cons.mp (hs.perm.mem_iff.mp (List.mem_append_right _ (.tail _ (.tail _ (.head _))))) with z | z
          · exact absurd (congrArg Prod.snd z) (by intro w; cases w)
          · exact z)
        walk_at "go"
        refine call_sorted76 (.cons (.there (.there hs)) rfl (.cons (.there (.there hs2)) rfl .nil)) (by omega) (by omega) ?_
        walk_at "go"
        refine hk _ ?_
        refine .take (.there (.there .here)) rfl (.take (.there (.there .here)) rfl (Cov.of_perm ?_))
        exact (hs.perm.trans (hs2.perm.cons _)).symm
      walk_at "go"
      refine ⟨cs.map fun c => ((lawCount c.2 : Nat) : Int), by rw [List.map_map]; rfl, ?_⟩
      have es : (cs.map fun c => ((lawCount c.2 : Nat) : Int)).sum = sm.getD (1 + j) 0 := by
        rw [← hs3 (1 + j) (by omega) (by omega), ← hcs, List.map_map]
        clear hcs hcl hcr
        induction cs with
        | nil => rfl
        | cons a r ih => simp only [List.map_cons, List.sum_cons, ih]; simp
      dsimp only
      rw [es]
      walk_at "go"
      refine ⟨_, .inl (.there (.there (Has.app .here))), ?_⟩
      walk_at "go"
      refine ⟨_, atI_int (1 + j) (by omega) (by omega), ?_⟩
      walk_at "go"
      exact Nx1.mk () (by walk_at "sub") (.drop (.drop (Cov.of_permG List.perm_append_comm))) trivial
    intro _ _
    refine ⟨trivial, ?_⟩
    walk_at "go"
    rename_i p5 p6 p7
    rw [hx]
    refine ForI.inv (α := Unit) (fun i x => [none, some (.ref pS), none, none, none, none, none, none, none]) (fun i x => (p7, intsO xs) :: (pS, intsO sm) :: tabDue cl :: R) (fun i x => True) () (by walk_at "sub") (by walk_at "cov") trivial ?_ ?_
    · rintro i _ d hd _
      obtain ⟨e, he, rfl⟩ := enumD_get hd
      rw [List.getElem?_map] at he
      obtain ⟨c, hc, rfl⟩ := Option.map_eq_some_iff.mp he
      refine ⟨by walk_at "hasl", ?_⟩
      walk_at "go"
      refine CtOf.mk [] _ .nil ⟨c, rfl, rfl, ?_⟩
      intro p a0 b0
      walk_at "go"
      rename_i m
      refine LcI.inv (α := List Int × Int × Int × Int) (fun t x => (m, intsO x.1) :: (p, srcO x.2.1 x.2.2.1 x.2.2.2) :: (p7, intsO xs) :: (pS, intsO sm) :: tabDue cl :: R) (fun t x => x.1.length = t ∧ ∀ y ∈ x.1, 0 ≤ y ∧ y < 64) ([], a0, b0, 0) (by walk_at "cov") ⟨rfl, fun y hy => (by cases hy)⟩ ?_ ?_
      · rintro t ⟨ys, a1, b1, n1⟩ d hd2 ⟨g1, g2⟩
        dsimp only at g1 g2
        obtain ⟨ht, rfl⟩ := rgD_get hd2
        have ht' : t < 2 := by
          revert ht
          split <;> omega
        refine ⟨trivial, ?_⟩
        walk_at "go"
        refine call_draw (by walk_at "pull") (by decide) (by decide) ?_
        intro y a2 b2 n2 hy1 hy2
        have hyl : (ys.map D.int).length ≤ 1000 := by rw [List.length_map]; omega
        walk_at "go"
        have ey : ys.map D.int ++ [D.int y] = (ys ++ [y]).map D.int := by simp
        dsimp only
        rw [ey]
        refine NxL.mk (ys ++ [y], a2, b2, n2) (by walk_at "cov") ⟨by simp; omega, ?_⟩
        intro z hz
        rcases List.mem_append.mp hz with z1 | z1
        · exact g2 z z1
        · rw [List.mem_singleton.mp z1]
          exact ⟨hy1, hy2⟩
      · rintro ⟨ys, a1, b1, n1⟩ ⟨g1, g2⟩
        dsimp only at g1 g2
        refine ⟨trivial, ?_⟩
        walk_at "go"
        refine ForI.inv (α := Unit) (fun _ _ => [none, some (.ref pS), none, none, none, some (.ref p), none, none, none]) (fun _ _ => (m, intsO ys) :: (p, srcO a1 b1 n1) :: (p7, intsO xs) :: (pS, intsO sm) :: tabDue cl :: R) (fun _ _ => True) () (by walk_at "sub") .refl trivial ?_ ?_
        · intro k _ d hd3 _
          dsimp only at hd3
          rw [List.getElem?_map] at hd3
          obtain ⟨y, hy, rfl⟩ := Option.map_eq_some_iff.mp hd3
          have hyb := g2 y (List.mem_of_getElem? hy)
          refine ⟨.inl .here, ?_⟩
          walk_at "go"
          refine call_sum y.toNat .nil (by omega) (by omega) ?_
          rw [hs1 y.toNat (by omega)]
          walk_at "go"
          refine ⟨_, atI_int y.toNat (by omega) (by omega), ?_⟩
          walk_at "go"
          exact Nx1.mk () (by walk_at "sub") .refl trivial
        intro _ _
        refine ⟨.inl .here, ?_⟩
        walk_at "go"
        refine call_draw (by walk_at "pull") (by decide) (by decide) ?_
        intro d2 a2 b2 n2 hd21 hd22
        obtain ⟨N, hN, eN⟩ : ∃ N : Nat, (N = 5 ∨ N = 6) ∧ 5 + d2 = (N : Int) := ⟨(5 + d2).toNat, by omega, by omega⟩
        have eR : rgD 0 (5 + d2) = (startI N).map D.int := by
          rw [eN, rgD_nat]
          unfold startI
          rw [List.map_map]
          rfl
        have hNl : (startI N).length = N := by simp [startI]
        have hbd : 5 + d2 ≤ 1000000 ∧ -1000000 ≤ 5 + d2 := by omega
        clear hd21 hd22
        walk_at "go"
        rw [eR, List.length_map, hNl]
        walk_at "go"
        rename_i pl pg
        refine ForI.inv (α := List Int × List Int × Int × Int × Int) (fun _ _ => [none, some (.ref pS), none, none, none, some (.ref p), none, some (.ref pl), some (.ref pg)])
          (fun _ x => (pl, intsO x.1) :: (pg, intsO x.2.1) :: (p, srcO x.2.2.1 x.2.2.2.1 x.2.2.2.2) :: (p7, intsO xs) :: (pS, intsO sm) :: tabDue cl :: R)
          (fun j x => x.1.length + j = N ∧ x.2.1.length = j ∧ ∀ r ∈ drawAll x.1.length x.1, x.2.1 ++ r ∈ drawAll N (startI N)) (startI N, [], a2, b2, n2) (by walk_at "sub") (by walk_at "cov") ⟨hNl, rfl, by rw [hNl]; exact fun r hr => hr⟩ ?_ ?_
        · rintro j ⟨left, gv, a3, b3, n3⟩ d hd4 ⟨g3, g4, g5⟩
          dsimp only at g3 g4 g5
          obtain ⟨hj, rfl⟩ := rgD_get hd4
          have hj' : j < N := by omega
          have hll : ((left.map D.int).length : Int) = left.length := by simp
          refine ⟨trivial, ?_⟩
          walk_at "go"
          rw [hll]
          refine call_draw (by walk_at "pull") (by omega) (by omega) ?_
          intro d5 a5 b5 n5 h51 h52
          obtain ⟨k, rfl⟩ : ∃ k : Nat, d5 = k := ⟨d5.toNat, by omega⟩
          have hk : k < left.length := by omega
          walk_at "go"
          have hex : (left.map D.int)[k]? = some (.int (left.getD k 0)) := by
            rw [List.getElem?_map, List.getElem?_eq_getElem hk, List.getD_eq_getElem?_getD, List.getElem?_eq_getElem hk]
            rfl
          refine ⟨_, _, k, (by walk_at "chg"), ixN_of k rfl (by rw [List.length_map]; exact hk), .int (left.getD k 0), hex, by rw [List.length_map]; omega, ?_⟩
          rw [erase_map]
          have hgl : (gv.map D.int).length ≤ 1000 := by rw [List.length_map]; omega
          walk_at "go"
          have eg : gv.map D.int ++ [D.int (left.getD k 0)] = (gv ++ [left.getD k 0]).map D.int := by simp
          dsimp only
          rw [eg]
          have hel : (left.eraseIdx k).length = left.length - 1 := List.length_eraseIdx_of_lt hk
          refine Nx1.mk (left.eraseIdx k, gv ++ [left.getD k 0], a5, b5, n5) (by walk_at "sub") (by walk_at "cov") ⟨by dsimp only; omega, by simp; omega, ?_⟩
          intro r hr
          dsimp only at hr ⊢
          rw [List.append_assoc]
          refine g5 _ ?_
          have := drawAll_step hk hr
          rwa [hel, show left.length - 1 + 1 = left.length by omega] at this
        · rintro ⟨left, gv, a3, b3, n3⟩ ⟨g3, g4, g5⟩
          rw [rgD_length] at g3 g4
          dsimp only at g3 g4 g5
          have hl0 : left = [] := List.eq_nil_of_length_eq_zero (by omega)
          subst hl0
          have hgv := hs4 N gv hN (by have := g5 [] List.mem_cons_self; rwa [List.append_nil] at this)
          have hgl : gv.length = N := by omega
          refine ⟨trivial, ?_⟩
          walk_at "go"
          refine call_count (ms := gv) (by walk_at "pull") (by omega) ?_
          rw [hgv.1]
          walk_at "go"
          refine call_sorted76 (ms := gv) (by walk_at "pull") (by omega) (by omega) ?_
          walk_at "go"
          refine call_count (ms := gv) (by walk_at "pull") (by omega) ?_
          rw [hgv.1]
          have hg2 := hgv.2
          have hll : ((gv.map D.int).length : Int) = gv.length := by simp
          generalize lawCount gv = lc at hg2 ⊢
          walk_at "go"
          refine ⟨_, atI_int gv.length hll (by omega), ?_⟩
          walk_at "go"
          · rename_i z
            exact absurd hg2 (by omega)
          · exact Nx1.mk () (by walk_at "sub") (by walk_at "cov") trivial
    · intro _ _
      refine ⟨by walk_at "hasl", ?_⟩
      walk_at "go"
      exact Ret.mk _ (by walk_at "cov") h
end DL

namespace K76
open PySem PySem.Spec PyProof.Rows L2 DL
def top (i : Nat) : Stmt := PySem.Challenge.pw_askedorder_k76_questions_of_all_orders.main.body.getD i (.Pass ⟨0, 0, 0, 0⟩)
abbrev s_InvalidKeys___init__ : Stmt := (inClass (top 2) 0)
abbrev s_InvalidNumber___init__ : Stmt := (inClass (top 3) 0)
abbrev s_Paused___init__ : Stmt := (inClass (top 6) 0)
abbrev s_Honest___init__ : Stmt := (inClass (top 7) 0)
abbrev s_Honest_less : Stmt := (inClass (top 7) 1)
abbrev s_is_integer : Stmt := (top 8)
abbrev s_is_between : Stmt := (top 9)
abbrev s_require_keys : Stmt := (top 10)
abbrev s_require_number : Stmt := (top 11)
abbrev s_require_bool : Stmt := (top 12)
abbrev s_least_of : Stmt := (top 15)
abbrev s_place_one : Stmt := (top 16)
abbrev s_place_all : Stmt := (top 17)
abbrev s_turn_about : Stmt := (top 19)
abbrev s_turn_equal : Stmt := (top 20)
abbrev s_rising_end : Stmt := (top 21)
abbrev s_falling_end : Stmt := (top 22)
abbrev s_find_run : Stmt := (top 23)
abbrev s_depth : Stmt := (top 26)
abbrev s_depths : Stmt := (top 27)
abbrev s_factorial : Stmt := (top 28)
abbrev s_sum_with_run : Stmt := (top 29)
abbrev s_sum_of : Stmt := (top 30)
abbrev s_steps_away : Stmt := (top 32)
abbrev s_leap_with : Stmt := (top 33)
abbrev s_place_before : Stmt := (top 34)
abbrev s_place_behind : Stmt := (top 35)
abbrev s_Amid___init__ : Stmt := (inClass (top 38) 0)
abbrev s_Amid_turned : Stmt := (inClass (top 38) 1)
abbrev s_Amid_standing : Stmt := (inClass (top 38) 2)
abbrev s_Amid_take : Stmt := (inClass (top 38) 3)
abbrev s_Amid_is_over : Stmt := (inClass (top 38) 4)
abbrev s_Amid_go : Stmt := (inClass (top 38) 5)
abbrev s_Amid_go_plainly : Stmt := (inClass (top 38) 6)
abbrev s_Amid_go_by_rounds : Stmt := (inClass (top 38) 7)
abbrev s_Amid_leap_in_one : Stmt := (inClass (top 38) 8)
abbrev s_Amid_leap_in_other : Stmt := (inClass (top 38) 9)
abbrev s_Joiner___init__ : Stmt := (inClass (top 39) 0)
abbrev s_Joiner_join : Stmt := (inClass (top 39) 1)
abbrev s_Joiner_join_rest : Stmt := (inClass (top 39) 2)
abbrev s_level_between : Stmt := (top 41)
abbrev s_Sorting___init__ : Stmt := (inClass (top 43) 0)
abbrev s_Sorting_go : Stmt := (inClass (top 43) 1)
abbrev s_Sorting_next_piece : Stmt := (inClass (top 43) 2)
abbrev s_Sorting_make_room : Stmt := (inClass (top 43) 3)
abbrev s_Sorting_join_at : Stmt := (inClass (top 43) 4)
abbrev s_Sorting_order : Stmt := (inClass (top 43) 5)
abbrev s_sorted_by : Stmt := (top 44)
abbrev s_count_of : Stmt := (top 45)
abbrev s__law_source : Stmt := (top 47)
abbrev s__law_draw : Stmt := (top 48)
abbrev s__law_pick : Stmt := (top 49)
abbrev s__law_prefix : Stmt := (top 50)
abbrev s__law_run_due : Stmt := (top 51)
abbrev s__law_spots : Stmt := (top 52)
abbrev s__law_sorted_count : Stmt := (top 53)
abbrev s__law_orders : Stmt := (top 54)
abbrev s__law_ways : Stmt := (top 55)
abbrev s__law_step : Stmt := (top 56)
abbrev s__law_sums : Stmt := (top 57)
abbrev s_law : Stmt := (top 58)
def xaK (K : PySem.W.Frag) (t : XT) : Addr := match t with
  | .keys => He.ga K "InvalidKeys"
  | .question => 0
  | .answer => 0
  | .answers => 0
  | .order => 0
  | .lengths => 0
  | .blocks => 0
  | .number => He.ga K "InvalidNumber"
  | .heap => 0
  | .nothing => 0
  | .notfin => 0
  | .rowch => 0
  | .large => 0
  | .mismatch => 0
  | .paused => He.ga K "Paused"
def xtsK : List XT := [.keys, .number, .paused]
end K76

namespace K76
open PySem PySem.Spec PyProof.Rows L2 DL
def fa_0 : List He.Fa := [
  .glo "SortError",
  .glo "InvalidKeys",
  .glo "InvalidNumber",
  .glo "Paused",
  .glo "Honest",
  .cls "Honest",
  .mkr "Honest",
  .noat "Honest" "marks",
  .noat "Honest" "log",
  .meth "Honest" "less",
  .glo "Amid",
  .cls "Amid",
  .mkr "Amid",
  .noat "Amid" "joiner",
  .noat "Amid" "is_forward",
  .noat "Amid" "one",
  .noat "Amid" "other",
  .noat "Amid" "gone",
  .noat "Amid" "base",
  .noat "Amid" "aside",
  .meth "Amid" "turned",
  .meth "Amid" "standing",
  .meth "Amid" "take",
  .meth "Amid" "is_over",
  .meth "Amid" "go",
  .meth "Amid" "go_plainly",
  .meth "Amid" "go_by_rounds",
  .meth "Amid" "leap_in_one",
  .meth "Amid" "leap_in_other",
  .glo "Joiner"]
def fa_1 : List He.Fa := [
  .cls "Joiner",
  .mkr "Joiner",
  .noat "Joiner" "span",
  .noat "Joiner" "aside",
  .noat "Joiner" "asker",
  .noat "Joiner" "calm",
  .meth "Joiner" "join",
  .meth "Joiner" "join_rest",
  .glo "Sorting",
  .cls "Sorting",
  .mkr "Sorting",
  .noat "Sorting" "busy",
  .noat "Sorting" "row",
  .noat "Sorting" "is_turned",
  .noat "Sorting" "asker",
  .noat "Sorting" "joiner",
  .noat "Sorting" "stack",
  .noat "Sorting" "steps",
  .meth "Sorting" "go",
  .meth "Sorting" "next_piece",
  .meth "Sorting" "make_room",
  .meth "Sorting" "join_at",
  .meth "Sorting" "order",
  .glo "is_integer",
  .glo "is_between",
  .glo "require_keys",
  .glo "require_number",
  .glo "require_bool",
  .glo "least_of",
  .glo "place_one"]
def fa_2 : List He.Fa := [
  .glo "place_all",
  .glo "turn_about",
  .glo "turn_equal",
  .glo "rising_end",
  .glo "falling_end",
  .glo "find_run",
  .glo "depth",
  .glo "depths",
  .glo "factorial",
  .glo "sum_with_run",
  .glo "sum_of",
  .glo "steps_away",
  .glo "leap_with",
  .glo "place_before",
  .glo "place_behind",
  .glo "level_between",
  .glo "sorted_by",
  .glo "count_of",
  .glo "_law_source",
  .glo "_law_draw",
  .glo "_law_pick",
  .glo "_law_prefix",
  .glo "_law_run_due",
  .glo "_law_spots",
  .glo "_law_sorted_count",
  .glo "_law_orders",
  .glo "_law_ways",
  .glo "_law_step",
  .glo "_law_sums",
  .glo "law"]
def fa_3 : List He.Fa := [
  .int "MAX_KEYS" 2000,
  .int "MAX_PLACED" 64,
  .int "MAX_SINGLE" 63,
  .int "STREAK" 7,
  .free "ValueError",
  .free "abs",
  .free "bool",
  .free "enumerate",
  .free "int",
  .free "isinstance",
  .free "len",
  .free "list",
  .free "max",
  .free "min",
  .free "range",
  .free "sorted",
  .free "sum",
  .free "tuple"]
def fa : List He.Fa := fa_0 ++ fa_1 ++ fa_2 ++ fa_3
def fn_0 : List He.DefD := [
  ⟨("Honest", some "__init__"), "__init__", "Honest.__init__", defArgs s_Honest___init__, defBody s_Honest___init__, defScope s_Honest___init__, [], []⟩,
  ⟨("Honest", some "less"), "less", "Honest.less", defArgs s_Honest_less, defBody s_Honest_less, defScope s_Honest_less, [], []⟩,
  ⟨("is_integer", none), "is_integer", "is_integer", defArgs s_is_integer, defBody s_is_integer, defScope s_is_integer, [], []⟩,
  ⟨("is_between", none), "is_between", "is_between", defArgs s_is_between, defBody s_is_between, defScope s_is_between, [], []⟩,
  ⟨("require_keys", none), "require_keys", "require_keys", defArgs s_require_keys, defBody s_require_keys, defScope s_require_keys, [.int 2000], []⟩,
  ⟨("require_number", none), "require_number", "require_number", defArgs s_require_number, defBody s_require_number, defScope s_require_number, [], []⟩,
  ⟨("require_bool", none), "require_bool", "require_bool", defArgs s_require_bool, defBody s_require_bool, defScope s_require_bool, [], []⟩,
  ⟨("least_of", none), "least_of", "least_of", defArgs s_least_of, defBody s_least_of, defScope s_least_of, [], []⟩,
  ⟨("place_one", none), "place_one", "place_one", defArgs s_place_one, defBody s_place_one, defScope s_place_one, [], []⟩,
  ⟨("place_all", none), "place_all", "place_all", defArgs s_place_all, defBody s_place_all, defScope s_place_all, [], []⟩,
  ⟨("turn_about", none), "turn_about", "turn_about", defArgs s_turn_about, defBody s_turn_about, defScope s_turn_about, [], []⟩,
  ⟨("turn_equal", none), "turn_equal", "turn_equal", defArgs s_turn_equal, defBody s_turn_equal, defScope s_turn_equal, [], []⟩,
  ⟨("rising_end", none), "rising_end", "rising_end", defArgs s_rising_end, defBody s_rising_end, defScope s_rising_end, [], []⟩,
  ⟨("falling_end", none), "falling_end", "falling_end", defArgs s_falling_end, defBody s_falling_end, defScope s_falling_end, [], []⟩,
  ⟨("find_run", none), "find_run", "find_run", defArgs s_find_run, defBody s_find_run, defScope s_find_run, [], []⟩,
  ⟨("depth", none), "depth", "depth", defArgs s_depth, defBody s_depth, defScope s_depth, [], []⟩,
  ⟨("depths", none), "depths", "depths", defArgs s_depths, defBody s_depths, defScope s_depths, [], []⟩,
  ⟨("factorial", none), "factorial", "factorial", defArgs s_factorial, defBody s_factorial, defScope s_factorial, [], []⟩,
  ⟨("sum_with_run", none), "sum_with_run", "sum_with_run", defArgs s_sum_with_run, defBody s_sum_with_run, defScope s_sum_with_run, [], []⟩,
  ⟨("sum_of", none), "sum_of", "sum_of", defArgs s_sum_of, defBody s_sum_of, defScope s_sum_of, [], []⟩,
  ⟨("steps_away", none), "steps_away", "steps_away", defArgs s_steps_away, defBody s_steps_away, defScope s_steps_away, [], []⟩,
  ⟨("leap_with", none), "leap_with", "leap_with", defArgs s_leap_with, defBody s_leap_with, defScope s_leap_with, [], []⟩,
  ⟨("place_before", none), "place_before", "place_before", defArgs s_place_before, defBody s_place_before, defScope s_place_before, [], []⟩,
  ⟨("place_behind", none), "place_behind", "place_behind", defArgs s_place_behind, defBody s_place_behind, defScope s_place_behind, [], []⟩,
  ⟨("Amid", some "__init__"), "__init__", "Amid.__init__", defArgs s_Amid___init__, defBody s_Amid___init__, defScope s_Amid___init__, [], []⟩,
  ⟨("Amid", some "turned"), "turned", "Amid.turned", defArgs s_Amid_turned, defBody s_Amid_turned, defScope s_Amid_turned, [], []⟩,
  ⟨("Amid", some "standing"), "standing", "Amid.standing", defArgs s_Amid_standing, defBody s_Amid_standing, defScope s_Amid_standing, [], []⟩,
  ⟨("Amid", some "take"), "take", "Amid.take", defArgs s_Amid_take, defBody s_Amid_take, defScope s_Amid_take, [], []⟩,
  ⟨("Amid", some "is_over"), "is_over", "Amid.is_over", defArgs s_Amid_is_over, defBody s_Amid_is_over, defScope s_Amid_is_over, [], []⟩,
  ⟨("Amid", some "go"), "go", "Amid.go", defArgs s_Amid_go, defBody s_Amid_go, defScope s_Amid_go, [], []⟩]
def fn_1 : List He.DefD := [
  ⟨("Amid", some "go_plainly"), "go_plainly", "Amid.go_plainly", defArgs s_Amid_go_plainly, defBody s_Amid_go_plainly, defScope s_Amid_go_plainly, [], []⟩,
  ⟨("Amid", some "go_by_rounds"), "go_by_rounds", "Amid.go_by_rounds", defArgs s_Amid_go_by_rounds, defBody s_Amid_go_by_rounds, defScope s_Amid_go_by_rounds, [], []⟩,
  ⟨("Amid", some "leap_in_one"), "leap_in_one", "Amid.leap_in_one", defArgs s_Amid_leap_in_one, defBody s_Amid_leap_in_one, defScope s_Amid_leap_in_one, [], []⟩,
  ⟨("Amid", some "leap_in_other"), "leap_in_other", "Amid.leap_in_other", defArgs s_Amid_leap_in_other, defBody s_Amid_leap_in_other, defScope s_Amid_leap_in_other, [], []⟩,
  ⟨("Joiner", some "__init__"), "__init__", "Joiner.__init__", defArgs s_Joiner___init__, defBody s_Joiner___init__, defScope s_Joiner___init__, [.int 7], []⟩,
  ⟨("Joiner", some "join"), "join", "Joiner.join", defArgs s_Joiner_join, defBody s_Joiner_join, defScope s_Joiner_join, [], []⟩,
  ⟨("Joiner", some "join_rest"), "join_rest", "Joiner.join_rest", defArgs s_Joiner_join_rest, defBody s_Joiner_join_rest, defScope s_Joiner_join_rest, [], []⟩,
  ⟨("level_between", none), "level_between", "level_between", defArgs s_level_between, defBody s_level_between, defScope s_level_between, [], []⟩,
  ⟨("Sorting", some "__init__"), "__init__", "Sorting.__init__", defArgs s_Sorting___init__, defBody s_Sorting___init__, defScope s_Sorting___init__, [], []⟩,
  ⟨("Sorting", some "go"), "go", "Sorting.go", defArgs s_Sorting_go, defBody s_Sorting_go, defScope s_Sorting_go, [], []⟩,
  ⟨("Sorting", some "next_piece"), "next_piece", "Sorting.next_piece", defArgs s_Sorting_next_piece, defBody s_Sorting_next_piece, defScope s_Sorting_next_piece, [], []⟩,
  ⟨("Sorting", some "make_room"), "make_room", "Sorting.make_room", defArgs s_Sorting_make_room, defBody s_Sorting_make_room, defScope s_Sorting_make_room, [], []⟩,
  ⟨("Sorting", some "join_at"), "join_at", "Sorting.join_at", defArgs s_Sorting_join_at, defBody s_Sorting_join_at, defScope s_Sorting_join_at, [], []⟩,
  ⟨("Sorting", some "order"), "order", "Sorting.order", defArgs s_Sorting_order, defBody s_Sorting_order, defScope s_Sorting_order, [], []⟩,
  ⟨("sorted_by", none), "sorted_by", "sorted_by", defArgs s_sorted_by, defBody s_sorted_by, defScope s_sorted_by, [], []⟩,
  ⟨("count_of", none), "count_of", "count_of", defArgs s_count_of, defBody s_count_of, defScope s_count_of, [], [("reverse", .bl false)]⟩,
  ⟨("_law_source", none), "_law_source", "_law_source", defArgs s__law_source, defBody s__law_source, defScope s__law_source, [], []⟩,
  ⟨("_law_draw", none), "_law_draw", "_law_draw", defArgs s__law_draw, defBody s__law_draw, defScope s__law_draw, [], []⟩,
  ⟨("_law_pick", none), "_law_pick", "_law_pick", defArgs s__law_pick, defBody s__law_pick, defScope s__law_pick, [], []⟩,
  ⟨("_law_prefix", none), "_law_prefix", "_law_prefix", defArgs s__law_prefix, defBody s__law_prefix, defScope s__law_prefix, [], []⟩,
  ⟨("_law_run_due", none), "_law_run_due", "_law_run_due", defArgs s__law_run_due, defBody s__law_run_due, defScope s__law_run_due, [], []⟩,
  ⟨("_law_spots", none), "_law_spots", "_law_spots", defArgs s__law_spots, defBody s__law_spots, defScope s__law_spots, [], []⟩,
  ⟨("_law_sorted_count", none), "_law_sorted_count", "_law_sorted_count", defArgs s__law_sorted_count, defBody s__law_sorted_count, defScope s__law_sorted_count, [], []⟩,
  ⟨("_law_orders", none), "_law_orders", "_law_orders", defArgs s__law_orders, defBody s__law_orders, defScope s__law_orders, [], []⟩,
  ⟨("_law_ways", none), "_law_ways", "_law_ways", defArgs s__law_ways, defBody s__law_ways, defScope s__law_ways, [], []⟩,
  ⟨("_law_step", none), "_law_step", "_law_step", defArgs s__law_step, defBody s__law_step, defScope s__law_step, [], []⟩,
  ⟨("_law_sums", none), "_law_sums", "_law_sums", defArgs s__law_sums, defBody s__law_sums, defScope s__law_sums, [], []⟩,
  ⟨("law", none), "law", "law", defArgs s_law, defBody s_law, defScope s_law, [], []⟩]
def fn : List He.DefD := fn_0 ++ fn_1
def ex (K : PySem.W.Frag) : Bool := ((tabsK K).all fun p => decide (p.1 = (He.cT K ("_law_run_due", none)).2 → p.2 = quOf ("_law_run_due", none) ++ ".<locals>." ++ "<lambda>"))
def loose : List Str := (["SortError", "InvalidKeys", "InvalidNumber", "Paused", "Honest", "Amid", "Joiner", "Sorting", "is_integer", "is_between", "require_keys", "require_number", "require_bool", "least_of", "place_one", "place_all", "turn_about", "turn_equal", "rising_end", "falling_end", "find_run", "depth", "depths", "factorial", "sum_with_run", "sum_of", "steps_away", "leap_with", "place_before", "place_behind"] : List Str) ++ (["level_between", "sorted_by", "count_of", "_law_source", "_law_draw", "_law_pick", "_law_prefix", "_law_run_due", "_law_spots", "_law_sorted_count", "_law_orders", "_law_ways", "_law_step", "_law_sums", "MAX_KEYS", "MAX_PLACED", "MAX_SINGLE", "STREAK"] : List Str)
abbrev Rw : PySem.W.OpenRow := PySem.W.OpenLaw.row PySem.Challenge.rw_askedorder_k76_questions_of_all_orders
abbrev hk : PySem.W.Hook := He.hookX 6 fa fn [] [("_law_run_due", none)] ex
def ob (s : PySem.W.SharedT) : He.AlX := He.obsX 6 fa fn [] [("_law_run_due", none)] ex (HandSHeadRun.getT s)
theorem ob_eq (s : PySem.W.SharedT) : ob s = hk.obs s.abs := He.obsX_eq (HandSHeadRun.getT_eq s)
theorem run (w : World) : HandSHeadRun.RunEq Rw (PySem.W.view Rw.prog [58]) hk ob 6000 loose w := by
  intro os
  kernel_rfl
end K76

namespace K76
open PySem PySem.Spec PyProof.Rows L2 DL
section
variable {P : Program} {w : World} {K : PySem.W.Frag} {mg : Str → Option Value} {base : Heap} {cl : Cl}
structure Bl (K : PySem.W.Frag) (mg : Str → Option Value) (cl : Cl) : Prop where
  c_Honest : Cls K cl.Honest
  c_Joiner : Cls K cl.Joiner
  c_Sorting : Cls K cl.Sorting
  i_MAX_PLACED : ∃ t, mg "MAX_PLACED" = some (.int 64 t)
  i_MAX_SINGLE : ∃ t, mg "MAX_SINGLE" = some (.int 63 t)
  n_abs : mg "abs" = none
  n_bool : mg "bool" = none
  n_enumerate : mg "enumerate" = none
  n_int : mg "int" = none
  n_isinstance : mg "isinstance" = none
  n_len : mg "len" = none
  n_list : mg "list" = none
  n_max : mg "max" = none
  n_min : mg "min" = none
  n_range : mg "range" = none
  n_sorted : mg "sorted" = none
  n_sum : mg "sum" = none
  n_tuple : mg "tuple" = none
  na_Honest_log : NoAttr K cl.Honest "log"
  na_Honest_marks : NoAttr K cl.Honest "marks"
  na_Joiner_aside : NoAttr K cl.Joiner "aside"
  na_Joiner_asker : NoAttr K cl.Joiner "asker"
  na_Joiner_calm : NoAttr K cl.Joiner "calm"
  na_Joiner_span : NoAttr K cl.Joiner "span"
  na_Sorting_asker : NoAttr K cl.Sorting "asker"
  na_Sorting_busy : NoAttr K cl.Sorting "busy"
  na_Sorting_is_turned : NoAttr K cl.Sorting "is_turned"
  na_Sorting_joiner : NoAttr K cl.Sorting "joiner"
  na_Sorting_row : NoAttr K cl.Sorting "row"
  na_Sorting_stack : NoAttr K cl.Sorting "stack"
  na_Sorting_steps : NoAttr K cl.Sorting "steps"
def ps_require_bool : List Str := ["name", "value"]
def N_require_bool : List Str := ["name", "value"]
theorem sc_require_bool : FnScope N_require_bool ps_require_bool (defScope s_require_bool) := ⟨rfl, rfl, rfl, by decide +kernel, rfl, by decide +kernel, by decide +kernel⟩
theorem ok_require_bool (B : Bl K mg cl)  {f : Addr} {fd : FuncData} (F : FunD K "require_bool" "require_bool" (defArgs s_require_bool) (defBody s_require_bool) (defScope s_require_bool) [] [] f fd) : FnOk P w K mg base CX0 1 f fd ps_require_bool (liftC K (C_require_bool cl)) :=
  fnOkS (t := t_require_bool cl) F sc_require_bool (fun ds F R Φ h => by obtain ⟨_, _, e, _⟩ := h; subst e; rfl) (fun cdv A outer s H E hr => pss_one' (ps_if' (pt_not' (pt_tru' (pe_isi' (by rfl) B.n_isinstance (by rfl) B.n_bool (by decide +kernel) (pv' 1)))) (pss_one' (ps_never')) (pss_nil'))) (rd_require_bool cl)
def ps_is_integer : List Str := ["value"]
def N_is_integer : List Str := ["value"]
theorem sc_is_integer : FnScope N_is_integer ps_is_integer (defScope s_is_integer) := ⟨rfl, rfl, rfl, by decide +kernel, rfl, by decide +kernel, by decide +kernel⟩
theorem ok_is_integer (B : Bl K mg cl)  {f : Addr} {fd : FuncData} (F : FunD K "is_integer" "is_integer" (defArgs s_is_integer) (defBody s_is_integer) (defScope s_is_integer) [] [] f fd) : FnOk P w K mg base CX0 1 f fd ps_is_integer (liftC K (C_is_integer cl)) :=
  fnOkS (t := t_is_integer cl) F sc_is_integer (fun ds F R Φ h => by obtain ⟨_, e, _⟩ := h; subst e; rfl) (fun cdv A outer s H E hr => pss_one' (ps_ret' (pe_and' (pe_isi' (by rfl) B.n_isinstance (by rfl) B.n_int (by decide +kernel) (pv' 0)) (pe_one' (pe_not' (pe_isi' (by rfl) B.n_isinstance (by rfl) B.n_bool (by decide +kernel) (pv' 0))))))) (rd_is_integer cl)
def ps_require_keys : List Str := ["keys", "most"]
def N_require_keys : List Str := ["keys", "most", "index", "key"]
theorem sc_require_keys : FnScope N_require_keys ps_require_keys (defScope s_require_keys) := ⟨rfl, rfl, rfl, by decide +kernel, rfl, by decide +kernel, by decide +kernel⟩
theorem ok_require_keys (B : Bl K mg cl) (G_is_integer : Fnd P w K mg base "is_integer" 1 [] (C_is_integer cl) 1) {f : Addr} {fd : FuncData} (F : FunD K "require_keys" "require_keys" (defArgs s_require_keys) (defBody s_require_keys) (defScope s_require_keys) [.int 2000] [] f fd) : FnOk P w K mg base CX0 2 f fd ps_require_keys (liftC K (C_require_keys cl)) :=
  fnOkS (t := t_require_keys cl) F sc_require_keys (fun ds F R Φ h => by obtain ⟨_, _, _, e, _⟩ := h; subst e; rfl) (fun cdv A outer s H E hr => pss_cons' (ps_if' (PW'.pt (pw_or' (pt_not' (pt_tru' (pe_isi2' (by rfl) B.n_isinstance (by rfl) B.n_list (by decide +kernel) (by rfl) B.n_tuple (by decide +kernel) (pv' 0)))) (pw_or1' (pt_cmp' od_gt op_gt (pe_callB' cd_len call_len (by rfl) B.n_len PySem.boot_len (pa_cons' (pv' 0) (pa_nil'))) (pv' 1) (nomark _))))) (pss_one' (ps_never')) (pss_nil'))
  (pss_one' (ps_for' PassesOwn.never rfl (pi_enumA' (by rfl) B.n_enumerate (pa_cons' (pv' 0) (pa_nil'))) (pg_tup' rfl (pgs_cons' (pg_name' (i := 2) sc_require_keys.nd) (pgs_cons' (pg_name' (i := 3) sc_require_keys.nd) (pgs_nil')))) (pss_one' (ps_if' (pt_not' (pt_tru' (pe_call' G_is_integer (hr.mono (by decide)) (by rfl) (pa_cons' (pv' 3) (pa_nil'))))) (pss_one' (ps_never')) (pss_nil')))))) (rd_require_keys cl)
def ps_Sorting_join_at : List Str := ["self", "place"]
theorem ok_Sorting_join_at {f : Addr} {fd : FuncData} (F : FunD K "join_at" "Sorting.join_at" (defArgs s_Sorting_join_at) (defBody s_Sorting_join_at) (defScope s_Sorting_join_at) [] [] f fd) : FnOk P w K mg base CX0 1 f fd ps_Sorting_join_at (liftC K (C_Sorting_join_at cl)) := fnOkF F
def ps_Honest_less : List Str := ["self", "one", "other"]
def N_Honest_less : List Str := ["self", "one", "other", "is_less"]
theorem sc_Honest_less : FnScope N_Honest_less ps_Honest_less (defScope s_Honest_less) := ⟨rfl, rfl, rfl, by decide +kernel, rfl, by decide +kernel, by decide +kernel⟩
theorem ok_Honest_less (B : Bl K mg cl)  {f : Addr} {fd : FuncData} (F : FunD K "less" "Honest.less" (defArgs s_Honest_less) (defBody s_Honest_less) (defScope s_Honest_less) [] [] f fd) : FnOk P w K mg base CX0 1 f fd ps_Honest_less (liftC K (C_Honest_less cl)) :=
  fnOkS (t := t_Honest_less cl) F sc_Honest_less (fun ds F R Φ h => by obtain ⟨_, _, _, _, _, _, _, _, e, _⟩ := h; subst e; rfl) (fun cdv A outer s H E hr => pss_cons' (ps_set' (i := 3) sc_Honest_less.nd (pe_cmp' od_lt op_lt (pe_ix' (pe_fld' (f := 0) B.c_Honest B.na_Honest_marks (pv' 0)) (pv' 1)) (pe_ix' (pe_fld' (f := 0) B.c_Honest B.na_Honest_marks (pv' 0)) (pv' 2)) (nomark _)))
  (pss_cons' (ps_expr' (pe_lm' md_append PySem.F.slot_list_append PySem.F.type_list_append mt_append (pe_fld' (f := 1) B.c_Honest B.na_Honest_log (pv' 0)) (pa_cons' (pe_tup' (pa_cons' (pe_tup' (pa_cons' (pv' 1) (pa_cons' (pv' 2) (pa_nil')))) (pa_cons' (pv' 3) (pa_nil')))) (pa_nil'))))
  (pss_one' (ps_ret' (pv' 3))))) (rd_less cl)
def ps_place_one : List Str := ["row", "start", "index", "asker"]
def N_place_one : List Str := ["row", "start", "index", "asker", "item", "low", "high", "middle"]
theorem sc_place_one : FnScope N_place_one ps_place_one (defScope s_place_one) := ⟨rfl, rfl, rfl, by decide +kernel, rfl, by decide +kernel, by decide +kernel⟩
theorem ok_place_one (B : Bl K mg cl) (G_Honest_less : Mtd P w K mg base cl.Honest "less" [] (C_Honest_less cl) 1) {f : Addr} {fd : FuncData} (F : FunD K "place_one" "place_one" (defArgs s_place_one) (defBody s_place_one) (defScope s_place_one) [] [] f fd) : FnOk P w K mg base CX0 2 f fd ps_place_one (liftC K (C_place_one cl)) :=
  fnOkS (t := t_place_one cl) F sc_place_one (fun ds F R Φ h => by obtain ⟨_, _, _, _, _, _, _, _, _, e, _⟩ := h; subst e; rfl) (fun cdv A outer s H E hr => pss_cons' (ps_par3' (i := 4) (j := 5) (l := 6) rfl sc_place_one.nd (by decide) (by decide) (by decide) (pa_cons' (pe_ix' (pv' 0) (pe_op' od_add op_addA (pv' 1) (pv' 2))) (pa_cons' (pe_int') (pa_cons' (pv' 2) (pa_nil')))))
  (pss_cons' (ps_while' PassesOwn.never (pt_cmp' od_lt op_lt (pv' 5) (pv' 6) (nomark _)) (pss_cons' (ps_set' (i := 7) sc_place_one.nd (pe_op' od_fdiv op_fdivW (pe_op' od_add op_addA (pv' 5) (pv' 6)) (pe_int')))
  (pss_one' (ps_if' (pt_tru' (pe_meth' (pl := _) G_Honest_less (hr.mono (by decide)) (pv' 3) (pa_cons' (pv' 4) (pa_cons' (pe_ix' (pv' 0) (pe_op' od_add op_addA (pv' 1) (pv' 7))) (pa_nil'))))) (pss_one' (ps_set' (i := 6) sc_place_one.nd (pv' 7))) (pss_one' (ps_set' (i := 5) sc_place_one.nd (pe_op' od_add op_addA (pv' 7) (pe_int'))))))))
  (pss_one' (ps_asg' (pe_lst' (pa_cons' (pv' 4) (pa_star' (pe_slice' (pv' 0) (po_some' (pe_op' od_add op_addA (pv' 1) (pv' 5))) (po_some' (pe_op' od_add op_addA (pv' 1) (pv' 2)))) (pa_nil')))) (pg_slice' (pv' 0) (pe_op' od_add op_addA (pv' 1) (pv' 5)) (pe_op' od_add op_addA (pe_op' od_add op_addA (pv' 1) (pv' 2)) (pe_int'))))))) (rd_place_one cl)
def ps_place_all : List Str := ["row", "start", "end", "ready", "asker"]
def N_place_all : List Str := ["row", "start", "end", "ready", "asker", "index"]
theorem sc_place_all : FnScope N_place_all ps_place_all (defScope s_place_all) := ⟨rfl, rfl, rfl, by decide +kernel, rfl, by decide +kernel, by decide +kernel⟩
theorem ok_place_all (B : Bl K mg cl) (G_place_one : Fnd P w K mg base "place_one" 4 [] (C_place_one cl) 2) {f : Addr} {fd : FuncData} (F : FunD K "place_all" "place_all" (defArgs s_place_all) (defBody s_place_all) (defScope s_place_all) [] [] f fd) : FnOk P w K mg base CX0 3 f fd ps_place_all (liftC K (C_place_all cl)) :=
  fnOkS (t := t_place_all cl) F sc_place_all (fun ds F R Φ h => by obtain ⟨_, _, _, _, _, _, _, _, _, _, e, _⟩ := h; subst e; rfl) (fun cdv A outer s H E hr => pss_one' (ps_for' PassesOwn.never rfl (pi_range2' (by rfl) B.n_range (pa_cons' (pe_callB' cd_max2 (call_max2 rfl) (by rfl) B.n_max boot_max (pa_cons' (pe_int') (pa_cons' (pv' 3) (pa_nil')))) (pa_cons' (pe_op' od_sub op_sub (pv' 2) (pv' 1)) (pa_nil')))) (pg_name' (i := 5) sc_place_all.nd) (pss_one' (ps_expr' (pe_call' G_place_one (hr.mono (by decide)) (by rfl) (pa_cons' (pv' 0) (pa_cons' (pv' 1) (pa_cons' (pv' 5) (pa_cons' (pv' 4) (pa_nil')))))))))) (rd_place_all cl)
def ps_least_of : List Str := ["many"]
def N_least_of : List Str := ["many", "is_odd"]
theorem sc_least_of : FnScope N_least_of ps_least_of (defScope s_least_of) := ⟨rfl, rfl, rfl, by decide +kernel, rfl, by decide +kernel, by decide +kernel⟩
theorem ok_least_of (B : Bl K mg cl)  {f : Addr} {fd : FuncData} (F : FunD K "least_of" "least_of" (defArgs s_least_of) (defBody s_least_of) (defScope s_least_of) [] [] f fd) : FnOk P w K mg base CX0 1 f fd ps_least_of (liftC K (C_least_of cl)) :=
  fnOkS (t := t_least_of cl) F sc_least_of (fun ds F R Φ h => by obtain ⟨_, e, _⟩ := h; subst e; rfl) (fun cdv A outer s H E hr => pss_cons' (ps_set' (i := 1) sc_least_of.nd (pe_int'))
  (pss_cons' (ps_while' PassesOwn.never (pt_cmp' od_ge op_ge (pv' 0) (pe_gint (by rfl) B.i_MAX_PLACED) (nomark _)) (pss_cons' (ps_set' (i := 1) sc_least_of.nd (pe_or' (pv' 1) (pe_one' (pe_op' od_band op_and (pv' 0) (pe_int')))))
  (pss_one' (ps_set' (i := 0) sc_least_of.nd (pe_op' od_shr op_shr (pv' 0) (pe_int'))))))
  (pss_one' (ps_ret' (pe_op' od_add op_addA (pv' 0) (pv' 1)))))) (rd_least_of cl)
def ps_rising_end : List Str := ["row", "place", "end", "asker"]
def N_rising_end : List Str := ["row", "place", "end", "asker"]
theorem sc_rising_end : FnScope N_rising_end ps_rising_end (defScope s_rising_end) := ⟨rfl, rfl, rfl, by decide +kernel, rfl, by decide +kernel, by decide +kernel⟩
theorem ok_rising_end (B : Bl K mg cl) (G_Honest_less : Mtd P w K mg base cl.Honest "less" [] (C_Honest_less cl) 1) {f : Addr} {fd : FuncData} (F : FunD K "rising_end" "rising_end" (defArgs s_rising_end) (defBody s_rising_end) (defScope s_rising_end) [] [] f fd) : FnOk P w K mg base CX0 2 f fd ps_rising_end (liftC K (C_rising_end cl)) :=
  fnOkS (t := t_rising_end cl) F sc_rising_end (fun ds F R Φ h => by obtain ⟨_, _, _, _, _, _, _, _, _, e, _⟩ := h; subst e; rfl) (fun cdv A outer s H E hr => pss_cons' (ps_while' PassesOwn.never (PW'.pt (pw_and' (pt_cmp' od_lt op_lt (pv' 1) (pv' 2) (nomark _)) (pw_and1' (pt_not' (pt_tru' (pe_meth' (pl := _) G_Honest_less (hr.mono (by decide)) (pv' 3) (pa_cons' (pe_ix' (pv' 0) (pv' 1)) (pa_cons' (pe_ix' (pv' 0) (pe_op' od_sub op_sub (pv' 1) (pe_int'))) (pa_nil'))))))))) (pss_one' (ps_aug' (i := 1) sc_rising_end.nd od_ipadd ip_add (pe_int'))))
  (pss_one' (ps_ret' (pv' 1)))) (rd_rising_end cl)
def ps_turn_about : List Str := ["row", "start", "end"]
def N_turn_about : List Str := ["row", "start", "end"]
theorem sc_turn_about : FnScope N_turn_about ps_turn_about (defScope s_turn_about) := ⟨rfl, rfl, rfl, by decide +kernel, rfl, by decide +kernel, by decide +kernel⟩
theorem ok_turn_about (B : Bl K mg cl)  {f : Addr} {fd : FuncData} (F : FunD K "turn_about" "turn_about" (defArgs s_turn_about) (defBody s_turn_about) (defScope s_turn_about) [] [] f fd) : FnOk P w K mg base CX0 1 f fd ps_turn_about (liftC K (C_turn_about cl)) :=
  fnOkS (t := t_turn_about cl) F sc_turn_about (fun ds F R Φ h => by obtain ⟨_, _, _, _, e, _⟩ := h; subst e; rfl) (fun cdv A outer s H E hr => pss_one' (ps_asg' (pe_revL' (pe_slice' (pv' 0) (po_some' (pv' 1)) (po_some' (pv' 2)))) (pg_slice' (pv' 0) (pv' 1) (pv' 2)))) (rd_turn_about cl)
def ps_turn_equal : List Str := ["row", "place", "equal"]
def N_turn_equal : List Str := ["row", "place", "equal"]
theorem sc_turn_equal : FnScope N_turn_equal ps_turn_equal (defScope s_turn_equal) := ⟨rfl, rfl, rfl, by decide +kernel, rfl, by decide +kernel, by decide +kernel⟩
theorem ok_turn_equal (B : Bl K mg cl) (G_turn_about : Fnd P w K mg base "turn_about" 3 [] (C_turn_about cl) 1) {f : Addr} {fd : FuncData} (F : FunD K "turn_equal" "turn_equal" (defArgs s_turn_equal) (defBody s_turn_equal) (defScope s_turn_equal) [] [] f fd) : FnOk P w K mg base CX0 2 f fd ps_turn_equal (liftC K (C_turn_equal cl)) :=
  fnOkS (t := t_turn_equal cl) F sc_turn_equal (fun ds F R Φ h => by obtain ⟨_, _, _, _, e, _⟩ := h; subst e; rfl) (fun cdv A outer s H E hr => pss_one' (ps_if' (pt_cmp' od_gt op_gt (pv' 2) (pe_int') (nomark _)) (pss_one' (ps_expr' (pe_call' G_turn_about (hr.mono (by decide)) (by rfl) (pa_cons' (pv' 0) (pa_cons' (pe_op' od_sub op_sub (pe_op' od_sub op_sub (pv' 1) (pv' 2)) (pe_int')) (pa_cons' (pv' 1) (pa_nil'))))))) (pss_nil'))) (rd_turn_equal cl)
def ps_falling_end : List Str := ["row", "place", "end", "asker"]
def N_falling_end : List Str := ["row", "place", "end", "asker", "equal"]
theorem sc_falling_end : FnScope N_falling_end ps_falling_end (defScope s_falling_end) := ⟨rfl, rfl, rfl, by decide +kernel, rfl, by decide +kernel, by decide +kernel⟩
theorem ok_falling_end (B : Bl K mg cl) (G_turn_equal : Fnd P w K mg base "turn_equal" 3 [] (C_turn_equal cl) 2) (G_Honest_less : Mtd P w K mg base cl.Honest "less" [] (C_Honest_less cl) 1) {f : Addr} {fd : FuncData} (F : FunD K "falling_end" "falling_end" (defArgs s_falling_end) (defBody s_falling_end) (defScope s_falling_end) [] [] f fd) : FnOk P w K mg base CX0 3 f fd ps_falling_end (liftC K (C_falling_end cl)) :=
  fnOkS (t := t_falling_end cl) F sc_falling_end (fun ds F R Φ h => by obtain ⟨_, _, _, _, _, _, _, _, _, e, _⟩ := h; subst e; rfl) (fun cdv A outer s H E hr => pss_cons' (ps_set' (i := 4) sc_falling_end.nd (pe_int'))
  (pss_cons' (ps_while' PassesOwn.never (pt_cmp' od_lt op_lt (pv' 1) (pv' 2) (nomark _)) (pss_cons' (ps_if' (pt_tru' (pe_meth' (pl := _) G_Honest_less (hr.mono (by decide)) (pv' 3) (pa_cons' (pe_ix' (pv' 0) (pv' 1)) (pa_cons' (pe_ix' (pv' 0) (pe_op' od_sub op_sub (pv' 1) (pe_int'))) (pa_nil'))))) (pss_cons' (ps_expr' (pe_call' G_turn_equal (hr.mono (by decide)) (by rfl) (pa_cons' (pv' 0) (pa_cons' (pv' 1) (pa_cons' (pv' 4) (pa_nil'))))))
  (pss_one' (ps_set' (i := 4) sc_falling_end.nd (pe_int')))) (pss_one' (ps_if' (pt_tru' (pe_meth' (pl := _) G_Honest_less (hr.mono (by decide)) (pv' 3) (pa_cons' (pe_ix' (pv' 0) (pe_op' od_sub op_sub (pv' 1) (pe_int'))) (pa_cons' (pe_ix' (pv' 0) (pv' 1)) (pa_nil'))))) (pss_one' (ps_break')) (pss_one' (ps_aug' (i := 4) sc_falling_end.nd od_ipadd ip_add (pe_int'))))))
  (pss_one' (ps_aug' (i := 1) sc_falling_end.nd od_ipadd ip_add (pe_int')))))
  (pss_cons' (ps_expr' (pe_call' G_turn_equal (hr.mono (by decide)) (by rfl) (pa_cons' (pv' 0) (pa_cons' (pv' 1) (pa_cons' (pv' 4) (pa_nil'))))))
  (pss_one' (ps_ret' (pv' 1)))))) (rd_falling_end cl)
def ps_find_run : List Str := ["row", "start", "end", "asker"]
def N_find_run : List Str := ["row", "start", "end", "asker", "place"]
theorem sc_find_run : FnScope N_find_run ps_find_run (defScope s_find_run) := ⟨rfl, rfl, rfl, by decide +kernel, rfl, by decide +kernel, by decide +kernel⟩
theorem ok_find_run (B : Bl K mg cl) (G_rising_end : Fnd P w K mg base "rising_end" 4 [] (C_rising_end cl) 2) (G_turn_about : Fnd P w K mg base "turn_about" 3 [] (C_turn_about cl) 1) (G_falling_end : Fnd P w K mg base "falling_end" 4 [] (C_falling_end cl) 3) (G_Honest_less : Mtd P w K mg base cl.Honest "less" [] (C_Honest_less cl) 1) {f : Addr} {fd : FuncData} (F : FunD K "find_run" "find_run" (defArgs s_find_run) (defBody s_find_run) (defScope s_find_run) [] [] f fd) : FnOk P w K mg base CX0 4 f fd ps_find_run (liftC K (C_find_run cl)) :=
  fnOkS (t := t_find_run cl) F sc_find_run (fun ds F R Φ h => by obtain ⟨_, _, _, _, _, _, _, _, _, e, _⟩ := h; subst e; rfl) (fun cdv A outer s H E hr => pss_cons' (ps_set' (i := 4) sc_find_run.nd (pe_call' G_rising_end (hr.mono (by decide)) (by rfl) (pa_cons' (pv' 0) (pa_cons' (pe_op' od_add op_addA (pv' 1) (pe_int')) (pa_cons' (pv' 2) (pa_cons' (pv' 3) (pa_nil')))))))
  (pss_cons' (ps_if' (pt_cmp' od_eq (op_eqA hr.units) (pv' 4) (pv' 2) (nomark _)) (pss_one' (ps_ret' (pe_op' od_sub op_sub (pv' 4) (pv' 1)))) (pss_nil'))
  (pss_cons' (ps_if' (pt_cmp' od_gt op_gt (pe_op' od_sub op_sub (pv' 4) (pv' 1)) (pe_int') (nomark _)) (pss_cons' (ps_if' (pt_tru' (pe_meth' (pl := _) G_Honest_less (hr.mono (by decide)) (pv' 3) (pa_cons' (pe_ix' (pv' 0) (pv' 1)) (pa_cons' (pe_ix' (pv' 0) (pe_op' od_sub op_sub (pv' 4) (pe_int'))) (pa_nil'))))) (pss_one' (ps_ret' (pe_op' od_sub op_sub (pv' 4) (pv' 1)))) (pss_nil'))
  (pss_one' (ps_expr' (pe_call' G_turn_about (hr.mono (by decide)) (by rfl) (pa_cons' (pv' 0) (pa_cons' (pv' 1) (pa_cons' (pv' 4) (pa_nil')))))))) (pss_nil'))
  (pss_cons' (ps_set' (i := 4) sc_find_run.nd (pe_call' G_falling_end (hr.mono (by decide)) (by rfl) (pa_cons' (pv' 0) (pa_cons' (pe_op' od_add op_addA (pv' 4) (pe_int')) (pa_cons' (pv' 2) (pa_cons' (pv' 3) (pa_nil')))))))
  (pss_cons' (ps_expr' (pe_call' G_turn_about (hr.mono (by decide)) (by rfl) (pa_cons' (pv' 0) (pa_cons' (pv' 1) (pa_cons' (pv' 4) (pa_nil'))))))
  (pss_one' (ps_ret' (pe_op' od_sub op_sub (pe_call' G_rising_end (hr.mono (by decide)) (by rfl) (pa_cons' (pv' 0) (pa_cons' (pv' 4) (pa_cons' (pv' 2) (pa_cons' (pv' 3) (pa_nil')))))) (pv' 1))))))))) (rd_find_run cl)
def ps_Sorting_make_room : List Str := ["self", "length"]
theorem ok_Sorting_make_room {f : Addr} {fd : FuncData} (F : FunD K "make_room" "Sorting.make_room" (defArgs s_Sorting_make_room) (defBody s_Sorting_make_room) (defScope s_Sorting_make_room) [] [] f fd) : FnOk P w K mg base CX0 1 f fd ps_Sorting_make_room (liftC K (C_Sorting_make_room cl)) := fnOkF F
def ps_Sorting_next_piece : List Str := ["self", "start"]
def N_Sorting_next_piece : List Str := ["self", "start", "many", "found", "length", "least"]
theorem sc_Sorting_next_piece : FnScope N_Sorting_next_piece ps_Sorting_next_piece (defScope s_Sorting_next_piece) := ⟨rfl, rfl, rfl, by decide +kernel, rfl, by decide +kernel, by decide +kernel⟩
theorem ok_Sorting_next_piece (B : Bl K mg cl) (G_place_all : Fnd P w K mg base "place_all" 5 [] (C_place_all cl) 3) (G_least_of : Fnd P w K mg base "least_of" 1 [] (C_least_of cl) 1) (G_find_run : Fnd P w K mg base "find_run" 4 [] (C_find_run cl) 4) (G_Sorting_make_room : Mtd P w K mg base cl.Sorting "make_room" [] (C_Sorting_make_room cl) 1) {f : Addr} {fd : FuncData} (F : FunD K "next_piece" "Sorting.next_piece" (defArgs s_Sorting_next_piece) (defBody s_Sorting_next_piece) (defScope s_Sorting_next_piece) [] [] f fd) : FnOk P w K mg base CX0 5 f fd ps_Sorting_next_piece (liftC K (C_Sorting_next_piece cl)) :=
  fnOkS (t := t_Sorting_next_piece cl) F sc_Sorting_next_piece (fun ds F R Φ h => by obtain ⟨_, _, _, _, _, _, _, _, _, _, _, _, _, _, e, _⟩ := h; subst e; rfl) (fun cdv A outer s H E hr => pss_cons' (ps_set' (i := 2) sc_Sorting_next_piece.nd (pe_callB' cd_len call_len (by rfl) B.n_len PySem.boot_len (pa_cons' (pe_fld' (f := 4) B.c_Sorting B.na_Sorting_row (pv' 0)) (pa_nil'))))
  (pss_cons' (ps_fld' (f := 10) B.c_Sorting B.na_Sorting_busy (pv' 0) (pe_tup' (pa_cons' (pe_str') (pa_cons' (pv' 1) (pa_nil')))))
  (pss_cons' (ps_asg2' (pe_call' G_find_run (hr.mono (by decide)) (by rfl) (pa_cons' (pe_fld' (f := 4) B.c_Sorting B.na_Sorting_row (pv' 0)) (pa_cons' (pv' 1) (pa_cons' (pv' 2) (pa_cons' (pe_fld' (f := 6) B.c_Sorting B.na_Sorting_asker (pv' 0)) (pa_nil')))))) (pg_name' (i := 3) sc_Sorting_next_piece.nd) (pg_name' (i := 4) sc_Sorting_next_piece.nd))
  (pss_cons' (ps_set' (i := 5) sc_Sorting_next_piece.nd (pe_call' G_least_of (hr.mono (by decide)) (by rfl) (pa_cons' (pv' 2) (pa_nil'))))
  (pss_cons' (ps_if' (pt_cmp' od_lt op_lt (pv' 4) (pv' 5) (nomark _)) (pss_cons' (ps_set' (i := 4) sc_Sorting_next_piece.nd (pe_callB' cd_min2 (call_min2 rfl) (by rfl) B.n_min boot_min (pa_cons' (pv' 5) (pa_cons' (pe_op' od_sub op_sub (pv' 2) (pv' 1)) (pa_nil')))))
  (pss_cons' (ps_fld' (f := 10) B.c_Sorting B.na_Sorting_busy (pv' 0) (pe_tup' (pa_cons' (pe_str') (pa_cons' (pv' 1) (pa_cons' (pv' 4) (pa_nil'))))))
  (pss_one' (ps_expr' (pe_call' G_place_all (hr.mono (by decide)) (by rfl) (pa_cons' (pe_fld' (f := 4) B.c_Sorting B.na_Sorting_row (pv' 0)) (pa_cons' (pv' 1) (pa_cons' (pe_op' od_add op_addA (pv' 1) (pv' 4)) (pa_cons' (pv' 3) (pa_cons' (pe_fld' (f := 6) B.c_Sorting B.na_Sorting_asker (pv' 0)) (pa_nil'))))))))))) (pss_nil'))
  (pss_wk' (t := t_Sorting_next_piece_s5 cl) (pss_cons' (ps_expr' (pe_lm' md_append PySem.F.slot_list_append PySem.F.type_list_append mt_append (pe_fld' (f := 9) B.c_Sorting B.na_Sorting_steps (pv' 0)) (pa_cons' (pe_tup' (pa_cons' (pe_str') (pa_cons' (pv' 1) (pa_cons' (pv' 3) (pa_cons' (pv' 4) (pa_cons' (pe_callB' cd_len call_len (by rfl) B.n_len PySem.boot_len (pa_cons' (pe_fld' (f := 1) B.c_Honest B.na_Honest_log (pe_fld' (f := 6) B.c_Sorting B.na_Sorting_asker (pv' 0))) (pa_nil'))) (pa_nil'))))))) (pa_nil'))))
  (pss_cons' (ps_if' (pt_cmp' od_ne (op_neA hr.units) (pe_fld' (f := 8) B.c_Sorting B.na_Sorting_stack (pv' 0)) (pe_lst' (pa_nil')) (nomark _)) (pss_one' (ps_expr' (pe_meth' (pl := _) G_Sorting_make_room (hr.mono (by decide)) (pv' 0) (pa_cons' (pv' 4) (pa_nil'))))) (pss_nil'))
  (pss_cons' (ps_expr' (pe_lm' md_append PySem.F.slot_list_append PySem.F.type_list_append mt_append (pe_fld' (f := 8) B.c_Sorting B.na_Sorting_stack (pv' 0)) (pa_cons' (pe_tup' (pa_cons' (pv' 1) (pa_cons' (pv' 4) (pa_cons' (pe_non') (pa_nil'))))) (pa_nil'))))
  (pss_one' (ps_ret' (pv' 4)))))))))))) (rd_next_piece cl)
def ps_Sorting_go : List Str := ["self"]
def N_Sorting_go : List Str := ["self", "start", "place"]
theorem sc_Sorting_go : FnScope N_Sorting_go ps_Sorting_go (defScope s_Sorting_go) := ⟨rfl, rfl, rfl, by decide +kernel, rfl, by decide +kernel, by decide +kernel⟩
theorem ok_Sorting_go (B : Bl K mg cl) (G_Sorting_join_at : Mtd P w K mg base cl.Sorting "join_at" [] (C_Sorting_join_at cl) 1) (G_Sorting_next_piece : Mtd P w K mg base cl.Sorting "next_piece" [] (C_Sorting_next_piece cl) 5) {f : Addr} {fd : FuncData} (F : FunD K "go" "Sorting.go" (defArgs s_Sorting_go) (defBody s_Sorting_go) (defScope s_Sorting_go) [] [] f fd) : FnOk P w K mg base CX0 6 f fd ps_Sorting_go (liftC K (C_Sorting_go cl)) :=
  fnOkS (t := t_Sorting_go cl) F sc_Sorting_go (fun ds F R Φ h => by obtain ⟨_, _, _, _, _, _, _, _, _, _, _, _, e, _⟩ := h; subst e; rfl) (fun cdv A outer s H E hr => pss_cons' (ps_if' (pt_cmp' od_gt op_gt (pe_callB' cd_len call_len (by rfl) B.n_len PySem.boot_len (pa_cons' (pe_fld' (f := 4) B.c_Sorting B.na_Sorting_row (pv' 0)) (pa_nil'))) (pe_int') (nomark _)) (pss_cons' (ps_set' (i := 1) sc_Sorting_go.nd (pe_int'))
  (pss_cons' (ps_while' PassesOwn.never (pt_cmp' od_lt op_lt (pv' 1) (pe_callB' cd_len call_len (by rfl) B.n_len PySem.boot_len (pa_cons' (pe_fld' (f := 4) B.c_Sorting B.na_Sorting_row (pv' 0)) (pa_nil'))) (nomark _)) (pss_one' (ps_aug' (i := 1) sc_Sorting_go.nd od_ipadd ip_add (pe_meth' (pl := _) G_Sorting_next_piece (hr.mono (by decide)) (pv' 0) (pa_cons' (pv' 1) (pa_nil'))))))
  (pss_one' (ps_while' PassesOwn.never (pt_cmp' od_gt op_gt (pe_callB' cd_len call_len (by rfl) B.n_len PySem.boot_len (pa_cons' (pe_fld' (f := 8) B.c_Sorting B.na_Sorting_stack (pv' 0)) (pa_nil'))) (pe_int') (nomark _)) (pss_cons' (ps_set' (i := 2) sc_Sorting_go.nd (pe_op' od_sub op_sub (pe_callB' cd_len call_len (by rfl) B.n_len PySem.boot_len (pa_cons' (pe_fld' (f := 8) B.c_Sorting B.na_Sorting_stack (pv' 0)) (pa_nil'))) (pe_int')))
  (pss_cons' (ps_if' (PW'.pt (pw_and' (pt_cmp' od_gt op_gt (pv' 2) (pe_int') (nomark _)) (pw_and1' (pt_cmp' od_lt op_lt (pe_ix' (pe_ix' (pe_fld' (f := 8) B.c_Sorting B.na_Sorting_stack (pv' 0)) (pe_op' od_sub op_sub (pv' 2) (pe_int'))) (pe_int')) (pe_ix' (pe_ix' (pe_fld' (f := 8) B.c_Sorting B.na_Sorting_stack (pv' 0)) (pe_op' od_add op_addA (pv' 2) (pe_int'))) (pe_int')) (nomark _))))) (pss_one' (ps_aug' (i := 2) sc_Sorting_go.nd od_ipsub ip_sub (pe_int'))) (pss_nil'))
  (pss_one' (ps_expr' (pe_meth' (pl := _) G_Sorting_join_at (hr.mono (by decide)) (pv' 0) (pa_cons' (pv' 2) (pa_nil'))))))))))) (pss_nil'))
  (pss_one' (ps_fld' (f := 10) B.c_Sorting B.na_Sorting_busy (pv' 0) (pe_tup' (pa_cons' (pe_str') (pa_nil')))))) (rd_go cl)
def ps_Joiner___init__ : List Str := ["self", "asker", "patience"]
def N_Joiner___init__ : List Str := ["self", "asker", "patience"]
theorem sc_Joiner___init__ : FnScope N_Joiner___init__ ps_Joiner___init__ (defScope s_Joiner___init__) := ⟨rfl, rfl, rfl, by decide +kernel, rfl, by decide +kernel, by decide +kernel⟩
theorem ok_Joiner___init__ (B : Bl K mg cl)  {f : Addr} {fd : FuncData} (F : FunD K "__init__" "Joiner.__init__" (defArgs s_Joiner___init__) (defBody s_Joiner___init__) (defScope s_Joiner___init__) [.int 7] [] f fd) : FnOk P w K mg base CX0 1 f fd ps_Joiner___init__ (liftC K (C_Joiner___init__ cl)) :=
  fnOkS (t := t_Joiner___init__ cl) F sc_Joiner___init__ (fun ds F R Φ h => by obtain ⟨_, _, e, _⟩ := h; subst e; rfl) (fun cdv A outer s H E hr => pss_cons' (ps_asg' (pe_tup' (pa_cons' (pv' 1) (pa_cons' (pv' 2) (pa_nil')))) (pg_tup' rfl (pgs_cons' (pg_fld' (f := 6) B.c_Joiner B.na_Joiner_asker (pv' 0)) (pgs_cons' (pg_fld' (f := 17) B.c_Joiner B.na_Joiner_calm (pv' 0)) (pgs_nil')))))
  (pss_one' (ps_asg' (pe_tup' (pa_cons' (pe_tup' (pa_cons' (pe_int') (pa_cons' (pe_int') (pa_nil')))) (pa_cons' (pe_lst' (pa_nil')) (pa_nil')))) (pg_tup' rfl (pgs_cons' (pg_fld' (f := 29) B.c_Joiner B.na_Joiner_span (pv' 0)) (pgs_cons' (pg_fld' (f := 30) B.c_Joiner B.na_Joiner_aside (pv' 0)) (pgs_nil'))))))) (rd_Joiner_init cl)
def ps_Sorting___init__ : List Str := ["self", "many", "is_turned", "asker"]
def N_Sorting___init__ : List Str := ["self", "many", "is_turned", "asker"]
theorem sc_Sorting___init__ : FnScope N_Sorting___init__ ps_Sorting___init__ (defScope s_Sorting___init__) := ⟨rfl, rfl, rfl, by decide +kernel, rfl, by decide +kernel, by decide +kernel⟩
theorem ok_Sorting___init__ (B : Bl K mg cl) (G_Joiner : Mkd P w K mg base "Joiner" cl.Joiner [.int 7] (C_Joiner___init__ cl) 1) {f : Addr} {fd : FuncData} (F : FunD K "__init__" "Sorting.__init__" (defArgs s_Sorting___init__) (defBody s_Sorting___init__) (defScope s_Sorting___init__) [] [] f fd) : FnOk P w K mg base CX0 3 f fd ps_Sorting___init__ (liftC K (C_Sorting___init__ cl)) :=
  fnOkS (t := t_Sorting___init__ cl) F sc_Sorting___init__ (fun ds F R Φ h => by obtain ⟨_, _, _, _, e, _⟩ := h; subst e; rfl) (fun cdv A outer s H E hr => pss_cons' (ps_asg' (pe_tup' (pa_cons' (pe_listRg1' rfl (by rfl) B.n_list (by rfl) B.n_range (pv' 1)) (pa_cons' (pv' 2) (pa_cons' (pv' 3) (pa_nil'))))) (pg_tup' rfl (pgs_cons' (pg_fld' (f := 4) B.c_Sorting B.na_Sorting_row (pv' 0)) (pgs_cons' (pg_fld' (f := 5) B.c_Sorting B.na_Sorting_is_turned (pv' 0)) (pgs_cons' (pg_fld' (f := 6) B.c_Sorting B.na_Sorting_asker (pv' 0)) (pgs_nil'))))))
  (pss_cons' (ps_asg' (pe_tup' (pa_cons' (pe_make' G_Joiner (no_Joiner cl) (hr.mono (by decide)) (by rfl) (pa_cons' (pv' 3) (pa_nil'))) (pa_cons' (pe_lst' (pa_nil')) (pa_cons' (pe_lst' (pa_nil')) (pa_cons' (pe_tup' (pa_cons' (pe_str') (pa_nil'))) (pa_nil')))))) (pg_tup' rfl (pgs_cons' (pg_fld' (f := 7) B.c_Sorting B.na_Sorting_joiner (pv' 0)) (pgs_cons' (pg_fld' (f := 8) B.c_Sorting B.na_Sorting_stack (pv' 0)) (pgs_cons' (pg_fld' (f := 9) B.c_Sorting B.na_Sorting_steps (pv' 0)) (pgs_cons' (pg_fld' (f := 10) B.c_Sorting B.na_Sorting_busy (pv' 0)) (pgs_nil')))))))
  (pss_one' (ps_if' (pt_tru' (pv' 2)) (pss_one' (ps_expr' (pe_lm0' md_reverse PySem.F.slot_list_reverse PySem.F.type_list_reverse mt_reverse (pe_fld' (f := 4) B.c_Sorting B.na_Sorting_row (pv' 0))))) (pss_nil'))))) (rd_Sorting_init cl)
def ps_Honest___init__ : List Str := ["self", "keys"]
def N_Honest___init__ : List Str := ["self", "keys"]
theorem sc_Honest___init__ : FnScope N_Honest___init__ ps_Honest___init__ (defScope s_Honest___init__) := ⟨rfl, rfl, rfl, by decide +kernel, rfl, by decide +kernel, by decide +kernel⟩
theorem ok_Honest___init__ (B : Bl K mg cl)  {f : Addr} {fd : FuncData} (F : FunD K "__init__" "Honest.__init__" (defArgs s_Honest___init__) (defBody s_Honest___init__) (defScope s_Honest___init__) [] [] f fd) : FnOk P w K mg base CX0 1 f fd ps_Honest___init__ (liftC K (C_Honest___init__ cl)) :=
  fnOkS (t := t_Honest___init__ cl) F sc_Honest___init__ (fun ds F R Φ h => by obtain ⟨_, _, _, _, e, _⟩ := h; subst e; rfl) (fun cdv A outer s H E hr => pss_one' (ps_asg' (pe_tup' (pa_cons' (pe_callTy' cd_list call_list_of (by rfl) B.n_list (by decide +kernel) (pa_cons' (pv' 1) (pa_nil'))) (pa_cons' (pe_lst' (pa_nil')) (pa_nil')))) (pg_tup' rfl (pgs_cons' (pg_fld' (f := 0) B.c_Honest B.na_Honest_marks (pv' 0)) (pgs_cons' (pg_fld' (f := 1) B.c_Honest B.na_Honest_log (pv' 0)) (pgs_nil')))))) (rd_Honest_init cl)
def ps_sorted_by : List Str := ["keys", "reverse"]
def N_sorted_by : List Str := ["keys", "reverse", "sorting"]
theorem sc_sorted_by : FnScope N_sorted_by ps_sorted_by (defScope s_sorted_by) := ⟨rfl, rfl, rfl, by decide +kernel, rfl, by decide +kernel, by decide +kernel⟩
theorem ok_sorted_by (B : Bl K mg cl) (G_require_bool : Fnd P w K mg base "require_bool" 2 [] (C_require_bool cl) 1) (G_require_keys_1 : Fnd P w K mg base "require_keys" 1 [.int 2000] (C_require_keys cl) 2) (G_Sorting_go : Mtd P w K mg base cl.Sorting "go" [] (C_Sorting_go cl) 6) (G_Sorting : Mkd P w K mg base "Sorting" cl.Sorting [] (C_Sorting___init__ cl) 3) (G_Honest : Mkd P w K mg base "Honest" cl.Honest [] (C_Honest___init__ cl) 1) {f : Addr} {fd : FuncData} (F : FunD K "sorted_by" "sorted_by" (defArgs s_sorted_by) (defBody s_sorted_by) (defScope s_sorted_by) [] [] f fd) : FnOk P w K mg base CX0 7 f fd ps_sorted_by (liftC K (C_sorted_by cl)) :=
  fnOkS (t := t_sorted_by cl) F sc_sorted_by (fun ds F R Φ h => by obtain ⟨_, _, _, e, _⟩ := h; subst e; rfl) (fun cdv A outer s H E hr => pss_cons' (ps_expr' (pe_call' G_require_keys_1 (hr.mono (by decide)) (by rfl) (pa_cons' (pv' 0) (pa_nil'))))
  (pss_cons' (ps_expr' (pe_call' G_require_bool (hr.mono (by decide)) (by rfl) (pa_cons' (pe_str') (pa_cons' (pv' 1) (pa_nil')))))
  (pss_cons' (ps_set' (i := 2) sc_sorted_by.nd (pe_make' G_Sorting (no_Sorting cl) (hr.mono (by decide)) (by rfl) (pa_cons' (pe_callB' cd_len call_len (by rfl) B.n_len PySem.boot_len (pa_cons' (pv' 0) (pa_nil'))) (pa_cons' (pv' 1) (pa_cons' (pe_make' G_Honest (no_Honest cl) (hr.mono (by decide)) (by rfl) (pa_cons' (pv' 0) (pa_nil'))) (pa_nil'))))))
  (pss_cons' (ps_expr' (pe_meth0' (pl := _) G_Sorting_go (hr.mono (by decide)) (pv' 2)))
  (pss_one' (ps_ret' (pv' 2))))))) (rd_sorted_by cl)
def ps_count_of : List Str := ["keys", "reverse"]
def N_count_of : List Str := ["keys", "reverse"]
theorem sc_count_of : FnScope N_count_of ps_count_of (defScope s_count_of) := ⟨rfl, rfl, rfl, by decide +kernel, rfl, by decide +kernel, by decide +kernel⟩
theorem ok_count_of (B : Bl K mg cl) (G_sorted_by : Fnd P w K mg base "sorted_by" 2 [] (C_sorted_by cl) 7) {f : Addr} {fd : FuncData} (F : FunD K "count_of" "count_of" (defArgs s_count_of) (defBody s_count_of) (defScope s_count_of) [] [("reverse", .bl false)] f fd) : FnOk P w K mg base CX0 8 f fd ps_count_of (liftC K (C_count_of cl)) :=
  fnOkS (t := t_count_of cl) F sc_count_of (fun ds F R Φ h => by obtain ⟨_, _, _, e, _⟩ := h; subst e; rfl) (fun cdv A outer s H E hr => pss_one' (ps_ret' (pe_callB' cd_len call_len (by rfl) B.n_len PySem.boot_len (pa_cons' (pe_fld' (f := 1) B.c_Honest B.na_Honest_log (pe_fld' (f := 6) B.c_Sorting B.na_Sorting_asker (pe_call' G_sorted_by (hr.mono (by decide)) (by rfl) (pa_cons' (pv' 0) (pa_cons' (pv' 1) (pa_nil')))))) (pa_nil'))))) (rd_count_of cl)
def ps__law_spots : List Str := ["index", "place"]
def N__law_spots : List Str := ["index", "place", "low", "high", "found", "middle"]
theorem sc__law_spots : FnScope N__law_spots ps__law_spots (defScope s__law_spots) := ⟨rfl, rfl, rfl, by decide +kernel, rfl, by decide +kernel, by decide +kernel⟩
theorem ok__law_spots (B : Bl K mg cl)  {f : Addr} {fd : FuncData} (F : FunD K "_law_spots" "_law_spots" (defArgs s__law_spots) (defBody s__law_spots) (defScope s__law_spots) [] [] f fd) : FnOk P w K mg base CX0 1 f fd ps__law_spots (liftC K (C__law_spots cl)) :=
  fnOkS (t := t__law_spots cl) F sc__law_spots (fun ds F R Φ h => by obtain ⟨_, _, e, _⟩ := h; subst e; rfl) (fun cdv A outer s H E hr => pss_cons' (ps_par3' (i := 2) (j := 3) (l := 4) rfl sc__law_spots.nd (by decide) (by decide) (by decide) (pa_cons' (pe_int') (pa_cons' (pv' 0) (pa_cons' (pe_lst' (pa_nil')) (pa_nil')))))
  (pss_cons' (ps_while' PassesOwn.never (pt_cmp' od_lt op_lt (pv' 2) (pv' 3) (nomark _)) (pss_cons' (ps_set' (i := 5) sc__law_spots.nd (pe_op' od_add op_addA (pv' 2) (pe_op' od_fdiv op_fdivW (pe_op' od_sub op_sub (pv' 3) (pv' 2)) (pe_int'))))
  (pss_cons' (ps_expr' (pe_lm' md_append PySem.F.slot_list_append PySem.F.type_list_append mt_append (pv' 4) (pa_cons' (pv' 5) (pa_nil'))))
  (pss_one' (ps_if' (pt_cmp' od_le op_le (pv' 1) (pv' 5) (nomark _)) (pss_one' (ps_set' (i := 3) sc__law_spots.nd (pv' 5))) (pss_one' (ps_set' (i := 2) sc__law_spots.nd (pe_op' od_add op_addA (pv' 5) (pe_int')))))))))
  (pss_one' (ps_ret' (pv' 4))))) (rd_law_spots cl)
def ps__law_prefix : List Str := ["given", "begin"]
def N__law_prefix : List Str := ["given", "begin", "end"]
theorem sc__law_prefix : FnScope N__law_prefix ps__law_prefix (defScope s__law_prefix) := ⟨rfl, rfl, rfl, by decide +kernel, rfl, by decide +kernel, by decide +kernel⟩
theorem ok__law_prefix (B : Bl K mg cl)  {f : Addr} {fd : FuncData} (F : FunD K "_law_prefix" "_law_prefix" (defArgs s__law_prefix) (defBody s__law_prefix) (defScope s__law_prefix) [] [] f fd) : FnOk P w K mg base CX0 1 f fd ps__law_prefix (liftC K (C__law_prefix cl)) :=
  fnOkS (t := t__law_prefix cl) F sc__law_prefix (fun ds F R Φ h => by obtain ⟨_, _, e, _⟩ := h; subst e; rfl) (fun cdv A outer s H E hr => pss_cons' (ps_set' (i := 2) sc__law_prefix.nd (pe_op' od_add op_addA (pv' 1) (pe_int')))
  (pss_cons' (ps_while' PassesOwn.never (PW'.pt (pw_and' (pt_cmp' od_lt op_lt (pv' 2) (pe_callB' cd_len call_len (by rfl) B.n_len PySem.boot_len (pa_cons' (pv' 0) (pa_nil'))) (nomark _)) (pw_and1' (pt_cmp' od_ge op_ge (pe_ix' (pv' 0) (pv' 2)) (pe_ix' (pv' 0) (pe_op' od_sub op_sub (pv' 2) (pe_int'))) (nomark _))))) (pss_one' (ps_set' (i := 2) sc__law_prefix.nd (pe_op' od_add op_addA (pv' 2) (pe_int')))))
  (pss_one' (ps_ret' (pe_op' od_sub op_sub (pv' 2) (pv' 1)))))) (rd_law_prefix cl)
def ps__law_run_due : List Str := ["given", "begin"]
def N__law_run_due : List Str := ["given", "begin", "asked", "end", "found", "item", "first", "size", "last", "is_going"]
theorem sc__law_run_due : FnScope N__law_run_due ps__law_run_due (defScope s__law_run_due) := ⟨rfl, rfl, rfl, by decide +kernel, rfl, by decide +kernel, by decide +kernel⟩
theorem ok__law_run_due (B : Bl K mg cl) (G__law_prefix : Fnd P w K mg base "_law_prefix" 2 [] (C__law_prefix cl) 1) (TL__law_run_due : LamT K mg base ("_law_run_due", none) (cl.tb ("_law_run_due", none))) {fd : FuncData} (F : FunD K "_law_run_due" "_law_run_due" (defArgs s__law_run_due) (defBody s__law_run_due) (defScope s__law_run_due) [] [] (He.fAd K ("_law_run_due", none)) fd) : FnOk P w K mg base CX0 2 (He.fAd K ("_law_run_due", none)) fd ps__law_run_due (liftC K (C__law_run_due cl)) :=
  fnOkSL (t := t__law_run_due cl) F sc__law_run_due (fun ds F R Φ h => by obtain ⟨_, _, e, _⟩ := h; subst e; rfl) (fun A outer s H E hr => pss_cons' (ps_par' (i := 6) (j := 7) rfl sc__law_run_due.nd (by decide) (pa_cons' (pe_call' G__law_prefix (hr.mono (by decide)) (by rfl) (pa_cons' (pv' 0) (pa_cons' (pv' 1) (pa_nil')))) (pa_cons' (pe_callB' cd_len call_len (by rfl) B.n_len PySem.boot_len (pa_cons' (pv' 0) (pa_nil'))) (pa_nil'))))
  (pss_cons' (ps_setLc' (i := 2) (own := [("item", 5)]) (g := gName 5) (g' := gName' 5) rfl sc__law_run_due.nd (pi_range2' (by rfl) B.n_range (pa_cons' (pe_op' od_add op_addA (pv' 1) (pe_int')) (pa_cons' (pe_callB' cd_min2 (call_min2 rfl) (by rfl) B.n_min boot_min (pa_cons' (pe_op' od_add op_addA (pe_op' od_add op_addA (pv' 1) (pv' 6)) (pe_int')) (pa_cons' (pv' 7) (pa_nil')))) (pa_nil')))) (blkOk_by (own := [("item", 5)]) (N := N__law_run_due) (sc := defScope s__law_run_due) (by decide +kernel)) (own_name (by decide)) (fun _ _ _ _ _ => pg_name (i := 5) sc__law_run_due.nd rfl (by first | exact Or.inl rfl | exact Or.inr rfl)) (fun _ _ _ _ _ => pts_nil') (fun _ _ _ _ _ => pe_tup' (pa_cons' (pv' 5) (pa_cons' (pe_op' od_sub op_sub (pv' 5) (pe_int')) (pa_nil')))))
  (pss_cons' (ps_if' (pt_cmp' od_eq (op_eqA hr.units) (pe_op' od_add op_addA (pv' 1) (pv' 6)) (pv' 7) (nomark _)) (pss_one' (ps_ret' (pe_tup' (pa_cons' (pv' 6) (pa_cons' (pe_listRg2' rfl (by rfl) B.n_list (by rfl) B.n_range (pv' 1) (pv' 7)) (pa_cons' (pv' 2) (pa_nil'))))))) (pss_nil'))
  (pss_cons' (ps_if' (pt_cmp' od_gt op_gt (pv' 6) (pe_int') (nomark _)) (pss_cons' (ps_expr' (pe_lm' md_append PySem.F.slot_list_append PySem.F.type_list_append mt_append (pv' 2) (pa_cons' (pe_tup' (pa_cons' (pv' 1) (pa_cons' (pe_op' od_sub op_sub (pe_op' od_add op_addA (pv' 1) (pv' 6)) (pe_int')) (pa_nil')))) (pa_nil'))))
  (pss_one' (ps_if' (pt_cmp' od_lt op_lt (pe_ix' (pv' 0) (pv' 1)) (pe_ix' (pv' 0) (pe_op' od_sub op_sub (pe_op' od_add op_addA (pv' 1) (pv' 6)) (pe_int'))) (nomark _)) (pss_one' (ps_ret' (pe_tup' (pa_cons' (pv' 6) (pa_cons' (pe_listRg2' rfl (by rfl) B.n_list (by rfl) B.n_range (pv' 1) (pe_op' od_add op_addA (pv' 1) (pv' 6))) (pa_cons' (pv' 2) (pa_nil'))))))) (pss_nil')))) (pss_nil'))
  (pss_wk' (t := t__law_run_due_s4 cl) (pss_cons' (ps_set' (i := 3) sc__law_run_due.nd (pe_op' od_add op_addA (pe_op' od_add op_addA (pv' 1) (pv' 6)) (pe_int')))
  (pss_cons' (ps_while' PassesOwn.never (PW'.pt (pw_and' (pt_cmp' od_lt op_lt (pv' 3) (pv' 7) (nomark _)) (pw_and1' (pt_cmp' od_le op_le (pe_ix' (pv' 0) (pv' 3)) (pe_ix' (pv' 0) (pe_op' od_sub op_sub (pv' 3) (pe_int'))) (nomark _))))) (pss_cons' (ps_expr' (pe_lm' md_append PySem.F.slot_list_append PySem.F.type_list_append mt_append (pv' 2) (pa_cons' (pe_tup' (pa_cons' (pv' 3) (pa_cons' (pe_op' od_sub op_sub (pv' 3) (pe_int')) (pa_nil')))) (pa_nil'))))
  (pss_cons' (ps_if' (pt_cmp' od_eq (op_eqA hr.units) (pe_ix' (pv' 0) (pv' 3)) (pe_ix' (pv' 0) (pe_op' od_sub op_sub (pv' 3) (pe_int'))) (nomark _)) (pss_one' (ps_expr' (pe_lm' md_append PySem.F.slot_list_append PySem.F.type_list_append mt_append (pv' 2) (pa_cons' (pe_tup' (pa_cons' (pe_op' od_sub op_sub (pv' 3) (pe_int')) (pa_cons' (pv' 3) (pa_nil')))) (pa_nil'))))) (pss_nil'))
  (pss_one' (ps_set' (i := 3) sc__law_run_due.nd (pe_op' od_add op_addA (pv' 3) (pe_int')))))))
  (pss_cons' (ps_if' (pt_cmp' od_lt op_lt (pv' 3) (pv' 7) (nomark _)) (pss_one' (ps_expr' (pe_lm' md_extend PySem.F.slot_list_extend PySem.F.type_list_extend mt_extend (pv' 2) (pa_cons' (pe_lst' (pa_cons' (pe_tup' (pa_cons' (pv' 3) (pa_cons' (pe_op' od_sub op_sub (pv' 3) (pe_int')) (pa_nil')))) (pa_cons' (pe_tup' (pa_cons' (pe_op' od_sub op_sub (pv' 3) (pe_int')) (pa_cons' (pv' 3) (pa_nil')))) (pa_nil')))) (pa_nil'))))) (pss_nil'))
  (pss_wk' (t := t__law_run_due_s7 cl) (pss_cons' (ps_set' (i := 4) sc__law_run_due.nd (pe_sortlam' (k := 0) (i := 0) (by rfl) B.n_sorted (pe_listRg2' rfl (by rfl) B.n_list (by rfl) B.n_range (pv' 1) (pv' 3)) TL__law_run_due.tb rfl TL__law_run_due.in_ TL__law_run_due.un (hr.mono (by decide)) (lam1_by (sc := defScope s__law_run_due) (by decide +kernel)) (by rfl) (by rfl) (fun _ _ _ _ _ _ => rfl)))
  (pss_cons' (ps_par' (i := 8) (j := 9) rfl sc__law_run_due.nd (by decide) (pa_cons' (pe_op' od_sub op_sub (pe_op' od_add op_addA (pv' 1) (pv' 6)) (pe_int')) (pa_cons' (pe_bl') (pa_nil'))))
  (pss_cons' (ps_for' PassesOwn.never rfl (pi_range2' (by rfl) B.n_range (pa_cons' (pv' 3) (pa_cons' (pv' 7) (pa_nil')))) (pg_name' (i := 5) sc__law_run_due.nd) (pss_one' (ps_if' (pt_tru' (pv' 9)) (pss_cons' (ps_expr' (pe_lm' md_append PySem.F.slot_list_append PySem.F.type_list_append mt_append (pv' 2) (pa_cons' (pe_tup' (pa_cons' (pv' 5) (pa_cons' (pv' 8) (pa_nil')))) (pa_nil'))))
  (pss_cons' (ps_set' (i := 9) sc__law_run_due.nd (pe_cmp' od_ge op_ge (pe_ix' (pv' 0) (pv' 5)) (pe_ix' (pv' 0) (pv' 8)) (nomark _)))
  (pss_cons' (ps_set' (i := 4) sc__law_run_due.nd (pe_op' od_add op_addA (pv' 4) (pe_op' od_mul op_mulA (pe_lst' (pa_cons' (pv' 5) (pa_nil'))) (pe_callTy' cd_int call_int1 (by rfl) B.n_int (by decide +kernel) (pa_cons' (pv' 9) (pa_nil'))))))
  (pss_one' (ps_set' (i := 8) sc__law_run_due.nd (pv' 5)))))) (pss_nil'))))
  (pss_one' (ps_ret' (pe_tup' (pa_cons' (pe_callB' cd_len call_len (by rfl) B.n_len PySem.boot_len (pa_cons' (pv' 4) (pa_nil'))) (pa_cons' (pv' 4) (pa_cons' (pv' 2) (pa_nil'))))))))))))))))))) (rd_law_run_due cl)
def ps__law_sorted_count : List Str := ["given"]
def N__law_sorted_count : List Str := ["given", "item", "length", "items", "asked", "row", "found", "place", "one"]
theorem sc__law_sorted_count : FnScope N__law_sorted_count ps__law_sorted_count (defScope s__law_sorted_count) := ⟨rfl, rfl, rfl, by decide +kernel, rfl, by decide +kernel, by decide +kernel⟩
theorem ok__law_sorted_count (B : Bl K mg cl) (G__law_spots : Fnd P w K mg base "_law_spots" 2 [] (C__law_spots cl) 1) (G__law_run_due : Fnd P w K mg base "_law_run_due" 2 [] (C__law_run_due cl) 2) {f : Addr} {fd : FuncData} (F : FunD K "_law_sorted_count" "_law_sorted_count" (defArgs s__law_sorted_count) (defBody s__law_sorted_count) (defScope s__law_sorted_count) [] [] f fd) : FnOk P w K mg base CX0 3 f fd ps__law_sorted_count (liftC K (C__law_sorted_count cl)) :=
  fnOkS (t := t__law_sorted_count cl) F sc__law_sorted_count (fun ds F R Φ h => by obtain ⟨_, _, e, _⟩ := h; subst e; rfl) (fun cdv A outer s H E hr => pss_cons' (ps_asg' (pe_call' G__law_run_due (hr.mono (by decide)) (by rfl) (pa_cons' (pv' 0) (pa_cons' (pe_int') (pa_nil')))) (pg_tup' rfl (pgs_cons' (pg_name' (i := 2) sc__law_sorted_count.nd) (pgs_cons' (pg_name' (i := 3) sc__law_sorted_count.nd) (pgs_cons' (pg_name' (i := 4) sc__law_sorted_count.nd) (pgs_nil'))))))
  (pss_cons' (ps_par' (i := 5) (j := 6) rfl sc__law_sorted_count.nd (by decide) (pa_cons' (pe_callTy' cd_list call_list_of (by rfl) B.n_list (by decide +kernel) (pa_cons' (pv' 3) (pa_nil'))) (pa_cons' (pe_callB' cd_len call_len (by rfl) B.n_len PySem.boot_len (pa_cons' (pv' 4) (pa_nil'))) (pa_nil'))))
  (pss_cons' (ps_for' PassesOwn.never rfl (pi_range2' (by rfl) B.n_range (pa_cons' (pv' 2) (pa_cons' (pe_callB' cd_len call_len (by rfl) B.n_len PySem.boot_len (pa_cons' (pv' 0) (pa_nil'))) (pa_nil')))) (pg_name' (i := 1) sc__law_sorted_count.nd) (pss_cons' (ps_set' (i := 7) sc__law_sorted_count.nd (pe_callB' cd_len call_len (by rfl) B.n_len PySem.boot_len (pa_cons' (pe_lc' (own := [("one", 8)]) (g := gName 8) (g' := gName' 8) rfl sc__law_sorted_count.nd (pi_seq' (pv' 5)) (blkOk_by (own := [("one", 8)]) (N := N__law_sorted_count) (sc := defScope s__law_sorted_count) (by decide +kernel)) (own_name (by decide)) (fun _ _ _ _ _ => pg_name (i := 8) sc__law_sorted_count.nd rfl (by first | exact Or.inl rfl | exact Or.inr rfl)) (fun _ _ _ _ _ => pts_one' (pt_cmp' od_le op_le (pe_ix' (pv' 0) (pv' 8)) (pe_ix' (pv' 0) (pv' 1)) (nomark _))) (fun _ _ _ _ _ => pv' 8)) (pa_nil'))))
  (pss_cons' (ps_set' (i := 6) sc__law_sorted_count.nd (pe_op' od_add op_addA (pv' 6) (pe_callB' cd_len call_len (by rfl) B.n_len PySem.boot_len (pa_cons' (pe_call' G__law_spots (hr.mono (by decide)) (by rfl) (pa_cons' (pv' 1) (pa_cons' (pv' 7) (pa_nil')))) (pa_nil')))))
  (pss_one' (ps_expr' (pe_lm' md_insert PySem.F.slot_list_insert PySem.F.type_list_insert mt_insert (pv' 5) (pa_cons' (pv' 7) (pa_cons' (pv' 1) (pa_nil')))))))))
  (pss_one' (ps_ret' (pv' 6)))))) (rd_law_sorted_count cl)
def ps__law_draw : List Str := ["source", "size"]
def N__law_draw : List Str := ["source", "size", "mixed", "digit"]
theorem sc__law_draw : FnScope N__law_draw ps__law_draw (defScope s__law_draw) := ⟨rfl, rfl, rfl, by decide +kernel, rfl, by decide +kernel, by decide +kernel⟩
theorem ok__law_draw (B : Bl K mg cl)  {f : Addr} {fd : FuncData} (F : FunD K "_law_draw" "_law_draw" (defArgs s__law_draw) (defBody s__law_draw) (defScope s__law_draw) [] [] f fd) : FnOk P w K mg base CX0 1 f fd ps__law_draw (liftC K (C__law_draw cl)) :=
  fnOkS (t := t__law_draw cl) F sc__law_draw (fun ds F R Φ h => by obtain ⟨_, _, _, _, _, e, _⟩ := h; subst e; rfl) (fun cdv A outer s H E hr => pss_cons' (ps_if' (pt_cmp' od_gt op_gt (pe_ix' (pv' 0) (pe_int')) (pe_int') (nomark _)) (pss_cons' (ps_set' (i := 3) sc__law_draw.nd (pe_op' od_mod op_mod (pe_callTy' cd_int call_int1 (by rfl) B.n_int (by decide +kernel) (pa_cons' (pe_ix' (pv' 0) (pe_int')) (pa_nil'))) (pv' 1)))
  (pss_cons' (ps_asg' (pe_op' od_fdiv op_fdivW (pe_ix' (pv' 0) (pe_int')) (pv' 1)) (pg_sub' (pv' 0) (pe_int')))
  (pss_one' (ps_ret' (pv' 3))))) (pss_nil'))
  (pss_cons' (ps_asg' (pe_op' od_add op_addA (pe_ix' (pv' 0) (pe_int')) (pe_int')) (pg_sub' (pv' 0) (pe_int')))
  (pss_cons' (ps_set' (i := 2) sc__law_draw.nd (pe_op' od_mod op_mod (pe_callTy' cd_int call_int1 (by rfl) B.n_int (by decide +kernel) (pa_cons' (pe_op' od_mul op_mulA (pe_op' od_add op_addA (pe_op' od_add op_addA (pe_ix' (pv' 0) (pe_int')) (pe_op' od_mul op_mulA (pe_int') (pe_ix' (pv' 0) (pe_int')))) (pe_int')) (pe_int')) (pa_nil'))) (pe_int')))
  (pss_cons' (ps_set' (i := 2) sc__law_draw.nd (pe_op' od_mod op_mod (pe_callTy' cd_int call_int1 (by rfl) B.n_int (by decide +kernel) (pa_cons' (pe_op' od_mul op_mulA (pv' 2) (pe_op' od_add op_addA (pe_op' od_add op_addA (pe_op' od_fdiv op_fdivW (pv' 2) (pe_int')) (pe_int')) (pe_ix' (pv' 0) (pe_int')))) (pa_nil'))) (pe_int')))
  (pss_one' (ps_ret' (pe_op' od_mod op_mod (pe_callTy' cd_int call_int1 (by rfl) B.n_int (by decide +kernel) (pa_cons' (pe_op' od_fdiv op_fdivW (pe_op' od_mod op_mod (pe_callTy' cd_int call_int1 (by rfl) B.n_int (by decide +kernel) (pa_cons' (pe_op' od_mul op_mulA (pv' 2) (pe_op' od_add op_addA (pe_op' od_fdiv op_fdivW (pv' 2) (pe_int')) (pe_int'))) (pa_nil'))) (pe_int')) (pe_int')) (pa_nil'))) (pv' 1)))))))) (rd_law_draw cl)
def ps_depth : List Str := ["index", "place"]
def N_depth : List Str := ["index", "place", "low", "high", "found", "middle"]
theorem sc_depth : FnScope N_depth ps_depth (defScope s_depth) := ⟨rfl, rfl, rfl, by decide +kernel, rfl, by decide +kernel, by decide +kernel⟩
theorem ok_depth (B : Bl K mg cl)  {f : Addr} {fd : FuncData} (F : FunD K "depth" "depth" (defArgs s_depth) (defBody s_depth) (defScope s_depth) [] [] f fd) : FnOk P w K mg base CX0 1 f fd ps_depth (liftC K (C_depth cl)) :=
  fnOkS (t := t_depth cl) F sc_depth (fun ds F R Φ h => by obtain ⟨_, _, e, _⟩ := h; subst e; rfl) (fun cdv A outer s H E hr => pss_cons' (ps_par3' (i := 2) (j := 3) (l := 4) rfl sc_depth.nd (by decide) (by decide) (by decide) (pa_cons' (pe_int') (pa_cons' (pv' 0) (pa_cons' (pe_int') (pa_nil')))))
  (pss_cons' (ps_while' PassesOwn.never (pt_cmp' od_lt op_lt (pv' 2) (pv' 3) (nomark _)) (pss_cons' (ps_set' (i := 5) sc_depth.nd (pe_op' od_fdiv op_fdivW (pe_op' od_add op_addA (pv' 2) (pv' 3)) (pe_int')))
  (pss_cons' (ps_asg' (pe_ifExp' (pt_cmp' od_le op_le (pv' 1) (pv' 5) (nomark _)) (pe_tup' (pa_cons' (pv' 2) (pa_cons' (pv' 5) (pa_nil')))) (pe_tup' (pa_cons' (pe_op' od_add op_addA (pv' 5) (pe_int')) (pa_cons' (pv' 3) (pa_nil'))))) (pg_tup' rfl (pgs_cons' (pg_name' (i := 2) sc_depth.nd) (pgs_cons' (pg_name' (i := 3) sc_depth.nd) (pgs_nil')))))
  (pss_one' (ps_aug' (i := 4) sc_depth.nd od_ipadd ip_add (pe_int'))))))
  (pss_one' (ps_ret' (pv' 4))))) (rd_depth cl)
def ps_depths : List Str := ["index", "low", "high"]
def N_depths : List Str := ["index", "low", "high", "place"]
theorem sc_depths : FnScope N_depths ps_depths (defScope s_depths) := ⟨rfl, rfl, rfl, by decide +kernel, rfl, by decide +kernel, by decide +kernel⟩
theorem ok_depths (B : Bl K mg cl) (G_depth : Fnd P w K mg base "depth" 2 [] (C_depth cl) 1) {f : Addr} {fd : FuncData} (F : FunD K "depths" "depths" (defArgs s_depths) (defBody s_depths) (defScope s_depths) [] [] f fd) : FnOk P w K mg base CX0 2 f fd ps_depths (liftC K (C_depths cl)) :=
  fnOkS (t := t_depths cl) F sc_depths (fun ds F R Φ h => by obtain ⟨_, _, _, e, _⟩ := h; subst e; rfl) (fun cdv A outer s H E hr => pss_one' (ps_ret' (pe_callB' cd_sum (cr_sum rfl) (by rfl) B.n_sum boot_sum (pa_cons' (pe_lc' (own := [("place", 3)]) (g := gName 3) (g' := gName' 3) rfl sc_depths.nd (pi_range2' (by rfl) B.n_range (pa_cons' (pv' 1) (pa_cons' (pv' 2) (pa_nil')))) (blkOk_by (own := [("place", 3)]) (N := N_depths) (sc := defScope s_depths) (by decide +kernel)) (own_name (by decide)) (fun _ _ _ _ _ => pg_name (i := 3) sc_depths.nd rfl (by first | exact Or.inl rfl | exact Or.inr rfl)) (fun _ _ _ _ _ => pts_nil') (fun _ _ _ _ _ => pe_call' G_depth (hr.mono (by decide)) (by rfl) (pa_cons' (pv' 0) (pa_cons' (pv' 3) (pa_nil'))))) (pa_nil'))))) (rd_depths cl)
def ps_sum_with_run : List Str := ["many", "length", "orders", "ways"]
def N_sum_with_run : List Str := ["many", "length", "orders", "ways", "found", "index", "any_place", "inner", "rising", "falling", "grown"]
theorem sc_sum_with_run : FnScope N_sum_with_run ps_sum_with_run (defScope s_sum_with_run) := ⟨rfl, rfl, rfl, by decide +kernel, rfl, by decide +kernel, by decide +kernel⟩
theorem ok_sum_with_run (B : Bl K mg cl) (G_depths : Fnd P w K mg base "depths" 3 [] (C_depths cl) 2) {f : Addr} {fd : FuncData} (F : FunD K "sum_with_run" "sum_with_run" (defArgs s_sum_with_run) (defBody s_sum_with_run) (defScope s_sum_with_run) [] [] f fd) : FnOk P w K mg base CX0 3 f fd ps_sum_with_run (liftC K (C_sum_with_run cl)) :=
  fnOkS (t := t_sum_with_run cl) F sc_sum_with_run (fun ds F R Φ h => by obtain ⟨_, _, _, _, _, e, _⟩ := h; subst e; rfl) (fun cdv A outer s H E hr => pss_cons' (ps_par' (i := 6) (j := 7) rfl sc_sum_with_run.nd (by decide) (pa_cons' (pe_call' G_depths (hr.mono (by decide)) (by rfl) (pa_cons' (pv' 1) (pa_cons' (pe_int') (pa_cons' (pv' 1) (pa_nil'))))) (pa_cons' (pe_call' G_depths (hr.mono (by decide)) (by rfl) (pa_cons' (pv' 1) (pa_cons' (pe_int') (pa_cons' (pv' 1) (pa_nil'))))) (pa_nil'))))
  (pss_cons' (ps_par3' (i := 8) (j := 9) (l := 10) rfl sc_sum_with_run.nd (by decide) (by decide) (by decide) (pa_cons' (pe_op' od_mul op_mulA (pv' 1) (pv' 2)) (pa_cons' (pe_op' od_mul op_mulA (pe_op' od_sub op_sub (pv' 1) (pe_int')) (pv' 2)) (pa_cons' (pe_op' od_mul op_mulA (pe_op' od_mul op_mulA (pe_op' od_sub op_sub (pv' 1) (pe_int')) (pv' 1)) (pv' 2)) (pa_nil')))))
  (pss_cons' (ps_set' (i := 4) sc_sum_with_run.nd (pe_op' od_add op_addA (pe_op' od_mul op_mulA (pv' 8) (pe_op' od_add op_addA (pv' 1) (pe_int'))) (pe_op' od_mul op_mulA (pv' 2) (pv' 6))))
  (pss_cons' (ps_set' (i := 4) sc_sum_with_run.nd (pe_op' od_add op_addA (pe_op' od_add op_addA (pv' 4) (pe_op' od_mul op_mulA (pv' 9) (pe_op' od_add op_addA (pv' 1) (pe_int')))) (pe_op' od_mul op_mulA (pv' 2) (pv' 7))))
  (pss_cons' (ps_set' (i := 4) sc_sum_with_run.nd (pe_op' od_add op_addA (pe_op' od_add op_addA (pv' 4) (pe_op' od_mul op_mulA (pv' 10) (pe_op' od_add op_addA (pv' 1) (pe_int')))) (pe_op' od_mul op_mulA (pe_op' od_mul op_mulA (pe_op' od_sub op_sub (pv' 1) (pe_int')) (pv' 2)) (pv' 6))))
  (pss_cons' (ps_for' PassesOwn.never rfl (pi_range2' (by rfl) B.n_range (pa_cons' (pe_op' od_add op_addA (pv' 1) (pe_int')) (pa_cons' (pv' 0) (pa_nil')))) (pg_name' (i := 5) sc_sum_with_run.nd) (pss_one' (ps_set' (i := 4) sc_sum_with_run.nd (pe_op' od_add op_addA (pv' 4) (pe_op' od_mul op_mulA (pe_op' od_fdiv op_fdivW (pe_op' od_add op_addA (pe_op' od_add op_addA (pv' 8) (pv' 9)) (pv' 10)) (pe_op' od_add op_addA (pv' 5) (pe_int'))) (pe_ix' (pv' 3) (pv' 5)))))))
  (pss_one' (ps_ret' (pv' 4))))))))) (rd_sum_with_run cl)
def ps_factorial : List Str := ["many"]
def N_factorial : List Str := ["many", "found", "factor"]
theorem sc_factorial : FnScope N_factorial ps_factorial (defScope s_factorial) := ⟨rfl, rfl, rfl, by decide +kernel, rfl, by decide +kernel, by decide +kernel⟩
theorem ok_factorial (B : Bl K mg cl)  {f : Addr} {fd : FuncData} (F : FunD K "factorial" "factorial" (defArgs s_factorial) (defBody s_factorial) (defScope s_factorial) [] [] f fd) : FnOk P w K mg base CX0 1 f fd ps_factorial (liftC K (C_factorial cl)) :=
  fnOkS (t := t_factorial cl) F sc_factorial (fun ds F R Φ h => by obtain ⟨_, e, _⟩ := h; subst e; rfl) (fun cdv A outer s H E hr => pss_cons' (ps_set' (i := 1) sc_factorial.nd (pe_int'))
  (pss_cons' (ps_for' PassesOwn.never rfl (pi_range2' (by rfl) B.n_range (pa_cons' (pe_int') (pa_cons' (pe_op' od_add op_addA (pv' 0) (pe_int')) (pa_nil')))) (pg_name' (i := 2) sc_factorial.nd) (pss_one' (ps_set' (i := 1) sc_factorial.nd (pe_op' od_mul op_mulA (pv' 1) (pv' 2)))))
  (pss_one' (ps_ret' (pv' 1))))) (rd_factorial cl)
def ps_is_between : List Str := ["value", "low", "high"]
def N_is_between : List Str := ["value", "low", "high"]
theorem sc_is_between : FnScope N_is_between ps_is_between (defScope s_is_between) := ⟨rfl, rfl, rfl, by decide +kernel, rfl, by decide +kernel, by decide +kernel⟩
theorem ok_is_between (B : Bl K mg cl) (G_is_integer : Fnd P w K mg base "is_integer" 1 [] (C_is_integer cl) 1) {f : Addr} {fd : FuncData} (F : FunD K "is_between" "is_between" (defArgs s_is_between) (defBody s_is_between) (defScope s_is_between) [] [] f fd) : FnOk P w K mg base CX0 2 f fd ps_is_between (liftC K (C_is_between cl)) :=
  fnOkS (t := t_is_between cl) F sc_is_between (fun ds F R Φ h => by obtain ⟨_, _, _, e, _⟩ := h; subst e; rfl) (fun cdv A outer s H E hr => pss_one' (ps_ret' (pe_and' (pe_call' G_is_integer (hr.mono (by decide)) (by rfl) (pa_cons' (pv' 0) (pa_nil'))) (pe_one' (pe_chain' od_le od_le op_le op_le (pv' 1) (pv' 0) (pv' 2)))))) (rd_is_between cl)
def ps_require_number : List Str := ["name", "value", "low", "high"]
def N_require_number : List Str := ["name", "value", "low", "high"]
theorem sc_require_number : FnScope N_require_number ps_require_number (defScope s_require_number) := ⟨rfl, rfl, rfl, by decide +kernel, rfl, by decide +kernel, by decide +kernel⟩
theorem ok_require_number (B : Bl K mg cl) (G_is_between : Fnd P w K mg base "is_between" 3 [] (C_is_between cl) 2) {f : Addr} {fd : FuncData} (F : FunD K "require_number" "require_number" (defArgs s_require_number) (defBody s_require_number) (defScope s_require_number) [] [] f fd) : FnOk P w K mg base CX0 3 f fd ps_require_number (liftC K (C_require_number cl)) :=
  fnOkS (t := t_require_number cl) F sc_require_number (fun ds F R Φ h => by obtain ⟨_, _, _, _, e, _⟩ := h; subst e; rfl) (fun cdv A outer s H E hr => pss_one' (ps_if' (pt_not' (pt_tru' (pe_call' G_is_between (hr.mono (by decide)) (by rfl) (pa_cons' (pv' 1) (pa_cons' (pv' 2) (pa_cons' (pv' 3) (pa_nil'))))))) (pss_one' (ps_never')) (pss_nil'))) (rd_require_number cl)
def ps_sum_of : List Str := ["many"]
def N_sum_of : List Str := ["many", "every", "whole", "ways", "length", "index"]
theorem sc_sum_of : FnScope N_sum_of ps_sum_of (defScope s_sum_of) := ⟨rfl, rfl, rfl, by decide +kernel, rfl, by decide +kernel, by decide +kernel⟩
theorem ok_sum_of (B : Bl K mg cl) (G_sum_with_run : Fnd P w K mg base "sum_with_run" 4 [] (C_sum_with_run cl) 3) (G_factorial : Fnd P w K mg base "factorial" 1 [] (C_factorial cl) 1) (G_depths : Fnd P w K mg base "depths" 3 [] (C_depths cl) 2) (G_require_number : Fnd P w K mg base "require_number" 4 [] (C_require_number cl) 3) {f : Addr} {fd : FuncData} (F : FunD K "sum_of" "sum_of" (defArgs s_sum_of) (defBody s_sum_of) (defScope s_sum_of) [] [] f fd) : FnOk P w K mg base CX0 4 f fd ps_sum_of (liftC K (C_sum_of cl)) :=
  fnOkS (t := t_sum_of cl) F sc_sum_of (fun ds F R Φ h => by obtain ⟨_, e, _⟩ := h; subst e; rfl) (fun cdv A outer s H E hr => pss_cons' (ps_expr' (pe_call' G_require_number (hr.mono (by decide)) (by rfl) (pa_cons' (pe_str') (pa_cons' (pv' 0) (pa_cons' (pe_int') (pa_cons' (pe_gint (by rfl) B.i_MAX_SINGLE) (pa_nil')))))))
  (pss_cons' (ps_if' (pt_cmp' od_lt op_lt (pv' 0) (pe_int') (nomark _)) (pss_one' (ps_ret' (pe_int'))) (pss_nil'))
  (pss_cons' (ps_set' (i := 1) sc_sum_of.nd (pe_call' G_factorial (hr.mono (by decide)) (by rfl) (pa_cons' (pv' 0) (pa_nil'))))
  (pss_cons' (ps_set' (i := 2) sc_sum_of.nd (pe_op' od_add op_addA (pe_op' od_mul op_mulA (pe_int') (pe_op' od_sub op_sub (pv' 0) (pe_int'))) (pe_op' od_mul op_mulA (pe_op' od_sub op_sub (pv' 0) (pe_int')) (pe_op' od_add op_addA (pv' 0) (pe_int')))))
  (pss_cons' (ps_setLc' (i := 3) (own := [("index", 5)]) (g := gName 5) (g' := gName' 5) rfl sc_sum_of.nd (pi_range1' (by rfl) B.n_range (pa_cons' (pv' 0) (pa_nil'))) (blkOk_by (own := [("index", 5)]) (N := N_sum_of) (sc := defScope s_sum_of) (by decide +kernel)) (own_name (by decide)) (fun _ _ _ _ _ => pg_name (i := 5) sc_sum_of.nd rfl (by first | exact Or.inl rfl | exact Or.inr rfl)) (fun _ _ _ _ _ => pts_nil') (fun _ _ _ _ _ => pe_call' G_depths (hr.mono (by decide)) (by rfl) (pa_cons' (pv' 5) (pa_cons' (pe_int') (pa_cons' (pe_op' od_add op_addA (pv' 5) (pe_int')) (pa_nil'))))))
  (pss_cons' (ps_for' PassesOwn.never rfl (pi_range2' (by rfl) B.n_range (pa_cons' (pe_int') (pa_cons' (pv' 0) (pa_nil')))) (pg_name' (i := 4) sc_sum_of.nd) (pss_one' (ps_set' (i := 2) sc_sum_of.nd (pe_op' od_add op_addA (pv' 2) (pe_call' G_sum_with_run (hr.mono (by decide)) (by rfl) (pa_cons' (pv' 0) (pa_cons' (pv' 4) (pa_cons' (pe_op' od_fdiv op_fdivW (pv' 1) (pe_call' G_factorial (hr.mono (by decide)) (by rfl) (pa_cons' (pe_op' od_add op_addA (pv' 4) (pe_int')) (pa_nil')))) (pa_cons' (pv' 3) (pa_nil'))))))))))
  (pss_one' (ps_ret' (pv' 2))))))))) (rd_sum_of cl)
def ps__law_source : List Str := ["cell"]
def N__law_source : List Str := ["cell"]
theorem sc__law_source : FnScope N__law_source ps__law_source (defScope s__law_source) := ⟨rfl, rfl, rfl, by decide +kernel, rfl, by decide +kernel, by decide +kernel⟩
theorem ok__law_source (B : Bl K mg cl)  {f : Addr} {fd : FuncData} (F : FunD K "_law_source" "_law_source" (defArgs s__law_source) (defBody s__law_source) (defScope s__law_source) [] [] f fd) : FnOk P w K mg base CX0 1 f fd ps__law_source (liftC K (C__law_source cl)) :=
  fnOkS (t := t__law_source cl) F sc__law_source (fun ds F R Φ h => by obtain ⟨_, e, _⟩ := h; subst e; rfl) (fun cdv A outer s H E hr => pss_one' (ps_ret' (pe_lst' (pa_cons' (pe_op' od_mul op_mulA (pe_callB' cd_abs call_abs (by rfl) B.n_abs boot_abs (pa_cons' (pv' 0) (pa_nil'))) (pe_callTy' cd_int call_int1 (by rfl) B.n_int (by decide +kernel) (pa_cons' (pe_cmp' od_ge op_ge (pe_callB' cd_abs call_abs (by rfl) B.n_abs boot_abs (pa_cons' (pv' 0) (pa_nil'))) (pe_op' od_pow op_pow (pe_int') (pe_int')) (nomark _)) (pa_nil')))) (pa_cons' (pe_op' od_mod op_mod (pe_callTy' cd_int call_int1 (by rfl) B.n_int (by decide +kernel) (pa_cons' (pv' 0) (pa_nil'))) (pe_int')) (pa_cons' (pe_int') (pa_nil'))))))) (rd_law_source cl)
def ps__law_orders : List Str := ["size"]
def N__law_orders : List Str := ["size", "found", "last", "longer", "row", "place", "one"]
theorem sc__law_orders : FnScope N__law_orders ps__law_orders (defScope s__law_orders) := ⟨rfl, rfl, rfl, by decide +kernel, rfl, by decide +kernel, by decide +kernel⟩
theorem ok__law_orders (B : Bl K mg cl)  {f : Addr} {fd : FuncData} (F : FunD K "_law_orders" "_law_orders" (defArgs s__law_orders) (defBody s__law_orders) (defScope s__law_orders) [] [] f fd) : FnOk P w K mg base CX0 1 f fd ps__law_orders (liftC K (C__law_orders cl)) :=
  fnOkS (t := t__law_orders cl) F sc__law_orders (fun ds F R Φ h => by obtain ⟨_, e, _⟩ := h; subst e; rfl) (fun cdv A outer s H E hr => pss_cons' (ps_set' (i := 1) sc__law_orders.nd (pe_lst' (pa_cons' (pe_lst' (pa_nil')) (pa_nil'))))
  (pss_cons' (ps_for' PassesOwn.never rfl (pi_range1' (by rfl) B.n_range (pa_cons' (pv' 0) (pa_nil'))) (pg_name' (i := 2) sc__law_orders.nd) (pss_cons' (ps_set' (i := 3) sc__law_orders.nd (pe_lst' (pa_nil')))
  (pss_cons' (ps_for' PassesOwn.never rfl (pi_seq' (pv' 1)) (pg_name' (i := 4) sc__law_orders.nd) (pss_one' (ps_set' (i := 3) sc__law_orders.nd (pe_op' od_add op_addA (pv' 3) (pe_lc' (own := [("place", 5)]) (g := gName 5) (g' := gName' 5) rfl sc__law_orders.nd (pi_range1' (by rfl) B.n_range (pa_cons' (pe_op' od_add op_addA (pv' 2) (pe_int')) (pa_nil'))) (blkOk_by (own := [("place", 5)]) (N := N__law_orders) (sc := defScope s__law_orders) (by decide +kernel)) (own_name (by decide)) (fun _ _ _ _ _ => pg_name (i := 5) sc__law_orders.nd rfl (by first | exact Or.inl rfl | exact Or.inr rfl)) (fun _ _ _ _ _ => pts_nil') (fun _ _ _ _ _ => pe_op' od_add op_addA (pe_lc' (own := [("one", 6)]) (g := gName 6) (g' := gName' 6) rfl sc__law_orders.nd (pi_seq' (pv' 4)) (blkOk_by (own := [("one", 6)]) (N := N__law_orders) (by kernel_rfl)) (own_name (by decide)) (fun _ _ _ _ _ => pg_name (i := 6) sc__law_orders.nd rfl (by first | exact Or.inl rfl | exact Or.inr rfl)) (fun _ _ _ _ _ => pts_nil') (fun _ _ _ _ _ => pe_op' od_add op_addA (pv' 6) (pe_callTy' cd_int call_int1 (by rfl) B.n_int (by decide +kernel) (pa_cons' (pe_cmp' od_ge op_ge (pv' 6) (pv' 5) (nomark _)) (pa_nil'))))) (pe_lst' (pa_cons' (pv' 5) (pa_nil')))))))))
  (pss_one' (ps_set' (i := 1) sc__law_orders.nd (pv' 3))))))
  (pss_one' (ps_ret' (pv' 1))))) (rd_law_orders cl)
def ps__law_ways : List Str := ["size", "low", "high"]
def N__law_ways : List Str := ["size", "low", "high", "place"]
theorem sc__law_ways : FnScope N__law_ways ps__law_ways (defScope s__law_ways) := ⟨rfl, rfl, rfl, by decide +kernel, rfl, by decide +kernel, by decide +kernel⟩
theorem ok__law_ways (B : Bl K mg cl) (G__law_spots : Fnd P w K mg base "_law_spots" 2 [] (C__law_spots cl) 1) {f : Addr} {fd : FuncData} (F : FunD K "_law_ways" "_law_ways" (defArgs s__law_ways) (defBody s__law_ways) (defScope s__law_ways) [] [] f fd) : FnOk P w K mg base CX0 2 f fd ps__law_ways (liftC K (C__law_ways cl)) :=
  fnOkS (t := t__law_ways cl) F sc__law_ways (fun ds F R Φ h => by obtain ⟨_, _, _, e, _⟩ := h; subst e; rfl) (fun cdv A outer s H E hr => pss_one' (ps_ret' (pe_callB' cd_sum (cr_sum rfl) (by rfl) B.n_sum boot_sum (pa_cons' (pe_lc' (own := [("place", 3)]) (g := gName 3) (g' := gName' 3) rfl sc__law_ways.nd (pi_range2' (by rfl) B.n_range (pa_cons' (pv' 1) (pa_cons' (pv' 2) (pa_nil')))) (blkOk_by (own := [("place", 3)]) (N := N__law_ways) (sc := defScope s__law_ways) (by decide +kernel)) (own_name (by decide)) (fun _ _ _ _ _ => pg_name (i := 3) sc__law_ways.nd rfl (by first | exact Or.inl rfl | exact Or.inr rfl)) (fun _ _ _ _ _ => pts_nil') (fun _ _ _ _ _ => pe_callB' cd_len call_len (by rfl) B.n_len PySem.boot_len (pa_cons' (pe_call' G__law_spots (hr.mono (by decide)) (by rfl) (pa_cons' (pv' 0) (pa_cons' (pv' 3) (pa_nil')))) (pa_nil')))) (pa_nil'))))) (rd_law_ways cl)
def ps__law_step : List Str := ["stands", "size"]
def N__law_step : List Str := ["stands", "size", "asked", "rest", "rising", "falling", "grown", "every", "inner"]
theorem sc__law_step : FnScope N__law_step ps__law_step (defScope s__law_step) := ⟨rfl, rfl, rfl, by decide +kernel, rfl, by decide +kernel, by decide +kernel⟩
theorem ok__law_step (B : Bl K mg cl) (G__law_ways : Fnd P w K mg base "_law_ways" 3 [] (C__law_ways cl) 2) {f : Addr} {fd : FuncData} (F : FunD K "_law_step" "_law_step" (defArgs s__law_step) (defBody s__law_step) (defScope s__law_step) [] [] f fd) : FnOk P w K mg base CX0 3 f fd ps__law_step (liftC K (C__law_step cl)) :=
  fnOkS (t := t__law_step cl) F sc__law_step (fun ds F R Φ h => by obtain ⟨_, _, e, _⟩ := h; subst e; rfl) (fun cdv A outer s H E hr => pss_cons' (ps_asg' (pv' 0) (pg_tup' rfl (pgs_cons' (pg_name' (i := 4) sc__law_step.nd) (pgs_cons' (pg_name' (i := 5) sc__law_step.nd) (pgs_cons' (pg_name' (i := 6) sc__law_step.nd) (pgs_cons' (pg_name' (i := 3) sc__law_step.nd) (pgs_nil')))))))
  (pss_cons' (ps_par' (i := 7) (j := 8) rfl sc__law_step.nd (by decide) (pa_cons' (pe_call' G__law_ways (hr.mono (by decide)) (by rfl) (pa_cons' (pv' 1) (pa_cons' (pe_int') (pa_cons' (pv' 1) (pa_nil'))))) (pa_cons' (pe_call' G__law_ways (hr.mono (by decide)) (by rfl) (pa_cons' (pv' 1) (pa_cons' (pe_int') (pa_cons' (pv' 1) (pa_nil'))))) (pa_nil'))))
  (pss_cons' (ps_set' (i := 2) sc__law_step.nd (pe_op' od_add op_addA (pe_op' od_mul op_mulA (pv' 4) (pe_op' od_add op_addA (pe_op' od_add op_addA (pe_int') (pe_op' od_mul op_mulA (pe_int') (pv' 1))) (pv' 7))) (pe_op' od_mul op_mulA (pv' 5) (pe_op' od_add op_addA (pe_op' od_add op_addA (pe_int') (pe_op' od_mul op_mulA (pe_int') (pv' 1))) (pv' 8)))))
  (pss_cons' (ps_set' (i := 2) sc__law_step.nd (pe_op' od_add op_addA (pe_op' od_add op_addA (pv' 2) (pe_op' od_mul op_mulA (pv' 6) (pe_op' od_add op_addA (pe_op' od_add op_addA (pe_int') (pv' 1)) (pv' 7)))) (pe_op' od_mul op_mulA (pv' 3) (pe_call' G__law_ways (hr.mono (by decide)) (by rfl) (pa_cons' (pv' 1) (pa_cons' (pe_int') (pa_cons' (pe_op' od_add op_addA (pv' 1) (pe_int')) (pa_nil'))))))))
  (pss_cons' (ps_set' (i := 3) sc__law_step.nd (pe_op' od_add op_addA (pe_op' od_mul op_mulA (pv' 3) (pe_op' od_add op_addA (pv' 1) (pe_int'))) (pe_op' od_mul op_mulA (pe_op' od_add op_addA (pv' 4) (pv' 6)) (pv' 1))))
  (pss_cons' (ps_set' (i := 3) sc__law_step.nd (pe_op' od_add op_addA (pv' 3) (pe_op' od_mul op_mulA (pv' 5) (pe_op' od_sub op_sub (pv' 1) (pe_int')))))
  (pss_one' (ps_ret' (pe_tup' (pa_cons' (pe_tup' (pa_cons' (pv' 4) (pa_cons' (pv' 5) (pa_cons' (pe_op' od_add op_addA (pv' 6) (pv' 5)) (pa_cons' (pv' 3) (pa_nil')))))) (pa_cons' (pv' 2) (pa_nil')))))))))))) (rd_law_step cl)
def ps__law_sums : List Str := []
def N__law_sums : List Str := ["size", "found", "stands", "asked"]
theorem sc__law_sums : FnScope N__law_sums ps__law_sums (defScope s__law_sums) := ⟨rfl, rfl, rfl, by decide +kernel, rfl, by decide +kernel, by decide +kernel⟩
theorem ok__law_sums (B : Bl K mg cl) (G__law_step : Fnd P w K mg base "_law_step" 2 [] (C__law_step cl) 3) {f : Addr} {fd : FuncData} (F : FunD K "_law_sums" "_law_sums" (defArgs s__law_sums) (defBody s__law_sums) (defScope s__law_sums) [] [] f fd) : FnOk P w K mg base CX0 4 f fd ps__law_sums (liftC K (C__law_sums cl)) :=
  fnOkS (t := t__law_sums cl) F sc__law_sums (fun ds F R Φ h => by obtain ⟨e, _⟩ := h; subst e; rfl) (fun cdv A outer s H E hr => pss_cons' (ps_par' (i := 1) (j := 2) rfl sc__law_sums.nd (by decide) (pa_cons' (pe_lst' (pa_cons' (pe_int') (pa_cons' (pe_int') (pa_cons' (pe_int') (pa_nil'))))) (pa_cons' (pe_tup' (pa_cons' (pe_int') (pa_cons' (pe_int') (pa_cons' (pe_int') (pa_cons' (pe_int') (pa_nil')))))) (pa_nil'))))
  (pss_cons' (ps_for' PassesOwn.never rfl (pi_range2' (by rfl) B.n_range (pa_cons' (pe_int') (pa_cons' (pe_int') (pa_nil')))) (pg_name' (i := 0) sc__law_sums.nd) (pss_cons' (ps_asg' (pe_call' G__law_step (hr.mono (by decide)) (by rfl) (pa_cons' (pv' 2) (pa_cons' (pv' 0) (pa_nil')))) (pg_tup' rfl (pgs_cons' (pg_name' (i := 2) sc__law_sums.nd) (pgs_cons' (pg_name' (i := 3) sc__law_sums.nd) (pgs_nil')))))
  (pss_one' (ps_expr' (pe_lm' md_append PySem.F.slot_list_append PySem.F.type_list_append mt_append (pv' 1) (pa_cons' (pe_op' od_add op_addA (pe_op' od_mul op_mulA (pe_ix' (pv' 1) (pe_neg' (pe_int'))) (pe_op' od_add op_addA (pv' 0) (pe_int'))) (pv' 3)) (pa_nil')))))))
  (pss_one' (ps_ret' (pv' 1))))) (rd_law_sums cl)
def ps_law : List Str := ["script"]
def N_law : List Str := ["script", "sums", "size", "at", "cell", "source", "go", "left", "given"]
theorem sc_law : FnScope N_law ps_law (defScope s_law) := ⟨rfl, rfl, rfl, by decide +kernel, rfl, by decide +kernel, by decide +kernel⟩
theorem ok_law (B : Bl K mg cl) (G_count_of_1 : Fnd P w K mg base "count_of" 1 [.bl false] (C_count_of cl) 8) (G__law_sorted_count : Fnd P w K mg base "_law_sorted_count" 1 [] (C__law_sorted_count cl) 3) (G__law_draw : Fnd P w K mg base "_law_draw" 2 [] (C__law_draw cl) 1) (G_sum_of__k0_many : Fnk P w K mg base "sum_of" 0 ["many"] g_sum_of__k0_many (C_sum_of cl) 4) (G__law_source : Fnd P w K mg base "_law_source" 1 [] (C__law_source cl) 1) (G__law_orders : Fnd P w K mg base "_law_orders" 1 [] (C__law_orders cl) 1) (G_sum_of : Fnd P w K mg base "sum_of" 1 [] (C_sum_of cl) 4) (G__law_sums : Fnd P w K mg base "_law_sums" 0 [] (C__law_sums cl) 4) {f : Addr} {fd : FuncData} (F : FunD K "law" "law" (defArgs s_law) (defBody s_law) (defScope s_law) [] [] f fd) : FnOk P w K mg base CX0 9 f fd ps_law (liftC K (C_law76 cl)) :=
  fnOkS (t := t_law76 cl) F sc_law (fun ds F R Φ h => by obtain ⟨_, _, e, _⟩ := h; subst e; rfl) (fun cdv A outer s H E hr => pss_cons' (ps_set' (i := 1) sc_law.nd (pe_call0' G__law_sums (hr.mono (by decide)) (by rfl)))
  (pss_cons' (ps_for' PassesOwn.never rfl (pi_range1' (by rfl) B.n_range (pa_cons' (pe_int') (pa_nil'))) (pg_name' (i := 2) sc_law.nd) (pss_one' (ps_if' (pt_cmp' od_ne (op_neA hr.units) (pe_call' G_sum_of (hr.mono (by decide)) (by rfl) (pa_cons' (pv' 2) (pa_nil'))) (pe_ix' (pv' 1) (pv' 2)) (nomark _)) (pss_one' (ps_ret' (pe_bl'))) (pss_nil'))))
  (pss_cons' (ps_for' PassesOwn.never rfl (pi_range2' (by rfl) B.n_range (pa_cons' (pe_int') (pa_cons' (pe_int') (pa_nil')))) (pg_name' (i := 2) sc_law.nd) (pss_one' (ps_if' (pt_cmp' od_ne (op_neA hr.units) (pe_callB' cd_sum (cr_sum rfl) (by rfl) B.n_sum boot_sum (pa_cons' (pe_lc' (own := [("given", 8)]) (g := gName 8) (g' := gName' 8) rfl sc_law.nd (pi_seq' (pe_call' G__law_orders (hr.mono (by decide)) (by rfl) (pa_cons' (pv' 2) (pa_nil')))) (blkOk_by (own := [("given", 8)]) (N := N_law) (sc := defScope s_law) (by decide +kernel)) (own_name (by decide)) (fun _ _ _ _ _ => pg_name (i := 8) sc_law.nd rfl (by first | exact Or.inl rfl | exact Or.inr rfl)) (fun _ _ _ _ _ => pts_nil') (fun _ _ _ _ _ => pe_call' G__law_sorted_count (hr.mono (by decide)) (by rfl) (pa_cons' (pv' 8) (pa_nil')))) (pa_nil'))) (pe_ix' (pv' 1) (pv' 2)) (nomark _)) (pss_one' (ps_ret' (pe_bl'))) (pss_nil'))))
  (pss_cons' (ps_for' PassesOwn.never rfl (pi_enumA' (by rfl) B.n_enumerate (pa_cons' (pe_slice' (pe_op' od_add op_addA (pv' 0) (pe_lst' (pa_cons' (pe_int') (pa_nil')))) (po_none') (po_some' (pe_int'))) (pa_nil'))) (pg_tup' rfl (pgs_cons' (pg_name' (i := 3) sc_law.nd) (pgs_cons' (pg_name' (i := 4) sc_law.nd) (pgs_nil')))) (pss_cons' (ps_set' (i := 5) sc_law.nd (pe_call' G__law_source (hr.mono (by decide)) (by rfl) (pa_cons' (pv' 4) (pa_nil'))))
  (pss_cons' (ps_for' PassesOwn.never rfl (pi_seq' (pe_lc' (own := [("go", 6)]) (g := gName 6) (g' := gName' 6) rfl sc_law.nd (pi_range1' (by rfl) B.n_range (pa_cons' (pe_op' od_add op_addA (pe_int') (pe_callTy' cd_int call_int1 (by rfl) B.n_int (by decide +kernel) (pa_cons' (pe_cmp' od_eq (op_eqA hr.units) (pv' 3) (pe_int') (nomark _)) (pa_nil')))) (pa_nil'))) (blkOk_by (own := [("go", 6)]) (N := N_law) (sc := defScope s_law) (by decide +kernel)) (own_name (by decide)) (fun _ _ _ _ _ => pg_name (i := 6) sc_law.nd rfl (by first | exact Or.inl rfl | exact Or.inr rfl)) (fun _ _ _ _ _ => pts_nil') (fun _ _ _ _ _ => pe_call' G__law_draw (hr.mono (by decide)) (by rfl) (pa_cons' (pv' 5) (pa_cons' (pe_int') (pa_nil')))))) (pg_name' (i := 2) sc_law.nd) (pss_one' (ps_if' (pt_cmp' od_ne (op_neA hr.units) (pe_callK0' G_sum_of__k0_many (hr.mono (by decide)) (by rfl) (pk_cons' (pv' 2) (pk_nil'))) (pe_ix' (pv' 1) (pv' 2)) (nomark _)) (pss_one' (ps_ret' (pe_bl'))) (pss_nil'))))
  (pss_cons' (ps_par' (i := 7) (j := 8) rfl sc_law.nd (by decide) (pa_cons' (pe_listRg1' rfl (by rfl) B.n_list (by rfl) B.n_range (pe_op' od_add op_addA (pe_int') (pe_call' G__law_draw (hr.mono (by decide)) (by rfl) (pa_cons' (pv' 5) (pa_cons' (pe_int') (pa_nil')))))) (pa_cons' (pe_lst' (pa_nil')) (pa_nil'))))
  (pss_cons' (ps_for' PassesOwn.never rfl (pi_range1' (by rfl) B.n_range (pa_cons' (pe_callB' cd_len call_len (by rfl) B.n_len PySem.boot_len (pa_cons' (pv' 7) (pa_nil'))) (pa_nil'))) (pg_name' (i := 6) sc_law.nd) (pss_one' (ps_expr' (pe_lm' md_append PySem.F.slot_list_append PySem.F.type_list_append mt_append (pv' 8) (pa_cons' (pe_lm' md_popAt PySem.F.slot_list_pop PySem.F.type_list_pop mt_popAt (pv' 7) (pa_cons' (pe_call' G__law_draw (hr.mono (by decide)) (by rfl) (pa_cons' (pv' 5) (pa_cons' (pe_callB' cd_len call_len (by rfl) B.n_len PySem.boot_len (pa_cons' (pv' 7) (pa_nil'))) (pa_nil')))) (pa_nil'))) (pa_nil'))))))
  (pss_one' (ps_if' (PW'.pt (pw_or' (pt_cmp' od_ne (op_neA hr.units) (pe_call' G_count_of_1 (hr.mono (by decide)) (by rfl) (pa_cons' (pv' 8) (pa_nil'))) (pe_call' G__law_sorted_count (hr.mono (by decide)) (by rfl) (pa_cons' (pv' 8) (pa_nil'))) (nomark _)) (pw_or1' (pt_cmp' od_gt op_gt (pe_call' G_count_of_1 (hr.mono (by decide)) (by rfl) (pa_cons' (pv' 8) (pa_nil'))) (pe_ix' (pv' 1) (pe_callB' cd_len call_len (by rfl) B.n_len PySem.boot_len (pa_cons' (pv' 8) (pa_nil')))) (nomark _))))) (pss_one' (ps_ret' (pe_bl'))) (pss_nil'))))))))
  (pss_one' (ps_ret' (pe_bl'))))))) (rd_law76 cl)
end
end K76

namespace K76
open PySem PySem.Spec PyProof.Rows L2 DL
def clK (K : PySem.W.Frag) : Cl := ⟨He.ga K "Honest", 0, 0, He.ga K "Sorting", He.ga K "Joiner", He.ga K "Amid", 0, 0, 0, 0, 0, 0, 0, 0, 0, xaK K, He.ga K "SortError", xtsK, fun p => (He.cT K p).2⟩
theorem facts {P : Program} {w : World} {K : PySem.W.Frag} {h : Heap} {mg : Str → Option Value} {f : Addr} (X : K.In h) (G : h.Ns mainGlobals mg) (hfa : mg ("law" : Str) = some (.ref f)) (c : He.SaysX fa fn [] [("_law_run_due", none)] ex w h K) :
    ∃ fd : FuncData, (∀ (s : Shared) (v : Value), BindsTo s fd ⟨[v], []⟩ [("script", v)]) ∧ ∀ base : Heap, K.In base → base.Ns mainGlobals mg → (∀ p ∈ ([("_law_run_due", none)] : List He.Defn).map (He.cT K), LamX.TabB base mg p.1 p.2) → FnOk P w K mg base CX0 9 f fd ["script"] (liftC K (C_law76 (clK K))) := by
  have cm := c.more
  simp only [ex, Bool.and_eq_true] at cm
  have B : Bl K mg (clK K) := {
    c_Honest := He.cls_ok (c.t.d.fact 5 (f := .cls "Honest") rfl)
    c_Joiner := He.cls_ok (c.t.d.fact 30 (f := .cls "Joiner") rfl)
    c_Sorting := He.cls_ok (c.t.d.fact 39 (f := .cls "Sorting") rfl)
    i_MAX_PLACED := He.int_ok X G (c.t.d.fact 91 (f := .int "MAX_PLACED" 64) rfl)
    i_MAX_SINGLE := He.int_ok X G (c.t.d.fact 92 (f := .int "MAX_SINGLE" 63) rfl)
    n_abs := He.free_ok X G (c.t.d.fact 95 (f := .free "abs") rfl)
    n_bool := He.free_ok X G (c.t.d.fact 96 (f := .free "bool") rfl)
    n_enumerate := He.free_ok X G (c.t.d.fact 97 (f := .free "enumerate") rfl)
    n_int := He.free_ok X G (c.t.d.fact 98 (f := .free "int") rfl)
    n_isinstance := He.free_ok X G (c.t.d.fact 99 (f := .free "isinstance") rfl)
    n_len := He.free_ok X G (c.t.d.fact 100 (f := .free "len") rfl)
    n_list := He.free_ok X G (c.t.d.fact 101 (f := .free "list") rfl)
    n_max := He.free_ok X G (c.t.d.fact 102 (f := .free "max") rfl)
    n_min := He.free_ok X G (c.t.d.fact 103 (f := .free "min") rfl)
    n_range := He.free_ok X G (c.t.d.fact 104 (f := .free "range") rfl)
    n_sorted := He.free_ok X G (c.t.d.fact 105 (f := .free "sorted") rfl)
    n_sum := He.free_ok X G (c.t.d.fact 106 (f := .free "sum") rfl)
    n_tuple := He.free_ok X G (c.t.d.fact 107 (f := .free "tuple") rfl)
    na_Honest_log := He.noat_ok (c.t.d.fact 8 (f := .noat "Honest" "log") rfl)
    na_Honest_marks := He.noat_ok (c.t.d.fact 7 (f := .noat "Honest" "marks") rfl)
    na_Joiner_aside := He.noat_ok (c.t.d.fact 33 (f := .noat "Joiner" "aside") rfl)
    na_Joiner_asker := He.noat_ok (c.t.d.fact 34 (f := .noat "Joiner" "asker") rfl)
    na_Joiner_calm := He.noat_ok (c.t.d.fact 35 (f := .noat "Joiner" "calm") rfl)
    na_Joiner_span := He.noat_ok (c.t.d.fact 32 (f := .noat "Joiner" "span") rfl)
    na_Sorting_asker := He.noat_ok (c.t.d.fact 44 (f := .noat "Sorting" "asker") rfl)
    na_Sorting_busy := He.noat_ok (c.t.d.fact 41 (f := .noat "Sorting" "busy") rfl)
    na_Sorting_is_turned := He.noat_ok (c.t.d.fact 43 (f := .noat "Sorting" "is_turned") rfl)
    na_Sorting_joiner := He.noat_ok (c.t.d.fact 45 (f := .noat "Sorting" "joiner") rfl)
    na_Sorting_row := He.noat_ok (c.t.d.fact 42 (f := .noat "Sorting" "row") rfl)
    na_Sorting_stack := He.noat_ok (c.t.d.fact 46 (f := .noat "Sorting" "stack") rfl)
    na_Sorting_steps := He.noat_ok (c.t.d.fact 47 (f := .noat "Sorting" "steps") rfl)
  }
  obtain ⟨fd_require_bool, F_require_bool⟩ : ∃ fd, FunD K "require_bool" "require_bool" (defArgs s_require_bool) (defBody s_require_bool) (defScope s_require_bool) [] [] (He.fAd K ("require_bool", none)) fd := c.t.d.def_ 6 rfl
  obtain ⟨fd_is_integer, F_is_integer⟩ : ∃ fd, FunD K "is_integer" "is_integer" (defArgs s_is_integer) (defBody s_is_integer) (defScope s_is_integer) [] [] (He.fAd K ("is_integer", none)) fd := c.t.d.def_ 2 rfl
  obtain ⟨fd_require_keys, F_require_keys⟩ : ∃ fd, FunD K "require_keys" "require_keys" (defArgs s_require_keys) (defBody s_require_keys) (defScope s_require_keys) [.int 2000] [] (He.fAd K ("require_keys", none)) fd := c.t.d.def_ 4 rfl
  obtain ⟨fd_Sorting_join_at, F_Sorting_join_at⟩ : ∃ fd, FunD K "join_at" "Sorting.join_at" (defArgs s_Sorting_join_at) (defBody s_Sorting_join_at) (defScope s_Sorting_join_at) [] [] (He.fAd K ("Sorting", some "join_at")) fd := c.t.d.def_ 42 rfl
  obtain ⟨fd_Honest_less, F_Honest_less⟩ : ∃ fd, FunD K "less" "Honest.less" (defArgs s_Honest_less) (defBody s_Honest_less) (defScope s_Honest_less) [] [] (He.fAd K ("Honest", some "less")) fd := c.t.d.def_ 1 rfl
  obtain ⟨fd_place_one, F_place_one⟩ : ∃ fd, FunD K "place_one" "place_one" (defArgs s_place_one) (defBody s_place_one) (defScope s_place_one) [] [] (He.fAd K ("place_one", none)) fd := c.t.d.def_ 8 rfl
  obtain ⟨fd_place_all, F_place_all⟩ : ∃ fd, FunD K "place_all" "place_all" (defArgs s_place_all) (defBody s_place_all) (defScope s_place_all) [] [] (He.fAd K ("place_all", none)) fd := c.t.d.def_ 9 rfl
  obtain ⟨fd_least_of, F_least_of⟩ : ∃ fd, FunD K "least_of" "least_of" (defArgs s_least_of) (defBody s_least_of) (defScope s_least_of) [] [] (He.fAd K ("least_of", none)) fd := c.t.d.def_ 7 rfl
  obtain ⟨fd_rising_end, F_rising_end⟩ : ∃ fd, FunD K "rising_end" "rising_end" (defArgs s_rising_end) (defBody s_rising_end) (defScope s_rising_end) [] [] (He.fAd K ("rising_end", none)) fd := c.t.d.def_ 12 rfl
  obtain ⟨fd_turn_about, F_turn_about⟩ : ∃ fd, FunD K "turn_about" "turn_about" (defArgs s_turn_about) (defBody s_turn_about) (defScope s_turn_about) [] [] (He.fAd K ("turn_about", none)) fd := c.t.d.def_ 10 rfl
  obtain ⟨fd_turn_equal, F_turn_equal⟩ : ∃ fd, FunD K "turn_equal" "turn_equal" (defArgs s_turn_equal) (defBody s_turn_equal) (defScope s_turn_equal) [] [] (He.fAd K ("turn_equal", none)) fd := c.t.d.def_ 11 rfl
  obtain ⟨fd_falling_end, F_falling_end⟩ : ∃ fd, FunD K "falling_end" "falling_end" (defArgs s_falling_end) (defBody s_falling_end) (defScope s_falling_end) [] [] (He.fAd K ("falling_end", none)) fd := c.t.d.def_ 13 rfl
  obtain ⟨fd_find_run, F_find_run⟩ : ∃ fd, FunD K "find_run" "find_run" (defArgs s_find_run) (defBody s_find_run) (defScope s_find_run) [] [] (He.fAd K ("find_run", none)) fd := c.t.d.def_ 14 rfl
  obtain ⟨fd_Sorting_make_room, F_Sorting_make_room⟩ : ∃ fd, FunD K "make_room" "Sorting.make_room" (defArgs s_Sorting_make_room) (defBody s_Sorting_make_room) (defScope s_Sorting_make_room) [] [] (He.fAd K ("Sorting", some "make_room")) fd := c.t.d.def_ 41 rfl
  obtain ⟨fd_Sorting_next_piece, F_Sorting_next_piece⟩ : ∃ fd, FunD K "next_piece" "Sorting.next_piece" (defArgs s_Sorting_next_piece) (defBody s_Sorting_next_piece) (defScope s_Sorting_next_piece) [] [] (He.fAd K ("Sorting", some "next_piece")) fd := c.t.d.def_ 40 rfl
  obtain ⟨fd_Sorting_go, F_Sorting_go⟩ : ∃ fd, FunD K "go" "Sorting.go" (defArgs s_Sorting_go) (defBody s_Sorting_go) (defScope s_Sorting_go) [] [] (He.fAd K ("Sorting", some "go")) fd := c.t.d.def_ 39 rfl
  obtain ⟨fd_Joiner___init__, F_Joiner___init__⟩ : ∃ fd, FunD K "__init__" "Joiner.__init__" (defArgs s_Joiner___init__) (defBody s_Joiner___init__) (defScope s_Joiner___init__) [.int 7] [] (He.fAd K ("Joiner", some "__init__")) fd := c.t.d.def_ 34 rfl
  obtain ⟨fd_Sorting___init__, F_Sorting___init__⟩ : ∃ fd, FunD K "__init__" "Sorting.__init__" (defArgs s_Sorting___init__) (defBody s_Sorting___init__) (defScope s_Sorting___init__) [] [] (He.fAd K ("Sorting", some "__init__")) fd := c.t.d.def_ 38 rfl
  obtain ⟨fd_Honest___init__, F_Honest___init__⟩ : ∃ fd, FunD K "__init__" "Honest.__init__" (defArgs s_Honest___init__) (defBody s_Honest___init__) (defScope s_Honest___init__) [] [] (He.fAd K ("Honest", some "__init__")) fd := c.t.d.def_ 0 rfl
  obtain ⟨fd_sorted_by, F_sorted_by⟩ : ∃ fd, FunD K "sorted_by" "sorted_by" (defArgs s_sorted_by) (defBody s_sorted_by) (defScope s_sorted_by) [] [] (He.fAd K ("sorted_by", none)) fd := c.t.d.def_ 44 rfl
  obtain ⟨fd_count_of, F_count_of⟩ : ∃ fd, FunD K "count_of" "count_of" (defArgs s_count_of) (defBody s_count_of) (defScope s_count_of) [] [("reverse", .bl false)] (He.fAd K ("count_of", none)) fd := c.t.d.def_ 45 rfl
  obtain ⟨fd__law_spots, F__law_spots⟩ : ∃ fd, FunD K "_law_spots" "_law_spots" (defArgs s__law_spots) (defBody s__law_spots) (defScope s__law_spots) [] [] (He.fAd K ("_law_spots", none)) fd := c.t.d.def_ 51 rfl
  obtain ⟨fd__law_prefix, F__law_prefix⟩ : ∃ fd, FunD K "_law_prefix" "_law_prefix" (defArgs s__law_prefix) (defBody s__law_prefix) (defScope s__law_prefix) [] [] (He.fAd K ("_law_prefix", none)) fd := c.t.d.def_ 49 rfl
  obtain ⟨fd__law_run_due, F__law_run_due⟩ : ∃ fd, FunD K "_law_run_due" "_law_run_due" (defArgs s__law_run_due) (defBody s__law_run_due) (defScope s__law_run_due) [] [] (He.fAd K ("_law_run_due", none)) fd := c.t.d.def_ 50 rfl
  obtain ⟨fd__law_sorted_count, F__law_sorted_count⟩ : ∃ fd, FunD K "_law_sorted_count" "_law_sorted_count" (defArgs s__law_sorted_count) (defBody s__law_sorted_count) (defScope s__law_sorted_count) [] [] (He.fAd K ("_law_sorted_count", none)) fd := c.t.d.def_ 52 rfl
  obtain ⟨fd__law_draw, F__law_draw⟩ : ∃ fd, FunD K "_law_draw" "_law_draw" (defArgs s__law_draw) (defBody s__law_draw) (defScope s__law_draw) [] [] (He.fAd K ("_law_draw", none)) fd := c.t.d.def_ 47 rfl
  obtain ⟨fd_depth, F_depth⟩ : ∃ fd, FunD K "depth" "depth" (defArgs s_depth) (defBody s_depth) (defScope s_depth) [] [] (He.fAd K ("depth", none)) fd := c.t.d.def_ 15 rfl
  obtain ⟨fd_depths, F_depths⟩ : ∃ fd, FunD K "depths" "depths" (defArgs s_depths) (defBody s_depths) (defScope s_depths) [] [] (He.fAd K ("depths", none)) fd := c.t.d.def_ 16 rfl
  obtain ⟨fd_sum_with_run, F_sum_with_run⟩ : ∃ fd, FunD K "sum_with_run" "sum_with_run" (defArgs s_sum_with_run) (defBody s_sum_with_run) (defScope s_sum_with_run) [] [] (He.fAd K ("sum_with_run", none)) fd := c.t.d.def_ 18 rfl
  obtain ⟨fd_factorial, F_factorial⟩ : ∃ fd, FunD K "factorial" "factorial" (defArgs s_factorial) (defBody s_factorial) (defScope s_factorial) [] [] (He.fAd K ("factorial", none)) fd := c.t.d.def_ 17 rfl
  obtain ⟨fd_is_between, F_is_between⟩ : ∃ fd, FunD K "is_between" "is_between" (defArgs s_is_between) (defBody s_is_between) (defScope s_is_between) [] [] (He.fAd K ("is_between", none)) fd := c.t.d.def_ 3 rfl
  obtain ⟨fd_require_number, F_require_number⟩ : ∃ fd, FunD K "require_number" "require_number" (defArgs s_require_number) (defBody s_require_number) (defScope s_require_number) [] [] (He.fAd K ("require_number", none)) fd := c.t.d.def_ 5 rfl
  obtain ⟨fd_sum_of, F_sum_of⟩ : ∃ fd, FunD K "sum_of" "sum_of" (defArgs s_sum_of) (defBody s_sum_of) (defScope s_sum_of) [] [] (He.fAd K ("sum_of", none)) fd := c.t.d.def_ 19 rfl
  obtain ⟨fd__law_source, F__law_source⟩ : ∃ fd, FunD K "_law_source" "_law_source" (defArgs s__law_source) (defBody s__law_source) (defScope s__law_source) [] [] (He.fAd K ("_law_source", none)) fd := c.t.d.def_ 46 rfl
  obtain ⟨fd__law_orders, F__law_orders⟩ : ∃ fd, FunD K "_law_orders" "_law_orders" (defArgs s__law_orders) (defBody s__law_orders) (defScope s__law_orders) [] [] (He.fAd K ("_law_orders", none)) fd := c.t.d.def_ 53 rfl
  obtain ⟨fd__law_ways, F__law_ways⟩ : ∃ fd, FunD K "_law_ways" "_law_ways" (defArgs s__law_ways) (defBody s__law_ways) (defScope s__law_ways) [] [] (He.fAd K ("_law_ways", none)) fd := c.t.d.def_ 54 rfl
  obtain ⟨fd__law_step, F__law_step⟩ : ∃ fd, FunD K "_law_step" "_law_step" (defArgs s__law_step) (defBody s__law_step) (defScope s__law_step) [] [] (He.fAd K ("_law_step", none)) fd := c.t.d.def_ 55 rfl
  obtain ⟨fd__law_sums, F__law_sums⟩ : ∃ fd, FunD K "_law_sums" "_law_sums" (defArgs s__law_sums) (defBody s__law_sums) (defScope s__law_sums) [] [] (He.fAd K ("_law_sums", none)) fd := c.t.d.def_ 56 rfl
  obtain ⟨fd_law, F_law⟩ : ∃ fd, FunD K "law" "law" (defArgs s_law) (defBody s_law) (defScope s_law) [] [] (He.fAd K ("law", none)) fd := c.t.d.def_ 57 rfl
  have e := hfa.symm.trans (He.glo_ok X G (c.t.d.fact 89 (f := .glo "law") rfl))
  cases e
  refine ⟨fd_law, fun s v => FunD.bindsA (ps := ["script"]) F_law (fun _ _ _ _ _ _ us hl => match us, hl with | [_], _ => rfl) s [v] rfl, fun base _ _ hTB => ?_⟩
  have ok_require_bool : FnOk P w K mg base CX0 1 _ fd_require_bool ps_require_bool (liftC K (C_require_bool (clK K))) := ok_require_bool B  F_require_bool
  have ok_is_integer : FnOk P w K mg base CX0 1 _ fd_is_integer ps_is_integer (liftC K (C_is_integer (clK K))) := ok_is_integer B  F_is_integer
  have G_is_integer : Fnd P w K mg base "is_integer" 1 [] (C_is_integer (clK K)) 1 := ⟨_, fd_is_integer, ps_is_integer, [], [], He.glo_ok X G (c.t.d.fact 53 (f := .glo "is_integer") rfl), F_is_integer.kp, F_is_integer.bindsN fun _ _ _ _ _ _ us hl => match us, hl with | [_], _ => rfl, .nil, fun _ => .nil, ok_is_integer⟩
  have ok_require_keys : FnOk P w K mg base CX0 2 _ fd_require_keys ps_require_keys (liftC K (C_require_keys (clK K))) := ok_require_keys B G_is_integer F_require_keys
  have ok_Sorting_join_at : FnOk P w K mg base CX0 1 _ fd_Sorting_join_at ps_Sorting_join_at (liftC K (C_Sorting_join_at (clK K))) := ok_Sorting_join_at F_Sorting_join_at
  have ok_Honest_less : FnOk P w K mg base CX0 1 _ fd_Honest_less ps_Honest_less (liftC K (C_Honest_less (clK K))) := ok_Honest_less B  F_Honest_less
  have G_Honest_less : Mtd P w K mg base (clK K).Honest "less" [] (C_Honest_less (clK K)) 1 := ⟨B.c_Honest, by decide +kernel, _, fd_Honest_less, ps_Honest_less, [], [], He.meth_ok (c.t.d.fact 9 (f := .meth "Honest" "less") rfl), F_Honest_less.bindsN fun _ _ _ _ _ _ us hl => match us, hl with | [_, _, _], _ => rfl, .nil, fun _ => .nil, ok_Honest_less⟩
  have ok_place_one : FnOk P w K mg base CX0 2 _ fd_place_one ps_place_one (liftC K (C_place_one (clK K))) := ok_place_one B G_Honest_less F_place_one
  have G_place_one : Fnd P w K mg base "place_one" 4 [] (C_place_one (clK K)) 2 := ⟨_, fd_place_one, ps_place_one, [], [], He.glo_ok X G (c.t.d.fact 59 (f := .glo "place_one") rfl), F_place_one.kp, F_place_one.bindsN fun _ _ _ _ _ _ us hl => match us, hl with | [_, _, _, _], _ => rfl, .nil, fun _ => .nil, ok_place_one⟩
  have ok_place_all : FnOk P w K mg base CX0 3 _ fd_place_all ps_place_all (liftC K (C_place_all (clK K))) := ok_place_all B G_place_one F_place_all
  have ok_least_of : FnOk P w K mg base CX0 1 _ fd_least_of ps_least_of (liftC K (C_least_of (clK K))) := ok_least_of B  F_least_of
  have ok_rising_end : FnOk P w K mg base CX0 2 _ fd_rising_end ps_rising_end (liftC K (C_rising_end (clK K))) := ok_rising_end B G_Honest_less F_rising_end
  have ok_turn_about : FnOk P w K mg base CX0 1 _ fd_turn_about ps_turn_about (liftC K (C_turn_about (clK K))) := ok_turn_about B  F_turn_about
  have G_turn_about : Fnd P w K mg base "turn_about" 3 [] (C_turn_about (clK K)) 1 := ⟨_, fd_turn_about, ps_turn_about, [], [], He.glo_ok X G (c.t.d.fact 61 (f := .glo "turn_about") rfl), F_turn_about.kp, F_turn_about.bindsN fun _ _ _ _ _ _ us hl => match us, hl with | [_, _, _], _ => rfl, .nil, fun _ => .nil, ok_turn_about⟩
  have ok_turn_equal : FnOk P w K mg base CX0 2 _ fd_turn_equal ps_turn_equal (liftC K (C_turn_equal (clK K))) := ok_turn_equal B G_turn_about F_turn_equal
  have G_turn_equal : Fnd P w K mg base "turn_equal" 3 [] (C_turn_equal (clK K)) 2 := ⟨_, fd_turn_equal, ps_turn_equal, [], [], He.glo_ok X G (c.t.d.fact 62 (f := .glo "turn_equal") rfl), F_turn_equal.kp, F_turn_equal.bindsN fun _ _ _ _ _ _ us hl => match us, hl with | [_, _, _], _ => rfl, .nil, fun _ => .nil, ok_turn_equal⟩
  have ok_falling_end : FnOk P w K mg base CX0 3 _ fd_falling_end ps_falling_end (liftC K (C_falling_end (clK K))) := ok_falling_end B G_turn_equal G_Honest_less F_falling_end
  have G_rising_end : Fnd P w K mg base "rising_end" 4 [] (C_rising_end (clK K)) 2 := ⟨_, fd_rising_end, ps_rising_end, [], [], He.glo_ok X G (c.t.d.fact 63 (f := .glo "rising_end") rfl), F_rising_end.kp, F_rising_end.bindsN fun _ _ _ _ _ _ us hl => match us, hl with | [_, _, _, _], _ => rfl, .nil, fun _ => .nil, ok_rising_end⟩
  have G_falling_end : Fnd P w K mg base "falling_end" 4 [] (C_falling_end (clK K)) 3 := ⟨_, fd_falling_end, ps_falling_end, [], [], He.glo_ok X G (c.t.d.fact 64 (f := .glo "falling_end") rfl), F_falling_end.kp, F_falling_end.bindsN fun _ _ _ _ _ _ us hl => match us, hl with | [_, _, _, _], _ => rfl, .nil, fun _ => .nil, ok_falling_end⟩
  have ok_find_run : FnOk P w K mg base CX0 4 _ fd_find_run ps_find_run (liftC K (C_find_run (clK K))) := ok_find_run B G_rising_end G_turn_about G_falling_end G_Honest_less F_find_run
  have ok_Sorting_make_room : FnOk P w K mg base CX0 1 _ fd_Sorting_make_room ps_Sorting_make_room (liftC K (C_Sorting_make_room (clK K))) := ok_Sorting_make_room F_Sorting_make_room
  have G_place_all : Fnd P w K mg base "place_all" 5 [] (C_place_all (clK K)) 3 := ⟨_, fd_place_all, ps_place_all, [], [], He.glo_ok X G (c.t.d.fact 60 (f := .glo "place_all") rfl), F_place_all.kp, F_place_all.bindsN fun _ _ _ _ _ _ us hl => match us, hl with | [_, _, _, _, _], _ => rfl, .nil, fun _ => .nil, ok_place_all⟩
  have G_least_of : Fnd P w K mg base "least_of" 1 [] (C_least_of (clK K)) 1 := ⟨_, fd_least_of, ps_least_of, [], [], He.glo_ok X G (c.t.d.fact 58 (f := .glo "least_of") rfl), F_least_of.kp, F_least_of.bindsN fun _ _ _ _ _ _ us hl => match us, hl with | [_], _ => rfl, .nil, fun _ => .nil, ok_least_of⟩
  have G_find_run : Fnd P w K mg base "find_run" 4 [] (C_find_run (clK K)) 4 := ⟨_, fd_find_run, ps_find_run, [], [], He.glo_ok X G (c.t.d.fact 65 (f := .glo "find_run") rfl), F_find_run.kp, F_find_run.bindsN fun _ _ _ _ _ _ us hl => match us, hl with | [_, _, _, _], _ => rfl, .nil, fun _ => .nil, ok_find_run⟩
  have G_Sorting_make_room : Mtd P w K mg base (clK K).Sorting "make_room" [] (C_Sorting_make_room (clK K)) 1 := ⟨B.c_Sorting, by decide +kernel, _, fd_Sorting_make_room, ps_Sorting_make_room, [], [], He.meth_ok (c.t.d.fact 50 (f := .meth "Sorting" "make_room") rfl), F_Sorting_make_room.bindsN fun _ _ _ _ _ _ us hl => match us, hl with | [_, _], _ => rfl, .nil, fun _ => .nil, ok_Sorting_make_room⟩
  have ok_Sorting_next_piece : FnOk P w K mg base CX0 5 _ fd_Sorting_next_piece ps_Sorting_next_piece (liftC K (C_Sorting_next_piece (clK K))) := ok_Sorting_next_piece B G_place_all G_least_of G_find_run G_Sorting_make_room F_Sorting_next_piece
  have G_Sorting_join_at : Mtd P w K mg base (clK K).Sorting "join_at" [] (C_Sorting_join_at (clK K)) 1 := ⟨B.c_Sorting, by decide +kernel, _, fd_Sorting_join_at, ps_Sorting_join_at, [], [], He.meth_ok (c.t.d.fact 51 (f := .meth "Sorting" "join_at") rfl), F_Sorting_join_at.bindsN fun _ _ _ _ _ _ us hl => match us, hl with | [_, _], _ => rfl, .nil, fun _ => .nil, ok_Sorting_join_at⟩
  have G_Sorting_next_piece : Mtd P w K mg base (clK K).Sorting "next_piece" [] (C_Sorting_next_piece (clK K)) 5 := ⟨B.c_Sorting, by decide +kernel, _, fd_Sorting_next_piece, ps_Sorting_next_piece, [], [], He.meth_ok (c.t.d.fact 49 (f := .meth "Sorting" "next_piece") rfl), F_Sorting_next_piece.bindsN fun _ _ _ _ _ _ us hl => match us, hl with | [_, _], _ => rfl, .nil, fun _ => .nil, ok_Sorting_next_piece⟩
  have ok_Sorting_go : FnOk P w K mg base CX0 6 _ fd_Sorting_go ps_Sorting_go (liftC K (C_Sorting_go (clK K))) := ok_Sorting_go B G_Sorting_join_at G_Sorting_next_piece F_Sorting_go
  have ok_Joiner___init__ : FnOk P w K mg base CX0 1 _ fd_Joiner___init__ ps_Joiner___init__ (liftC K (C_Joiner___init__ (clK K))) := ok_Joiner___init__ B  F_Joiner___init__
  have G_Joiner : Mkd P w K mg base "Joiner" (clK K).Joiner [.int 7] (C_Joiner___init__ (clK K)) 1 := by
    obtain ⟨ds, r, b⟩ := F_Joiner___init__.binds1 (ps := ps_Joiner___init__) 2 0 (List.cons_ne_nil _ _) rfl fun T kV doc pm an cdv ct us its l1 l2 => match us, its, l1, l2 with | [_, _], [_], _, _ => ⟨_, rfl, rfl⟩
    exact ⟨_, fd_Joiner___init__, ps_Joiner___init__, ds, _, He.mkr_ok (c.t.d.fact 31 (f := .mkr "Joiner") rfl), He.glo_ok X G (c.t.d.fact 29 (f := .glo "Joiner") rfl), b, r, fun _ => (.cons .int .nil), ok_Joiner___init__⟩
  have ok_Sorting___init__ : FnOk P w K mg base CX0 3 _ fd_Sorting___init__ ps_Sorting___init__ (liftC K (C_Sorting___init__ (clK K))) := ok_Sorting___init__ B G_Joiner F_Sorting___init__
  have ok_Honest___init__ : FnOk P w K mg base CX0 1 _ fd_Honest___init__ ps_Honest___init__ (liftC K (C_Honest___init__ (clK K))) := ok_Honest___init__ B  F_Honest___init__
  have G_require_bool : Fnd P w K mg base "require_bool" 2 [] (C_require_bool (clK K)) 1 := ⟨_, fd_require_bool, ps_require_bool, [], [], He.glo_ok X G (c.t.d.fact 57 (f := .glo "require_bool") rfl), F_require_bool.kp, F_require_bool.bindsN fun _ _ _ _ _ _ us hl => match us, hl with | [_, _], _ => rfl, .nil, fun _ => .nil, ok_require_bool⟩
  have G_require_keys_1 : Fnd P w K mg base "require_keys" 1 [.int 2000] (C_require_keys (clK K)) 2 := by
    obtain ⟨ds, r, b⟩ := F_require_keys.binds1 (ps := ps_require_keys) 1 0 (List.cons_ne_nil _ _) rfl fun T kV doc pm an cdv ct us its l1 l2 => match us, its, l1, l2 with | [_], [_], _, _ => ⟨_, rfl, rfl⟩
    exact ⟨_, fd_require_keys, ps_require_keys, ds, _, He.glo_ok X G (c.t.d.fact 55 (f := .glo "require_keys") rfl), F_require_keys.kp, b, r, fun _ => (.cons .int .nil), ok_require_keys⟩
  have G_Sorting_go : Mtd P w K mg base (clK K).Sorting "go" [] (C_Sorting_go (clK K)) 6 := ⟨B.c_Sorting, by decide +kernel, _, fd_Sorting_go, ps_Sorting_go, [], [], He.meth_ok (c.t.d.fact 48 (f := .meth "Sorting" "go") rfl), F_Sorting_go.bindsN fun _ _ _ _ _ _ us hl => match us, hl with | [_], _ => rfl, .nil, fun _ => .nil, ok_Sorting_go⟩
  have G_Sorting : Mkd P w K mg base "Sorting" (clK K).Sorting [] (C_Sorting___init__ (clK K)) 3 := ⟨_, fd_Sorting___init__, ps_Sorting___init__, [], [], He.mkr_ok (c.t.d.fact 40 (f := .mkr "Sorting") rfl), He.glo_ok X G (c.t.d.fact 38 (f := .glo "Sorting") rfl), F_Sorting___init__.bindsN fun _ _ _ _ _ _ us hl => match us, hl with | [_, _, _, _], _ => rfl, .nil, fun _ => .nil, ok_Sorting___init__⟩
  have G_Honest : Mkd P w K mg base "Honest" (clK K).Honest [] (C_Honest___init__ (clK K)) 1 := ⟨_, fd_Honest___init__, ps_Honest___init__, [], [], He.mkr_ok (c.t.d.fact 6 (f := .mkr "Honest") rfl), He.glo_ok X G (c.t.d.fact 4 (f := .glo "Honest") rfl), F_Honest___init__.bindsN fun _ _ _ _ _ _ us hl => match us, hl with | [_, _], _ => rfl, .nil, fun _ => .nil, ok_Honest___init__⟩
  have ok_sorted_by : FnOk P w K mg base CX0 7 _ fd_sorted_by ps_sorted_by (liftC K (C_sorted_by (clK K))) := ok_sorted_by B G_require_bool G_require_keys_1 G_Sorting_go G_Sorting G_Honest F_sorted_by
  have G_sorted_by : Fnd P w K mg base "sorted_by" 2 [] (C_sorted_by (clK K)) 7 := ⟨_, fd_sorted_by, ps_sorted_by, [], [], He.glo_ok X G (c.t.d.fact 76 (f := .glo "sorted_by") rfl), F_sorted_by.kp, F_sorted_by.bindsN fun _ _ _ _ _ _ us hl => match us, hl with | [_, _], _ => rfl, .nil, fun _ => .nil, ok_sorted_by⟩
  have ok_count_of : FnOk P w K mg base CX0 8 _ fd_count_of ps_count_of (liftC K (C_count_of (clK K))) := ok_count_of B G_sorted_by F_count_of
  have ok__law_spots : FnOk P w K mg base CX0 1 _ fd__law_spots ps__law_spots (liftC K (C__law_spots (clK K))) := ok__law_spots B  F__law_spots
  have ok__law_prefix : FnOk P w K mg base CX0 1 _ fd__law_prefix ps__law_prefix (liftC K (C__law_prefix (clK K))) := ok__law_prefix B  F__law_prefix
  have G__law_prefix : Fnd P w K mg base "_law_prefix" 2 [] (C__law_prefix (clK K)) 1 := ⟨_, fd__law_prefix, ps__law_prefix, [], [], He.glo_ok X G (c.t.d.fact 81 (f := .glo "_law_prefix") rfl), F__law_prefix.kp, F__law_prefix.bindsN fun _ _ _ _ _ _ us hl => match us, hl with | [_, _], _ => rfl, .nil, fun _ => .nil, ok__law_prefix⟩
  have TL__law_run_due : LamT K mg base ("_law_run_due", none) ((clK K).tb ("_law_run_due", none)) := ⟨rfl, hTB _ (List.mem_map.mpr ⟨("_law_run_due", none), by decide +kernel, rfl⟩), by decide +kernel, fun p hp e => of_decide_eq_true (List.all_eq_true.mp cm p hp) e⟩
  have ok__law_run_due : FnOk P w K mg base CX0 2 _ fd__law_run_due ps__law_run_due (liftC K (C__law_run_due (clK K))) := ok__law_run_due B G__law_prefix TL__law_run_due F__law_run_due
  have G__law_spots : Fnd P w K mg base "_law_spots" 2 [] (C__law_spots (clK K)) 1 := ⟨_, fd__law_spots, ps__law_spots, [], [], He.glo_ok X G (c.t.d.fact 83 (f := .glo "_law_spots") rfl), F__law_spots.kp, F__law_spots.bindsN fun _ _ _ _ _ _ us hl => match us, hl with | [_, _], _ => rfl, .nil, fun _ => .nil, ok__law_spots⟩
  have G__law_run_due : Fnd P w K mg base "_law_run_due" 2 [] (C__law_run_due (clK K)) 2 := ⟨_, fd__law_run_due, ps__law_run_due, [], [], He.glo_ok X G (c.t.d.fact 82 (f := .glo "_law_run_due") rfl), F__law_run_due.kp, F__law_run_due.bindsN fun _ _ _ _ _ _ us hl => match us, hl with | [_, _], _ => rfl, .nil, fun _ => .nil, ok__law_run_due⟩
  have ok__law_sorted_count : FnOk P w K mg base CX0 3 _ fd__law_sorted_count ps__law_sorted_count (liftC K (C__law_sorted_count (clK K))) := ok__law_sorted_count B G__law_spots G__law_run_due F__law_sorted_count
  have ok__law_draw : FnOk P w K mg base CX0 1 _ fd__law_draw ps__law_draw (liftC K (C__law_draw (clK K))) := ok__law_draw B  F__law_draw
  have ok_depth : FnOk P w K mg base CX0 1 _ fd_depth ps_depth (liftC K (C_depth (clK K))) := ok_depth B  F_depth
  have G_depth : Fnd P w K mg base "depth" 2 [] (C_depth (clK K)) 1 := ⟨_, fd_depth, ps_depth, [], [], He.glo_ok X G (c.t.d.fact 66 (f := .glo "depth") rfl), F_depth.kp, F_depth.bindsN fun _ _ _ _ _ _ us hl => match us, hl with | [_, _], _ => rfl, .nil, fun _ => .nil, ok_depth⟩
  have ok_depths : FnOk P w K mg base CX0 2 _ fd_depths ps_depths (liftC K (C_depths (clK K))) := ok_depths B G_depth F_depths
  have G_depths : Fnd P w K mg base "depths" 3 [] (C_depths (clK K)) 2 := ⟨_, fd_depths, ps_depths, [], [], He.glo_ok X G (c.t.d.fact 67 (f := .glo "depths") rfl), F_depths.kp, F_depths.bindsN fun _ _ _ _ _ _ us hl => match us, hl with | [_, _, _], _ => rfl, .nil, fun _ => .nil, ok_depths⟩
  have ok_sum_with_run : FnOk P w K mg base CX0 3 _ fd_sum_with_run ps_sum_with_run (liftC K (C_sum_with_run (clK K))) := ok_sum_with_run B G_depths F_sum_with_run
  have ok_factorial : FnOk P w K mg base CX0 1 _ fd_factorial ps_factorial (liftC K (C_factorial (clK K))) := ok_factorial B  F_factorial
  have ok_is_between : FnOk P w K mg base CX0 2 _ fd_is_between ps_is_between (liftC K (C_is_between (clK K))) := ok_is_between B G_is_integer F_is_between
  have G_is_between : Fnd P w K mg base "is_between" 3 [] (C_is_between (clK K)) 2 := ⟨_, fd_is_between, ps_is_between, [], [], He.glo_ok X G (c.t.d.fact 54 (f := .glo "is_between") rfl), F_is_between.kp, F_is_between.bindsN fun _ _ _ _ _ _ us hl => match us, hl with | [_, _, _], _ => rfl, .nil, fun _ => .nil, ok_is_between⟩
  have ok_require_number : FnOk P w K mg base CX0 3 _ fd_require_number ps_require_number (liftC K (C_require_number (clK K))) := ok_require_number B G_is_between F_require_number
  have G_sum_with_run : Fnd P w K mg base "sum_with_run" 4 [] (C_sum_with_run (clK K)) 3 := ⟨_, fd_sum_with_run, ps_sum_with_run, [], [], He.glo_ok X G (c.t.d.fact 69 (f := .glo "sum_with_run") rfl), F_sum_with_run.kp, F_sum_with_run.bindsN fun _ _ _ _ _ _ us hl => match us, hl with | [_, _, _, _], _ => rfl, .nil, fun _ => .nil, ok_sum_with_run⟩
  have G_factorial : Fnd P w K mg base "factorial" 1 [] (C_factorial (clK K)) 1 := ⟨_, fd_factorial, ps_factorial, [], [], He.glo_ok X G (c.t.d.fact 68 (f := .glo "factorial") rfl), F_factorial.kp, F_factorial.bindsN fun _ _ _ _ _ _ us hl => match us, hl with | [_], _ => rfl, .nil, fun _ => .nil, ok_factorial⟩
  have G_require_number : Fnd P w K mg base "require_number" 4 [] (C_require_number (clK K)) 3 := ⟨_, fd_require_number, ps_require_number, [], [], He.glo_ok X G (c.t.d.fact 56 (f := .glo "require_number") rfl), F_require_number.kp, F_require_number.bindsN fun _ _ _ _ _ _ us hl => match us, hl with | [_, _, _, _], _ => rfl, .nil, fun _ => .nil, ok_require_number⟩
  have ok_sum_of : FnOk P w K mg base CX0 4 _ fd_sum_of ps_sum_of (liftC K (C_sum_of (clK K))) := ok_sum_of B G_sum_with_run G_factorial G_depths G_require_number F_sum_of
  have ok__law_source : FnOk P w K mg base CX0 1 _ fd__law_source ps__law_source (liftC K (C__law_source (clK K))) := ok__law_source B  F__law_source
  have ok__law_orders : FnOk P w K mg base CX0 1 _ fd__law_orders ps__law_orders (liftC K (C__law_orders (clK K))) := ok__law_orders B  F__law_orders
  have ok__law_ways : FnOk P w K mg base CX0 2 _ fd__law_ways ps__law_ways (liftC K (C__law_ways (clK K))) := ok__law_ways B G__law_spots F__law_ways
  have G__law_ways : Fnd P w K mg base "_law_ways" 3 [] (C__law_ways (clK K)) 2 := ⟨_, fd__law_ways, ps__law_ways, [], [], He.glo_ok X G (c.t.d.fact 86 (f := .glo "_law_ways") rfl), F__law_ways.kp, F__law_ways.bindsN fun _ _ _ _ _ _ us hl => match us, hl with | [_, _, _], _ => rfl, .nil, fun _ => .nil, ok__law_ways⟩
  have ok__law_step : FnOk P w K mg base CX0 3 _ fd__law_step ps__law_step (liftC K (C__law_step (clK K))) := ok__law_step B G__law_ways F__law_step
  have G__law_step : Fnd P w K mg base "_law_step" 2 [] (C__law_step (clK K)) 3 := ⟨_, fd__law_step, ps__law_step, [], [], He.glo_ok X G (c.t.d.fact 87 (f := .glo "_law_step") rfl), F__law_step.kp, F__law_step.bindsN fun _ _ _ _ _ _ us hl => match us, hl with | [_, _], _ => rfl, .nil, fun _ => .nil, ok__law_step⟩
  have ok__law_sums : FnOk P w K mg base CX0 4 _ fd__law_sums ps__law_sums (liftC K (C__law_sums (clK K))) := ok__law_sums B G__law_step F__law_sums
  have G_count_of_1 : Fnd P w K mg base "count_of" 1 [.bl false] (C_count_of (clK K)) 8 := by
    obtain ⟨ds, r, b⟩ := F_count_of.binds0 (ps := ps_count_of) 1 (List.cons_ne_nil _ _) rfl fun D doc pm an cdv ct us its l1 l2 => match us, its, l1, l2 with | [_], [_], _, _ => ⟨_, _, _, _, _, _, rfl, rfl, rfl⟩
    exact ⟨_, fd_count_of, ps_count_of, ds, _, He.glo_ok X G (c.t.d.fact 77 (f := .glo "count_of") rfl), F_count_of.kp, b, r, fun _ => (.cons .bl .nil), ok_count_of⟩
  have G__law_sorted_count : Fnd P w K mg base "_law_sorted_count" 1 [] (C__law_sorted_count (clK K)) 3 := ⟨_, fd__law_sorted_count, ps__law_sorted_count, [], [], He.glo_ok X G (c.t.d.fact 84 (f := .glo "_law_sorted_count") rfl), F__law_sorted_count.kp, F__law_sorted_count.bindsN fun _ _ _ _ _ _ us hl => match us, hl with | [_], _ => rfl, .nil, fun _ => .nil, ok__law_sorted_count⟩
  have G__law_draw : Fnd P w K mg base "_law_draw" 2 [] (C__law_draw (clK K)) 1 := ⟨_, fd__law_draw, ps__law_draw, [], [], He.glo_ok X G (c.t.d.fact 79 (f := .glo "_law_draw") rfl), F__law_draw.kp, F__law_draw.bindsN fun _ _ _ _ _ _ us hl => match us, hl with | [_, _], _ => rfl, .nil, fun _ => .nil, ok__law_draw⟩
  have G_sum_of__k0_many : Fnk P w K mg base "sum_of" 0 ["many"] g_sum_of__k0_many (C_sum_of (clK K)) 4 := ⟨_, fd_sum_of, ps_sum_of, _, _, He.glo_ok X G (c.t.d.fact 70 (f := .glo "sum_of") rfl), F_sum_of.kp, kb_plain F_sum_of [0] (fun _ _ _ _ _ _ us ws l1 l2 => match us, ws, l1, l2 with | [], [_], _, _ => rfl), fun _ ds es vs us r1 r2 l1 l2 => match ds, es, vs, us, r1, r2, l1, l2 with | [], [_], [], [_], .nil, .cons b0 .nil, _, _ => .cons b0 .nil, ok_sum_of⟩
  have G__law_source : Fnd P w K mg base "_law_source" 1 [] (C__law_source (clK K)) 1 := ⟨_, fd__law_source, ps__law_source, [], [], He.glo_ok X G (c.t.d.fact 78 (f := .glo "_law_source") rfl), F__law_source.kp, F__law_source.bindsN fun _ _ _ _ _ _ us hl => match us, hl with | [_], _ => rfl, .nil, fun _ => .nil, ok__law_source⟩
  have G__law_orders : Fnd P w K mg base "_law_orders" 1 [] (C__law_orders (clK K)) 1 := ⟨_, fd__law_orders, ps__law_orders, [], [], He.glo_ok X G (c.t.d.fact 85 (f := .glo "_law_orders") rfl), F__law_orders.kp, F__law_orders.bindsN fun _ _ _ _ _ _ us hl => match us, hl with | [_], _ => rfl, .nil, fun _ => .nil, ok__law_orders⟩
  have G_sum_of : Fnd P w K mg base "sum_of" 1 [] (C_sum_of (clK K)) 4 := ⟨_, fd_sum_of, ps_sum_of, [], [], He.glo_ok X G (c.t.d.fact 70 (f := .glo "sum_of") rfl), F_sum_of.kp, F_sum_of.bindsN fun _ _ _ _ _ _ us hl => match us, hl with | [_], _ => rfl, .nil, fun _ => .nil, ok_sum_of⟩
  have G__law_sums : Fnd P w K mg base "_law_sums" 0 [] (C__law_sums (clK K)) 4 := ⟨_, fd__law_sums, ps__law_sums, [], [], He.glo_ok X G (c.t.d.fact 88 (f := .glo "_law_sums") rfl), F__law_sums.kp, F__law_sums.bindsN fun _ _ _ _ _ _ us hl => match us, hl with | [], _ => rfl, .nil, fun _ => .nil, ok__law_sums⟩
  have ok_law : FnOk P w K mg base CX0 9 _ fd_law ps_law (liftC K (C_law76 (clK K))) := ok_law B G_count_of_1 G__law_sorted_count G__law_draw G_sum_of__k0_many G__law_source G__law_orders G_sum_of G__law_sums F_law
  exact ok_law
end K76
open PySem PySem.W PySem.Calls PyProof.Rows
theorem PySem.Challenge.cw_askedorder_k76_questions_of_all_orders_holds : PySem.Challenge.rw_askedorder_k76_questions_of_all_orders.Holds := by
  w_on; o_law
  refine HandSHeadRun.head_any (r := OpenLaw.row PySem.Challenge.rw_askedorder_k76_questions_of_all_orders) (q := view (OpenLaw.row PySem.Challenge.rw_askedorder_k76_questions_of_all_orders).prog [58]) (H := K76.hk) (ob := K76.ob) (M := 6000) (loose := K76.loose) (d := HandSHeadRun.topDef (OpenLaw.row PySem.Challenge.rw_askedorder_k76_questions_of_all_orders).prog 58) (kwd := []) K76.ob_eq
    (by kernel_rfl) (fun s => by kernel_rfl) K76.run (by kernel_rfl) (by kernel_rfl) (by kernel_rfl) (by rfl) (by first | assumption | decide +kernel) (by decide +kernel) ⟨rfl, rfl, rfl, rfl, rfl, by decide +kernel⟩ ?hw ?hc
  case hw => w_witness2
  case hc =>
    refine LamX.walk_ofTsE (l := PySem.Challenge.rw_askedorder_k76_questions_of_all_orders) (n := 63) (k := 9) (x := "script") (CX := fun _ => L2.CX0) rfl (by decide) (by kernel_rfl) ⟨rfl, by decide, by decide⟩ ?F (fun _ _ _ _ _ z => z)
    intro w mg fa h Y G hmg0
    obtain ⟨K, KX, c⟩ := Y
    have hmg : mg ("law" : PySem.Str) = some (.ref fa) := by
      have e : (HandSHeadRun.topDef (OpenLaw.row PySem.Challenge.rw_askedorder_k76_questions_of_all_orders).prog 58).name = ("law" : PySem.Str) := by kernel_rfl
      rw [← e]
      exact hmg0
    obtain ⟨fd, hb, hF⟩ := K76.facts (P := (PySem.Challenge.rw_askedorder_k76_questions_of_all_orders).prog) (w := w) KX G hmg c
    have hat : ∀ p ∈ ([("_law_run_due", none)] : List He.Defn), p ∈ DL.lamNames := by decide +kernel
    refine ⟨K, KX, fd, ([("_law_run_due", none)] : List He.Defn).map (He.cT K), DL.liftC K (DL.C_law76 (K76.clK K)), fun p hp => ?_, fun p hp => ?_, fun p hp => ?_, hb, fun H a ns hl hbits hT hS => ?_, hF⟩
    · obtain ⟨q, hq, rfl⟩ := List.mem_map.mp hp
      exact c.empty q hq
    · obtain ⟨q, hq, rfl⟩ := List.mem_map.mp hp
      exact c.out q hq
    · obtain ⟨q, hq, rfl⟩ := List.mem_map.mp hp
      exact PySem.W.codeHd_of_K KX (c.hd q hq)
    · have hT2 : ∀ q ∈ ([("_law_run_due", none)] : List He.Defn), DL.TabG (K76.clK K) q H := fun q hq => DL.tabG_start (hT _ (List.mem_map.mpr ⟨q, hq, rfl⟩))
      have st : ∀ q ∈ ([("_law_run_due", none)] : List He.Defn), ∀ H1 H2, DL.TabG (K76.clK K) q H1 → DL.TK K H1 H2 → DL.TabG (K76.clK K) q H2 := fun q hq => DL.TabG.st rfl (hat q hq)
      exact DL.law_startT (PP := DL.TabG (K76.clK K) DL.atDue) (g := 0) (hT2 _ (by decide +kernel)) (st _ (by decide +kernel)) hS fun o ho => ⟨a, ns, rfl, by rcases ho with rfl | rfl <;> simp, by omega, rfl⟩
